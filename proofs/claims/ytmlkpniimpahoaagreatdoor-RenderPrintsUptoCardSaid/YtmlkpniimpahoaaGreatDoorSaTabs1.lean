/- the table of powers lies where the row says -/
import Derived.LaidSub
import Derived.Lib.LaidTab
import Derived.Test.YtmlkpniimpahoaaGreatDoorSTypes1
import Derived.Test.YtmlkpniimpahoaaGreatDoorRows
set_option linter.all false
namespace Go.Proofs
open Go Pam
set_option maxRecDepth 100000 in
theorem Tryz.tabs_of_laid {W:World} {l:List (String×DataW Unit)} (hl:((l.filter fun x=>x.1 == "internal/strconv.uint64pow10").filter fun x=>x.2.handleName?.isNone)=[("internal/strconv.uint64pow10",Lib.tabData .u64 Lib.pow10Tab)])
    (h:laidMetH Tryz.prog l W):wQ fun b=>W.heap[b]? := by
  have h1:=(laidMetH_iff.1 (h.filter fun x=>x.1 == "internal/strconv.uint64pow10")).1
  rw [hl] at h1
  have h2:=Lib.tabIs_of_head (g:=1) (t:=181) (e:=169) (n:=20) qW (by kernel_rfl) Tryz.underlying181 Tryz.underlying169 (by kernel_rfl) (by kernel_rfl) h1
  intro b c hb
  unfold tbC at hb
  split at hb
  · rename_i e
    subst e
    obtain rfl:=Option.some.inj hb
    unfold Lib.TabIs World.var? at h2
    rw [qW] at h2
    simp only [Option.bind_some] at h2
    show ∃ T fr,W.heap[Bk]? = _
    cases hw:W.heap[Bk]? with
    |none=>rw [hw] at h2;cases h2
    |some o =>
      rw [hw] at h2
      cases o with
      |cells cs T fr =>
        simp only [Option.some.injEq] at h2
        refine ⟨T,fr,?_⟩
        rw [h2,Lib.pow10Tab,List.map_map]
        rfl
      |_=>cases h2
  · cases hb
end Go.Proofs
