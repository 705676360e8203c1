/- law_RenderBack is true -/
import Derived.Test.YtmlmnddnklhfpaaGreatDoorBBase3
import Derived.Test.YtmlmnddnklhfpaaGreatDoorBabcPlain2
import Derived.Test.YtmlmnddnklhfpaaGreatDoorBbFun1
set_option linter.all false
namespace Pam
open Go
theorem FM(n:Nat)(hn:9000000<n)(p:az)(h:p.sz≤1048576):lH (n+40) p=some true:=by
 have hs:=uz h
 unfold lH
 rw [xz n oM,bSq,iP rfl]
 obtain ⟨g,hg⟩:=u7 (n+40) p hs oM
 rw [hg,bSq]
 by_cases c:g=true
 ·rw [iP c]
 rw [iN c,qB _ oM p h,bSq]
 by_cases k:(kf (n+40) p).code=0
 ·obtain ⟨q,h1,h2⟩:=uH (n+40) oM p h k
  have hl:=(rn k).2
  simp only [k,not_true,if_false,if_true]
  rw [h1,bSq,iP rfl,Cz _ _ _ hs.ok oM,bSq,iP (oG.2 h2)]
  exact congrArg some (dT oM)
 ·simp only [k,not_false_eq_true,if_true]
  rw [A4 _ oM p h,bSq]
  simp
theorem th(p:az)(_:p.ok)(h:p.sz≤1048576):∃ fuel,lH fuel p=some true:=⟨9000041,FM 9000001 dM p h⟩
end Pam
