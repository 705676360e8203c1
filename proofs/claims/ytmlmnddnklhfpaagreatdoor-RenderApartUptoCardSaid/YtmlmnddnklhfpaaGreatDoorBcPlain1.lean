/- law_RenderApart is true -/
import Derived.Test.YtmlmnddnklhfpaaGreatDoorBBase3
import Derived.Test.YtmlmnddnklhfpaaGreatDoorBabcPlain2
import Derived.Test.YtmlmnddnklhfpaaGreatDoorBcFun1
set_option linter.all false
namespace Pam
open Go
theorem DU(n:Nat)(hn:9000000<n)(a b:az)(ha:a.sz≤1048576)(hb:b.sz≤1048576):lc (n+40) a b=some true:=by
 have sa:=uz ha
 have sb:=uz hb
 unfold lc
 rw [xz n oM,bSq,iP rfl]
 obtain ⟨g,hg⟩:=u7 (n+40) a sa oM
 rw [hg,bSq]
 by_cases c:g=true
 ·rw [iP c]
 obtain ⟨g2,hg2⟩:=u7 (n+40) b sb oM
 rw [iN c,hg2,bSq]
 by_cases c2:g2=true
 ·rw [iP c2]
 rw [iN c2,qB _ oM a ha,bSq,qB _ oM b hb,bSq]
 by_cases k:(kf (n+40) a).code=0
 ·by_cases k2:(kf (n+40) b).code=0
  ·simp only [k,k2,not_true,if_false,if_true]
   rw [Cz _ _ _ sa.ok oM,bSq]
   obtain ⟨q,h1,h2⟩:=uH (n+40) oM a ha k
   obtain ⟨q2,h3,h4⟩:=uH (n+40) oM b hb k2
   have:(iH (n+40) a == iH (n+40) b)=dec (sh a b):=by
    by_cases r:sh a b
    ·rw [oG.2 r,uG _ r];simp
    ·rw [Cy r,beq_eq_false_iff_ne]
     intro e
     rw [e,h3] at h1
     simp only [sJ,Prod.mk.injEq,and_true] at h1
     rw [← h1] at h2
     exact r (A9 h2 (BW h4))
   rw [this];simp
  ·simp only [k,k2,not_true,not_false_eq_true,if_false,if_true]
 ·simp only [k,not_false_eq_true,if_true]
theorem sG(a b:az)(_:a.ok)(_:b.ok)(h:a.sz+b.sz≤1048576):∃ fuel,lc fuel a b=some true:=⟨9000041,DU 9000001 dM a b oM oM⟩
end Pam
