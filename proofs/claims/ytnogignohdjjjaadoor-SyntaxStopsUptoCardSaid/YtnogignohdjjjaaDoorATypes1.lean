/- Facts of the types that the proofs of this seat speak of, read off the program by the kernel. Printed by a program of ours. -/
import Derived.Test.YtnogignohdjjjaaDoorProg
import Derived.Test.YtnogignohdjjjaaDoorABase1
import Derived.Shelf.LaysC
import Derived.Test.YtnogignohdjjjaaDoorABase2
set_option linter.all false
namespace Pam
open Go Go.Proofs
def tab:Nat→TD
  |2=>{ ok:=true,size:=1,bytes:=8,int:=true,kind:=.i64,zero:=some [.int .i64 0] }
  |3=>{ ok:=true,size:=1,bytes:=8,int:=true,kind:=.i64,zero:=some [.int .i64 0] }
  |4=>{ ok:=true,size:=1,bytes:=1,bool:=true,zero:=some [.bool false] }
  |5=>{ ok:=true,size:=1,bytes:=1,int:=true,kind:=.u8,zero:=some [.int .u8 0] }
  |9=>{ ok:=true,size:=1,bytes:=16,str:=true,zero:=some [.str []] }
  |21=>{ ok:=true,size:=1,bytes:=4,int:=true,kind:=.i32,zero:=some [.int .i32 0] }
  |23=>{ ok:=true,size:=1,bytes:=24,sl:=true,elem:=41,zero:=some [.nils] }
  |25=>{ ok:=true,size:=1,bytes:=24,agg:=true,fs:=[(0,23)],fk:=true,zero:=some [.nils] }
  |27=>{ ok:=true,size:=2,bytes:=16,agg:=true,fs:=[(0,3),(1,3)],fk:=true,flat:=some [1,1],zero:=some [.int .i64 0,.int .i64 0] }
  |30=>{ ok:=true,size:=1,bytes:=24,sl:=true,elem:=35,zero:=some [.nils] }
  |33=>{ ok:=true,size:=1,bytes:=8,int:=true,kind:=.u64,zero:=some [.int .u64 0] }
  |35=>{ ok:=true,size:=4,bytes:=40,agg:=true,fs:=[(0,3),(1,3),(2,9),(3,2)],fk:=true,flat:=some [1,1,2,1],zero:=some [.int .i64 0,.int .i64 0,.str [],.int .i64 0] }
  |37=>{ ok:=true,size:=1,bytes:=24,sl:=true,elem:=9,zero:=some [.nils] }
  |38=>{ ok:=true,size:=1,bytes:=24,sl:=true,elem:=76,zero:=some [.nils] }
  |39=>{ ok:=true,size:=1,bytes:=24,sl:=true,elem:=45,zero:=some [.nils] }
  |41=>{ ok:=true,size:=7,bytes:=144,agg:=true,fs:=[(0,9),(1,3),(2,37),(3,38),(4,38),(5,38),(6,39)],fk:=true,zero:=some [.str [],.int .i64 0,.nils,.nils,.nils,.nils,.nils] }
  |42=>{ ok:=true,size:=1,bytes:=24,sl:=true,elem:=72,zero:=some [.nils] }
  |43=>{ ok:=true,size:=1,bytes:=24,sl:=true,elem:=47,zero:=some [.nils] }
  |45=>{ ok:=true,size:=5,bytes:=96,agg:=true,fs:=[(0,3),(1,37),(2,9),(3,42),(4,43)],fk:=true,zero:=some [.int .i64 0,.nils,.str [],.nils,.nils] }
  |47=>{ ok:=true,size:=6,bytes:=88,agg:=true,fs:=[(0,3),(1,3),(2,2),(3,9),(4,42),(5,43)],fk:=true,zero:=some [.int .i64 0,.int .i64 0,.int .i64 0,.str [],.nils,.nils] }
  |48=>{ ok:=true,size:=2,bytes:=16,agg:=true,fs:=[(0,3),(1,3)],fk:=true,flat:=some [1,1],zero:=some [.int .i64 0,.int .i64 0] }
  |50=>{ ok:=true,size:=1,bytes:=8,ptr:=true,zero:=some [.nilp] }
  |52=>{ ok:=true,size:=4,bytes:=48,agg:=true,fs:=[(0,30),(1,3),(2,3),(3,3)],fk:=true,zero:=some [.nils,.int .i64 0,.int .i64 0,.int .i64 0] }
  |61=>{ ok:=true,size:=1,bytes:=8,ptr:=true,zero:=some [.nilp] }
  |63=>{ ok:=true,size:=3,bytes:=48,agg:=true,fs:=[(0,9),(1,3),(2,30)],fk:=true,zero:=some [.str [],.int .i64 0,.nils] }
  |67=>{ ok:=true,size:=1,bytes:=8,zero:=some [.nilf] }
  |72=>{ ok:=true,size:=1,bytes:=24,sl:=true,elem:=95,zero:=some [.nils] }
  |74=>{ ok:=true,size:=2,bytes:=32,agg:=true,fs:=[(0,5),(1,72)],fk:=true,zero:=some [.int .u8 0,.nils] }
  |76=>{ ok:=true,size:=3,bytes:=48,agg:=true,fs:=[(0,9),(1,74)],fk:=true,zero:=some [.str [],.int .u8 0,.nils] }
  |77=>{ ok:=true,size:=1,bytes:=8,zero:=some [.nilf] }
  |84=>{ ok:=true,size:=1,bytes:=8,zero:=some [.nilf] }
  |86=>{ ok:=true,size:=1,bytes:=8,zero:=some [.nilf] }
  |95=>{ ok:=true,size:=2,bytes:=24,agg:=true,fs:=[(0,2),(1,9)],fk:=true,flat:=some [1,2],zero:=some [.int .i64 0,.str []] }
  |101=>{ ok:=true,size:=1,bytes:=8,int:=true,kind:=.u64,zero:=some [.int .u64 0] }
  |108=>{ ok:=true,size:=1,bytes:=24,sl:=true,elem:=37,zero:=some [.nils] }
  |109=>{ ok:=true,size:=1,bytes:=24,sl:=true,elem:=3,zero:=some [.nils] }
  |110=>{ ok:=true,size:=1,bytes:=24,sl:=true,elem:=109,zero:=some [.nils] }
  |112=>{ ok:=true,size:=1,bytes:=24,sl:=true,elem:=5,zero:=some [.nils] }
  |115=>{ ok:=true,size:=3,bytes:=48,agg:=true,fs:=[(0,9),(1,9),(2,89)],fk:=true,zero:=some [.str [],.str [],.nili] }
  |118=>{ ok:=true,size:=1,bytes:=8,ptr:=true,zero:=some [.nilp] }
  |121=>{ ok:=true,size:=1,bytes:=16,agg:=true,fs:=[(0,9)],fk:=true,flat:=some [2],zero:=some [.str []] }
  |125=>{ ok:=true,size:=24,bytes:=24,agg:=true,arr:=true,elem:=5,alen:=24,zero:=some [.int .u8 0,.int .u8 0,.int .u8 0,.int .u8 0,.int .u8 0,.int .u8 0,.int .u8 0,.int .u8 0,.int .u8 0,.int .u8 0,.int .u8 0,.int .u8 0,.int .u8 0,.int .u8 0,.int .u8 0,.int .u8 0,.int .u8 0,.int .u8 0,.int .u8 0,.int .u8 0,.int .u8 0,.int .u8 0,.int .u8 0,.int .u8 0] }
  |131=>{ ok:=true,size:=20,bytes:=160,agg:=true,arr:=true,elem:=101,alen:=20,zero:=some [.int .u64 0,.int .u64 0,.int .u64 0,.int .u64 0,.int .u64 0,.int .u64 0,.int .u64 0,.int .u64 0,.int .u64 0,.int .u64 0,.int .u64 0,.int .u64 0,.int .u64 0,.int .u64 0,.int .u64 0,.int .u64 0,.int .u64 0,.int .u64 0,.int .u64 0,.int .u64 0] }
  |132=>{ ok:=true,size:=1,bytes:=4,int:=true,kind:=.u32,zero:=some [.int .u32 0] }
  |133=>{ ok:=true,size:=65,bytes:=65,agg:=true,arr:=true,elem:=5,alen:=65,zero:=some [.int .u8 0,.int .u8 0,.int .u8 0,.int .u8 0,.int .u8 0,.int .u8 0,.int .u8 0,.int .u8 0,.int .u8 0,.int .u8 0,.int .u8 0,.int .u8 0,.int .u8 0,.int .u8 0,.int .u8 0,.int .u8 0,.int .u8 0,.int .u8 0,.int .u8 0,.int .u8 0,.int .u8 0,.int .u8 0,.int .u8 0,.int .u8 0,.int .u8 0,.int .u8 0,.int .u8 0,.int .u8 0,.int .u8 0,.int .u8 0,.int .u8 0,.int .u8 0,.int .u8 0,.int .u8 0,.int .u8 0,.int .u8 0,.int .u8 0,.int .u8 0,.int .u8 0,.int .u8 0,.int .u8 0,.int .u8 0,.int .u8 0,.int .u8 0,.int .u8 0,.int .u8 0,.int .u8 0,.int .u8 0,.int .u8 0,.int .u8 0,.int .u8 0,.int .u8 0,.int .u8 0,.int .u8 0,.int .u8 0,.int .u8 0,.int .u8 0,.int .u8 0,.int .u8 0,.int .u8 0,.int .u8 0,.int .u8 0,.int .u8 0,.int .u8 0,.int .u8 0] }
  |137=>{ ok:=true,size:=32,bytes:=32,agg:=true,arr:=true,elem:=5,alen:=32,zero:=some [.int .u8 0,.int .u8 0,.int .u8 0,.int .u8 0,.int .u8 0,.int .u8 0,.int .u8 0,.int .u8 0,.int .u8 0,.int .u8 0,.int .u8 0,.int .u8 0,.int .u8 0,.int .u8 0,.int .u8 0,.int .u8 0,.int .u8 0,.int .u8 0,.int .u8 0,.int .u8 0,.int .u8 0,.int .u8 0,.int .u8 0,.int .u8 0,.int .u8 0,.int .u8 0,.int .u8 0,.int .u8 0,.int .u8 0,.int .u8 0,.int .u8 0,.int .u8 0] }
  |138=>{ ok:=true,size:=64,bytes:=64,agg:=true,arr:=true,elem:=5,alen:=64,zero:=some [.int .u8 0,.int .u8 0,.int .u8 0,.int .u8 0,.int .u8 0,.int .u8 0,.int .u8 0,.int .u8 0,.int .u8 0,.int .u8 0,.int .u8 0,.int .u8 0,.int .u8 0,.int .u8 0,.int .u8 0,.int .u8 0,.int .u8 0,.int .u8 0,.int .u8 0,.int .u8 0,.int .u8 0,.int .u8 0,.int .u8 0,.int .u8 0,.int .u8 0,.int .u8 0,.int .u8 0,.int .u8 0,.int .u8 0,.int .u8 0,.int .u8 0,.int .u8 0,.int .u8 0,.int .u8 0,.int .u8 0,.int .u8 0,.int .u8 0,.int .u8 0,.int .u8 0,.int .u8 0,.int .u8 0,.int .u8 0,.int .u8 0,.int .u8 0,.int .u8 0,.int .u8 0,.int .u8 0,.int .u8 0,.int .u8 0,.int .u8 0,.int .u8 0,.int .u8 0,.int .u8 0,.int .u8 0,.int .u8 0,.int .u8 0,.int .u8 0,.int .u8 0,.int .u8 0,.int .u8 0,.int .u8 0,.int .u8 0,.int .u8 0,.int .u8 0] }
  |_=>{}
theorem vJ:cO Tryd.prog 2 (tab 2) :=
  by constructor<;>first|kernel_rfl|exact fun i hi=>by simp [tab] at hi
theorem vK:cO Tryd.prog 3 (tab 3) :=
  by constructor<;>first|kernel_rfl|exact fun i hi=>by simp [tab] at hi
theorem vL:cO Tryd.prog 4 (tab 4) :=
  by constructor<;>first|kernel_rfl|exact fun i hi=>by simp [tab] at hi
theorem vM:cO Tryd.prog 5 (tab 5) :=
  by constructor<;>first|kernel_rfl|exact fun i hi=>by simp [tab] at hi
theorem vN:cO Tryd.prog 9 (tab 9) :=
  by constructor<;>first|kernel_rfl|exact fun i hi=>by simp [tab] at hi
theorem uG:cO Tryd.prog 21 (tab 21) :=
  by constructor<;>first|kernel_rfl|exact fun i hi=>by simp [tab] at hi
theorem uH:cO Tryd.prog 23 (tab 23) :=
  by constructor<;>first|kernel_rfl|exact fun i hi=>by simp [tab] at hi
theorem uI:cO Tryd.prog 25 (tab 25) :=
  ⟨by kernel_rfl,by kernel_rfl,by kernel_rfl,by kernel_rfl,by kernel_rfl,by kernel_rfl,by kernel_rfl,by kernel_rfl,by kernel_rfl,by kernel_rfl,by kernel_rfl,by kernel_rfl,by kernel_rfl,by kernel_rfl,by kernel_rfl,by kernel_rfl,by kernel_rfl,
    fun i hi=>by
      have hi:i<1:=hi
      match i,hi with
      |0,_=>exact ⟨by kernel_rfl,by kernel_rfl,by kernel_rfl⟩⟩
theorem uJ:cO Tryd.prog 27 (tab 27) :=
  ⟨by kernel_rfl,by kernel_rfl,by kernel_rfl,by kernel_rfl,by kernel_rfl,by kernel_rfl,by kernel_rfl,by kernel_rfl,by kernel_rfl,by kernel_rfl,by kernel_rfl,by kernel_rfl,by kernel_rfl,by kernel_rfl,by kernel_rfl,by kernel_rfl,by kernel_rfl,
    fun i hi=>by
      have hi:i<2:=hi
      match i,hi with
      |0,_=>exact ⟨by kernel_rfl,by kernel_rfl,by kernel_rfl⟩
      |1,_=>exact ⟨by kernel_rfl,by kernel_rfl,by kernel_rfl⟩⟩
theorem uK:cO Tryd.prog 30 (tab 30) :=
  by constructor<;>first|kernel_rfl|exact fun i hi=>by simp [tab] at hi
theorem uL:cO Tryd.prog 33 (tab 33) :=
  by constructor<;>first|kernel_rfl|exact fun i hi=>by simp [tab] at hi
theorem uM:cO Tryd.prog 35 (tab 35) :=
  ⟨by kernel_rfl,by kernel_rfl,by kernel_rfl,by kernel_rfl,by kernel_rfl,by kernel_rfl,by kernel_rfl,by kernel_rfl,by kernel_rfl,by kernel_rfl,by kernel_rfl,by kernel_rfl,by kernel_rfl,by kernel_rfl,by kernel_rfl,by kernel_rfl,by kernel_rfl,
    fun i hi=>by
      have hi:i<4:=hi
      match i,hi with
      |0,_=>exact ⟨by kernel_rfl,by kernel_rfl,by kernel_rfl⟩
      |1,_=>exact ⟨by kernel_rfl,by kernel_rfl,by kernel_rfl⟩
      |2,_=>exact ⟨by kernel_rfl,by kernel_rfl,by kernel_rfl⟩
      |3,_=>exact ⟨by kernel_rfl,by kernel_rfl,by kernel_rfl⟩⟩
theorem uN:cO Tryd.prog 37 (tab 37) :=
  by constructor<;>first|kernel_rfl|exact fun i hi=>by simp [tab] at hi
theorem uO:cO Tryd.prog 38 (tab 38) :=
  by constructor<;>first|kernel_rfl|exact fun i hi=>by simp [tab] at hi
theorem uP:cO Tryd.prog 39 (tab 39) :=
  by constructor<;>first|kernel_rfl|exact fun i hi=>by simp [tab] at hi
theorem uQ:cO Tryd.prog 41 (tab 41) :=
  ⟨by kernel_rfl,by kernel_rfl,by kernel_rfl,by kernel_rfl,by kernel_rfl,by kernel_rfl,by kernel_rfl,by kernel_rfl,by kernel_rfl,by kernel_rfl,by kernel_rfl,by kernel_rfl,by kernel_rfl,by kernel_rfl,by kernel_rfl,by kernel_rfl,by kernel_rfl,
    fun i hi=>by
      have hi:i<7:=hi
      match i,hi with
      |0,_=>exact ⟨by kernel_rfl,by kernel_rfl,by kernel_rfl⟩
      |1,_=>exact ⟨by kernel_rfl,by kernel_rfl,by kernel_rfl⟩
      |2,_=>exact ⟨by kernel_rfl,by kernel_rfl,by kernel_rfl⟩
      |3,_=>exact ⟨by kernel_rfl,by kernel_rfl,by kernel_rfl⟩
      |4,_=>exact ⟨by kernel_rfl,by kernel_rfl,by kernel_rfl⟩
      |5,_=>exact ⟨by kernel_rfl,by kernel_rfl,by kernel_rfl⟩
      |6,_=>exact ⟨by kernel_rfl,by kernel_rfl,by kernel_rfl⟩⟩
theorem uR:cO Tryd.prog 42 (tab 42) :=
  by constructor<;>first|kernel_rfl|exact fun i hi=>by simp [tab] at hi
theorem uS:cO Tryd.prog 43 (tab 43) :=
  by constructor<;>first|kernel_rfl|exact fun i hi=>by simp [tab] at hi
theorem uT:cO Tryd.prog 45 (tab 45) :=
  ⟨by kernel_rfl,by kernel_rfl,by kernel_rfl,by kernel_rfl,by kernel_rfl,by kernel_rfl,by kernel_rfl,by kernel_rfl,by kernel_rfl,by kernel_rfl,by kernel_rfl,by kernel_rfl,by kernel_rfl,by kernel_rfl,by kernel_rfl,by kernel_rfl,by kernel_rfl,
    fun i hi=>by
      have hi:i<5:=hi
      match i,hi with
      |0,_=>exact ⟨by kernel_rfl,by kernel_rfl,by kernel_rfl⟩
      |1,_=>exact ⟨by kernel_rfl,by kernel_rfl,by kernel_rfl⟩
      |2,_=>exact ⟨by kernel_rfl,by kernel_rfl,by kernel_rfl⟩
      |3,_=>exact ⟨by kernel_rfl,by kernel_rfl,by kernel_rfl⟩
      |4,_=>exact ⟨by kernel_rfl,by kernel_rfl,by kernel_rfl⟩⟩
theorem uU:cO Tryd.prog 47 (tab 47) :=
  ⟨by kernel_rfl,by kernel_rfl,by kernel_rfl,by kernel_rfl,by kernel_rfl,by kernel_rfl,by kernel_rfl,by kernel_rfl,by kernel_rfl,by kernel_rfl,by kernel_rfl,by kernel_rfl,by kernel_rfl,by kernel_rfl,by kernel_rfl,by kernel_rfl,by kernel_rfl,
    fun i hi=>by
      have hi:i<6:=hi
      match i,hi with
      |0,_=>exact ⟨by kernel_rfl,by kernel_rfl,by kernel_rfl⟩
      |1,_=>exact ⟨by kernel_rfl,by kernel_rfl,by kernel_rfl⟩
      |2,_=>exact ⟨by kernel_rfl,by kernel_rfl,by kernel_rfl⟩
      |3,_=>exact ⟨by kernel_rfl,by kernel_rfl,by kernel_rfl⟩
      |4,_=>exact ⟨by kernel_rfl,by kernel_rfl,by kernel_rfl⟩
      |5,_=>exact ⟨by kernel_rfl,by kernel_rfl,by kernel_rfl⟩⟩
theorem uV:cO Tryd.prog 48 (tab 48) :=
  ⟨by kernel_rfl,by kernel_rfl,by kernel_rfl,by kernel_rfl,by kernel_rfl,by kernel_rfl,by kernel_rfl,by kernel_rfl,by kernel_rfl,by kernel_rfl,by kernel_rfl,by kernel_rfl,by kernel_rfl,by kernel_rfl,by kernel_rfl,by kernel_rfl,by kernel_rfl,
    fun i hi=>by
      have hi:i<2:=hi
      match i,hi with
      |0,_=>exact ⟨by kernel_rfl,by kernel_rfl,by kernel_rfl⟩
      |1,_=>exact ⟨by kernel_rfl,by kernel_rfl,by kernel_rfl⟩⟩
theorem uW:cO Tryd.prog 50 (tab 50) :=
  by constructor<;>first|kernel_rfl|exact fun i hi=>by simp [tab] at hi
theorem uX:cO Tryd.prog 52 (tab 52) :=
  ⟨by kernel_rfl,by kernel_rfl,by kernel_rfl,by kernel_rfl,by kernel_rfl,by kernel_rfl,by kernel_rfl,by kernel_rfl,by kernel_rfl,by kernel_rfl,by kernel_rfl,by kernel_rfl,by kernel_rfl,by kernel_rfl,by kernel_rfl,by kernel_rfl,by kernel_rfl,
    fun i hi=>by
      have hi:i<4:=hi
      match i,hi with
      |0,_=>exact ⟨by kernel_rfl,by kernel_rfl,by kernel_rfl⟩
      |1,_=>exact ⟨by kernel_rfl,by kernel_rfl,by kernel_rfl⟩
      |2,_=>exact ⟨by kernel_rfl,by kernel_rfl,by kernel_rfl⟩
      |3,_=>exact ⟨by kernel_rfl,by kernel_rfl,by kernel_rfl⟩⟩
theorem uY:cO Tryd.prog 61 (tab 61) :=
  by constructor<;>first|kernel_rfl|exact fun i hi=>by simp [tab] at hi
theorem uZ:cO Tryd.prog 63 (tab 63) :=
  ⟨by kernel_rfl,by kernel_rfl,by kernel_rfl,by kernel_rfl,by kernel_rfl,by kernel_rfl,by kernel_rfl,by kernel_rfl,by kernel_rfl,by kernel_rfl,by kernel_rfl,by kernel_rfl,by kernel_rfl,by kernel_rfl,by kernel_rfl,by kernel_rfl,by kernel_rfl,
    fun i hi=>by
      have hi:i<3:=hi
      match i,hi with
      |0,_=>exact ⟨by kernel_rfl,by kernel_rfl,by kernel_rfl⟩
      |1,_=>exact ⟨by kernel_rfl,by kernel_rfl,by kernel_rfl⟩
      |2,_=>exact ⟨by kernel_rfl,by kernel_rfl,by kernel_rfl⟩⟩
theorem u0:cO Tryd.prog 67 (tab 67) :=
  by constructor<;>first|kernel_rfl|exact fun i hi=>by simp [tab] at hi
theorem u7:cO Tryd.prog 72 (tab 72) :=
  by constructor<;>first|kernel_rfl|exact fun i hi=>by simp [tab] at hi
theorem u9:cO Tryd.prog 74 (tab 74) :=
  ⟨by kernel_rfl,by kernel_rfl,by kernel_rfl,by kernel_rfl,by kernel_rfl,by kernel_rfl,by kernel_rfl,by kernel_rfl,by kernel_rfl,by kernel_rfl,by kernel_rfl,by kernel_rfl,by kernel_rfl,by kernel_rfl,by kernel_rfl,by kernel_rfl,by kernel_rfl,
    fun i hi=>by
      have hi:i<2:=hi
      match i,hi with
      |0,_=>exact ⟨by kernel_rfl,by kernel_rfl,by kernel_rfl⟩
      |1,_=>exact ⟨by kernel_rfl,by kernel_rfl,by kernel_rfl⟩⟩
theorem vc:cO Tryd.prog 76 (tab 76) :=
  ⟨by kernel_rfl,by kernel_rfl,by kernel_rfl,by kernel_rfl,by kernel_rfl,by kernel_rfl,by kernel_rfl,by kernel_rfl,by kernel_rfl,by kernel_rfl,by kernel_rfl,by kernel_rfl,by kernel_rfl,by kernel_rfl,by kernel_rfl,by kernel_rfl,by kernel_rfl,
    fun i hi=>by
      have hi:i<2:=hi
      match i,hi with
      |0,_=>exact ⟨by kernel_rfl,by kernel_rfl,by kernel_rfl⟩
      |1,_=>exact ⟨by kernel_rfl,by kernel_rfl,by kernel_rfl⟩⟩
theorem vd:cO Tryd.prog 77 (tab 77) :=
  by constructor<;>first|kernel_rfl|exact fun i hi=>by simp [tab] at hi
theorem ve:cO Tryd.prog 84 (tab 84) :=
  by constructor<;>first|kernel_rfl|exact fun i hi=>by simp [tab] at hi
theorem vf:cO Tryd.prog 86 (tab 86) :=
  by constructor<;>first|kernel_rfl|exact fun i hi=>by simp [tab] at hi
theorem vg:cO Tryd.prog 95 (tab 95) :=
  ⟨by kernel_rfl,by kernel_rfl,by kernel_rfl,by kernel_rfl,by kernel_rfl,by kernel_rfl,by kernel_rfl,by kernel_rfl,by kernel_rfl,by kernel_rfl,by kernel_rfl,by kernel_rfl,by kernel_rfl,by kernel_rfl,by kernel_rfl,by kernel_rfl,by kernel_rfl,
    fun i hi=>by
      have hi:i<2:=hi
      match i,hi with
      |0,_=>exact ⟨by kernel_rfl,by kernel_rfl,by kernel_rfl⟩
      |1,_=>exact ⟨by kernel_rfl,by kernel_rfl,by kernel_rfl⟩⟩
theorem tW:cO Tryd.prog 101 (tab 101) :=
  by constructor<;>first|kernel_rfl|exact fun i hi=>by simp [tab] at hi
theorem tX:cO Tryd.prog 108 (tab 108) :=
  by constructor<;>first|kernel_rfl|exact fun i hi=>by simp [tab] at hi
theorem tY:cO Tryd.prog 109 (tab 109) :=
  by constructor<;>first|kernel_rfl|exact fun i hi=>by simp [tab] at hi
theorem tZ:cO Tryd.prog 110 (tab 110) :=
  by constructor<;>first|kernel_rfl|exact fun i hi=>by simp [tab] at hi
theorem t8:cO Tryd.prog 112 (tab 112) :=
  by constructor<;>first|kernel_rfl|exact fun i hi=>by simp [tab] at hi
theorem ua:cO Tryd.prog 115 (tab 115) :=
  ⟨by kernel_rfl,by kernel_rfl,by kernel_rfl,by kernel_rfl,by kernel_rfl,by kernel_rfl,by kernel_rfl,by kernel_rfl,by kernel_rfl,by kernel_rfl,by kernel_rfl,by kernel_rfl,by kernel_rfl,by kernel_rfl,by kernel_rfl,by kernel_rfl,by kernel_rfl,
    fun i hi=>by
      have hi:i<3:=hi
      match i,hi with
      |0,_=>exact ⟨by kernel_rfl,by kernel_rfl,by kernel_rfl⟩
      |1,_=>exact ⟨by kernel_rfl,by kernel_rfl,by kernel_rfl⟩
      |2,_=>exact ⟨by kernel_rfl,by kernel_rfl,by kernel_rfl⟩⟩
theorem ub:cO Tryd.prog 118 (tab 118) :=
  by constructor<;>first|kernel_rfl|exact fun i hi=>by simp [tab] at hi
theorem uc:cO Tryd.prog 121 (tab 121) :=
  ⟨by kernel_rfl,by kernel_rfl,by kernel_rfl,by kernel_rfl,by kernel_rfl,by kernel_rfl,by kernel_rfl,by kernel_rfl,by kernel_rfl,by kernel_rfl,by kernel_rfl,by kernel_rfl,by kernel_rfl,by kernel_rfl,by kernel_rfl,by kernel_rfl,by kernel_rfl,
    fun i hi=>by
      have hi:i<1:=hi
      match i,hi with
      |0,_=>exact ⟨by kernel_rfl,by kernel_rfl,by kernel_rfl⟩⟩
theorem ud:cO Tryd.prog 125 (tab 125) :=
  by constructor<;>first|kernel_rfl|exact fun i hi=>by simp [tab] at hi
theorem ue:cO Tryd.prog 131 (tab 131) :=
  by constructor<;>first|kernel_rfl|exact fun i hi=>by simp [tab] at hi
theorem uf:cO Tryd.prog 132 (tab 132) :=
  by constructor<;>first|kernel_rfl|exact fun i hi=>by simp [tab] at hi
theorem ug:cO Tryd.prog 133 (tab 133) :=
  by constructor<;>first|kernel_rfl|exact fun i hi=>by simp [tab] at hi
theorem uh:cO Tryd.prog 137 (tab 137) :=
  by constructor<;>first|kernel_rfl|exact fun i hi=>by simp [tab] at hi
theorem ui:cO Tryd.prog 138 (tab 138) :=
  by constructor<;>first|kernel_rfl|exact fun i hi=>by simp [tab] at hi
theorem fK(T:TypeId)(h:(tab T).ok=true):cO Tryd.prog T (tab T):=by
  unfold tab at h
  split at h
  · exact vJ
  · exact vK
  · exact vL
  · exact vM
  · exact vN
  · exact uG
  · exact uH
  · exact uI
  · exact uJ
  · exact uK
  · exact uL
  · exact uM
  · exact uN
  · exact uO
  · exact uP
  · exact uQ
  · exact uR
  · exact uS
  · exact uT
  · exact uU
  · exact uV
  · exact uW
  · exact uX
  · exact uY
  · exact uZ
  · exact u0
  · exact u7
  · exact u9
  · exact vc
  · exact vd
  · exact ve
  · exact vf
  · exact vg
  · exact tW
  · exact tX
  · exact tY
  · exact tZ
  · exact t8
  · exact ua
  · exact ub
  · exact uc
  · exact ud
  · exact ue
  · exact uf
  · exact ug
  · exact uh
  · exact ui
  · cases h
theorem s9{T:TypeId}(h:(tab T).ok=true):bu Tryd.prog T=true:=(fK T h).known
theorem vh{T:TypeId}(h:(tab T).ok=true):(Tryd.prog.underlying T).isSome=true:=(fK T h).und
theorem uj{T:TypeId}(h:(tab T).ok=true):Tryd.prog.cellsOf T=(tab T).size:=(fK T h).size
theorem tc{T:TypeId}(h:(tab T).ok=true):Tryd.prog.bytesOf T=(tab T).bytes:=(fK T h).bytes
theorem vi{T:TypeId}(h:(tab T).ok=true):ig Tryd.prog T=(tab T).agg:=(fK T h).agg
theorem vO{T:TypeId}(h:(tab T).ok=true):fS Tryd.prog T=(tab T).sl:=(fK T h).sl
theorem vj{T:TypeId}(h:(tab T).ok=true):jj Tryd.prog T=(tab T).arr:=(fK T h).arr
theorem vl{T:TypeId}(h:(tab T).ok=true):iE Tryd.prog T=(tab T).str:=(fK T h).str
theorem uk{T:TypeId}(h:(tab T).ok=true):m8 Tryd.prog T=(tab T).bool:=(fK T h).bool
theorem vm{T:TypeId}(h:(tab T).ok=true):m9 Tryd.prog T=(tab T).int:=(fK T h).int
theorem vn{T:TypeId}(h:(tab T).ok=true):qy Tryd.prog T=(tab T).ptr:=(fK T h).ptr
theorem ul{T:TypeId}(h:(tab T).ok=true):Tryd.prog.elem T=(tab T).elem:=(fK T h).elem
theorem um{T:TypeId}(h:(tab T).ok=true):Tryd.prog.arrayLen T=(tab T).alen:=(fK T h).alen
theorem un{T:TypeId}(h:(tab T).ok=true):Tryd.prog.intKind T=(tab T).kind:=(fK T h).kind
theorem vP{T:TypeId}(h:(tab T).ok=true):ir Tryd.prog T=(tab T).fk:=(fK T h).fk
theorem uo{T:TypeId}(h:(tab T).ok=true):hO Tryd.prog T=(tab T).zero:=(fK T h).zero
theorem up{T:TypeId}(h:(tab T).ok=true):pi Tryd.prog T=(tab T).flat:=(fK T h).flat
theorem vo{T:TypeId}{i:Nat}(h:(tab T).ok=true)(hi:i<(tab T).fs.length):ji Tryd.prog T i=true:=((fK T h).fld i hi).1
theorem uq{T:TypeId}{i:Nat}(h:(tab T).ok=true)(hi:i<(tab T).fs.length):gB Tryd.prog T i=((tab T).fs.getD i (0,0)).1:=((fK T h).fld i hi).2.1
theorem vp{T:TypeId}{i:Nat}(h:(tab T).ok=true)(hi:i<(tab T).fs.length):kM Tryd.prog T i=((tab T).fs.getD i (0,0)).2:=((fK T h).fld i hi).2.2
def bT:=And.intro (And.intro (And.intro (And.intro @s9 @vh) (And.intro @uj @tc)) (And.intro (And.intro @vi @vO) (And.intro @vj @vl))) (And.intro (And.intro (And.intro @uk @vm) (And.intro @vn @ul)) (And.intro (And.intro (And.intro @um @un) (And.intro @vP @uo)) (And.intro (And.intro @up @vo) (And.intro @uq @vp))))
end Pam
namespace Go.Proofs
open Go.Shelf
def Tryd.lays174_ren:Go.Shelf.Ren:=⟨fun|174=>42|247=>46|245=>47|287=>52|279=>53|280=>54|281=>55|282=>56|321=>61|322=>62|316=>63|171=>65|205=>64|243=>69|246=>74|283=>75|284=>76|285=>77|286=>78|129=>80|317=>79|318=>81|319=>82|320=>83|337=>84|338=>85|n=>n,fun|9=>9|3=>3|2=>2|75=>89|85=>90|4=>4|167=>100|5=>5|53=>101|175=>102|46=>33|168=>104|37=>112|0=>0|210=>115|21=>21|127=>118|145=>121|143=>119|171=>125|173=>128|212=>131|51=>132|20=>20|213=>133|232=>137|233=>138|80=>67|n=>n,fun|15=>0|16=>1|17=>2|18=>3|19=>4|n=>n⟩
theorem Tryd.lays174:Go.Proofs.LaysC.n174 Tryd.prog Tryd.lays174_ren:={
  mixed:=by kernel_rfl
  f129:=Tryd.func80.trans (congrArg some (by kernel_rfl))
  f171:=Tryd.func65.trans (congrArg some (by kernel_rfl))
  f174:=Tryd.func42.trans (congrArg some (by kernel_rfl))
  f205:=Tryd.func64.trans (congrArg some (by kernel_rfl))
  f243:=Tryd.func69.trans (congrArg some (by kernel_rfl))
  f245:=Tryd.func47.trans (congrArg some (by kernel_rfl))
  f246:=Tryd.func74.trans (congrArg some (by kernel_rfl))
  f247:=Tryd.func46.trans (congrArg some (by kernel_rfl))
  f279:=Tryd.func53.trans (congrArg some (by kernel_rfl))
  f280:=Tryd.func54.trans (congrArg some (by kernel_rfl))
  f281:=Tryd.func55.trans (congrArg some (by kernel_rfl))
  f282:=Tryd.func56.trans (congrArg some (by kernel_rfl))
  f283:=Tryd.func75.trans (congrArg some (by kernel_rfl))
  f284:=Tryd.func76.trans (congrArg some (by kernel_rfl))
  f285:=Tryd.func77.trans (congrArg some (by kernel_rfl))
  f286:=Tryd.func78.trans (congrArg some (by kernel_rfl))
  f287:=Tryd.func52.trans (congrArg some (by kernel_rfl))
  f316:=Tryd.func63.trans (congrArg some (by kernel_rfl))
  f317:=Tryd.func79.trans (congrArg some (by kernel_rfl))
  f318:=Tryd.func81.trans (congrArg some (by kernel_rfl))
  f319:=Tryd.func82.trans (congrArg some (by kernel_rfl))
  f320:=Tryd.func83.trans (congrArg some (by kernel_rfl))
  f321:=Tryd.func61.trans (congrArg some (by kernel_rfl))
  f322:=Tryd.func62.trans (congrArg some (by kernel_rfl))
  f337:=Tryd.func84.trans (congrArg some (by kernel_rfl))
  f338:=Tryd.func85.trans (congrArg some (by kernel_rfl))
  t0:=Tryd.underlying0
  a0:=Tryd.isAgg0
  z0:=Tryd.sizeOf0
  v0:=Tryd.zeroValue0
  t2:=Tryd.underlying2
  a2:=Tryd.isAgg2
  z2:=Tryd.sizeOf2
  v2:=Tryd.zeroValue2
  t3:=Tryd.underlying3
  a3:=Tryd.isAgg3
  z3:=Tryd.sizeOf3
  v3:=Tryd.zeroValue3
  t4:=Tryd.underlying4
  a4:=Tryd.isAgg4
  z4:=Tryd.sizeOf4
  v4:=Tryd.zeroValue4
  t5:=Tryd.underlying5
  a5:=Tryd.isAgg5
  z5:=Tryd.sizeOf5
  v5:=Tryd.zeroValue5
  t9:=Tryd.underlying9
  a9:=Tryd.isAgg9
  z9:=Tryd.sizeOf9
  v9:=Tryd.zeroValue9
  t20:=Tryd.underlying20
  a20:=Tryd.isAgg20
  z20:=Tryd.sizeOf20
  v20:=Tryd.zeroValue20
  t21:=Tryd.underlying21
  a21:=Tryd.isAgg21
  z21:=Tryd.sizeOf21
  v21:=Tryd.zeroValue21
  t37:=Tryd.underlying112
  a37:=Tryd.isAgg112
  z37:=Tryd.sizeOf112
  v37:=Tryd.zeroValue112
  t46:=Tryd.underlying33
  a46:=Tryd.isAgg33
  z46:=Tryd.sizeOf33
  v46:=Tryd.zeroValue33
  t51:=Tryd.underlying132
  a51:=Tryd.isAgg132
  z51:=Tryd.sizeOf132
  v51:=Tryd.zeroValue132
  t53:=Tryd.underlying101
  a53:=Tryd.isAgg101
  z53:=Tryd.sizeOf101
  v53:=Tryd.zeroValue101
  t75:=Tryd.underlying89
  a75:=Tryd.isAgg89
  z75:=Tryd.sizeOf89
  v75:=Tryd.zeroValue89
  t85:=Tryd.underlying90
  a85:=Tryd.isAgg90
  z85:=Tryd.sizeOf90
  v85:=Tryd.zeroValue90
  t127:=Tryd.underlying118
  a127:=Tryd.isAgg118
  z127:=Tryd.sizeOf118
  v127:=Tryd.zeroValue118
  t143:=Tryd.underlying119
  a143:=Tryd.isAgg119
  z143:=Tryd.sizeOf119
  v143:=Tryd.zeroValue119
  t145:=Tryd.underlying121
  a145:=Tryd.isAgg121
  z145:=Tryd.sizeOf121
  v145:=Tryd.zeroValue121
  t167:=Tryd.underlying100
  a167:=Tryd.isAgg100
  z167:=Tryd.sizeOf100
  v167:=Tryd.zeroValue100
  t168:=Tryd.underlying104
  a168:=Tryd.isAgg104
  z168:=Tryd.sizeOf104
  v168:=Tryd.zeroValue104
  t171:=Tryd.underlying125
  a171:=Tryd.isAgg125
  z171:=Tryd.sizeOf125
  v171:=Tryd.zeroValue125
  t173:=Tryd.underlying128
  a173:=Tryd.isAgg128
  z173:=Tryd.sizeOf128
  v173:=Tryd.zeroValue128
  t175:=Tryd.underlying102
  a175:=Tryd.isAgg102
  z175:=Tryd.sizeOf102
  v175:=Tryd.zeroValue102
  t210:=Tryd.underlying115
  a210:=Tryd.isAgg115
  z210:=Tryd.sizeOf115
  v210:=Tryd.zeroValue115
  t212:=Tryd.underlying131
  a212:=Tryd.isAgg131
  z212:=Tryd.sizeOf131
  v212:=Tryd.zeroValue131
  t213:=Tryd.underlying133
  a213:=Tryd.isAgg133
  z213:=Tryd.sizeOf133
  t232:=Tryd.underlying137
  a232:=Tryd.isAgg137
  z232:=Tryd.sizeOf137
  v232:=Tryd.zeroValue137
  t233:=Tryd.underlying138
  a233:=Tryd.isAgg138
  z233:=Tryd.sizeOf138
  v233:=Tryd.zeroValue138
  g15:=by kernel_rfl
  g16:=by kernel_rfl
  g17:=by kernel_rfl
  g18:=by kernel_rfl
  g19:=by kernel_rfl
  t80:=Tryd.underlying67
  a80:=Tryd.isAgg67
  z80:=Tryd.sizeOf67
  v80:=Tryd.zeroValue67
  i0:=by kernel_rfl
  i2:=by kernel_rfl
  i3:=by kernel_rfl
  i4:=by kernel_rfl
  i5:=by kernel_rfl
  i9:=by kernel_rfl
  i20:=by kernel_rfl
  i21:=by kernel_rfl
  i37:=by kernel_rfl
  i46:=by kernel_rfl
  i51:=by kernel_rfl
  i53:=by kernel_rfl
  i75:=by kernel_rfl
  i80:=by kernel_rfl
  i85:=by kernel_rfl
  i127:=by kernel_rfl
  i143:=by kernel_rfl
  i145:=by kernel_rfl
  i167:=by kernel_rfl
  i168:=by kernel_rfl
  i171:=by kernel_rfl
  i173:=by kernel_rfl
  i175:=by kernel_rfl
  i210:=by kernel_rfl
  i212:=by kernel_rfl
  i232:=by kernel_rfl
  i233:=by kernel_rfl
  m15:=by kernel_rfl
  m16:=by kernel_rfl
  m17:=by kernel_rfl
  m18:=by kernel_rfl
  m19:=by kernel_rfl
  c0:=by kernel_rfl
  c2:=by kernel_rfl
  c3:=by kernel_rfl
  c4:=by kernel_rfl
  c5:=by kernel_rfl
  c9:=by kernel_rfl
  c20:=by kernel_rfl
  c21:=by kernel_rfl
  c37:=by kernel_rfl
  c46:=by kernel_rfl
  c51:=by kernel_rfl
  c53:=by kernel_rfl
  c75:=by kernel_rfl
  c80:=by kernel_rfl
  c85:=by kernel_rfl
  c127:=by kernel_rfl
  c143:=by kernel_rfl
  c145:=by kernel_rfl
  c167:=by kernel_rfl
  c168:=by kernel_rfl
  c171:=by kernel_rfl
  c173:=by kernel_rfl
  c175:=by kernel_rfl
  c210:=by kernel_rfl
  c212:=by kernel_rfl
  c213:=by kernel_rfl
  c232:=by kernel_rfl
  c233:=by kernel_rfl }
end Go.Proofs
namespace Pam
open Go Go.Proofs
theorem qn:LaysC.n174 Tryd.prog Tryd.lays174_ren:=Tryd.lays174
end Pam
