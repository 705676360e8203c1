/- Facts of the types that the proofs of this seat speak of, read off the program by the kernel. Printed by a program of ours. -/
import Derived.Test.YtnogignohdjjjaaGreatDoorProg
import Derived.Test.YtnogignohdjjjaaGreatDoorJBase1
import Derived.Shelf.LaysC
import Derived.Test.YtnogignohdjjjaaGreatDoorJBase3
set_option linter.all false
namespace Pam
open Go Go.Proofs
def tab:Nat→TD
  |2=>{ ok:=true,size:=1,bytes:=8,int:=true,kind:=.i64,zero:=some [.int .i64 0] }
  |3=>{ ok:=true,size:=1,bytes:=8,int:=true,kind:=.i64,zero:=some [.int .i64 0] }
  |4=>{ ok:=true,size:=1,bytes:=1,bool:=true,zero:=some [.bool false] }
  |5=>{ ok:=true,size:=1,bytes:=1,int:=true,kind:=.u8,zero:=some [.int .u8 0] }
  |9=>{ ok:=true,size:=1,bytes:=16,str:=true,zero:=some [.str []] }
  |21=>{ ok:=true,size:=1,bytes:=4,int:=true,kind:=.i32,zero:=some [.int .i32 0] }
  |23=>{ ok:=true,size:=1,bytes:=24,sl:=true,elem:=42,zero:=some [.nils] }
  |25=>{ ok:=true,size:=1,bytes:=24,agg:=true,fs:=[(0,23)],fk:=true,zero:=some [.nils] }
  |27=>{ ok:=true,size:=2,bytes:=16,agg:=true,fs:=[(0,3),(1,3)],fk:=true,flat:=some [1,1],zero:=some [.int .i64 0,.int .i64 0] }
  |35=>{ ok:=true,size:=1,bytes:=24,sl:=true,elem:=79,zero:=some [.nils] }
  |38=>{ ok:=true,size:=1,bytes:=24,sl:=true,elem:=9,zero:=some [.nils] }
  |39=>{ ok:=true,size:=1,bytes:=24,sl:=true,elem:=96,zero:=some [.nils] }
  |40=>{ ok:=true,size:=1,bytes:=24,sl:=true,elem:=47,zero:=some [.nils] }
  |42=>{ ok:=true,size:=7,bytes:=144,agg:=true,fs:=[(0,9),(1,3),(2,38),(3,39),(4,39),(5,39),(6,40)],fk:=true,zero:=some [.str [],.int .i64 0,.nils,.nils,.nils,.nils,.nils] }
  |44=>{ ok:=true,size:=1,bytes:=24,sl:=true,elem:=92,zero:=some [.nils] }
  |45=>{ ok:=true,size:=1,bytes:=24,sl:=true,elem:=49,zero:=some [.nils] }
  |47=>{ ok:=true,size:=5,bytes:=96,agg:=true,fs:=[(0,3),(1,38),(2,9),(3,44),(4,45)],fk:=true,zero:=some [.int .i64 0,.nils,.str [],.nils,.nils] }
  |49=>{ ok:=true,size:=6,bytes:=88,agg:=true,fs:=[(0,3),(1,3),(2,2),(3,9),(4,44),(5,45)],fk:=true,zero:=some [.int .i64 0,.int .i64 0,.int .i64 0,.str [],.nils,.nils] }
  |50=>{ ok:=true,size:=2,bytes:=16,agg:=true,fs:=[(0,3),(1,3)],fk:=true,flat:=some [1,1],zero:=some [.int .i64 0,.int .i64 0] }
  |52=>{ ok:=true,size:=1,bytes:=8,ptr:=true,zero:=some [.nilp] }
  |54=>{ ok:=true,size:=4,bytes:=48,agg:=true,fs:=[(0,35),(1,3),(2,3),(3,3)],fk:=true,zero:=some [.nils,.int .i64 0,.int .i64 0,.int .i64 0] }
  |58=>{ ok:=true,size:=1,bytes:=8,ptr:=true,zero:=some [.nilp] }
  |60=>{ ok:=true,size:=6,bytes:=64,agg:=true,fs:=[(0,35),(1,3),(2,3),(3,27),(5,3)],fk:=true,zero:=some [.nils,.int .i64 0,.int .i64 0,.int .i64 0,.int .i64 0,.int .i64 0] }
  |70=>{ ok:=true,size:=1,bytes:=8,zero:=some [.nilf] }
  |79=>{ ok:=true,size:=4,bytes:=40,agg:=true,fs:=[(0,3),(1,3),(2,9),(3,2)],fk:=true,flat:=some [1,1,2,1],zero:=some [.int .i64 0,.int .i64 0,.str [],.int .i64 0] }
  |81=>{ ok:=true,size:=1,bytes:=8,ptr:=true,zero:=some [.nilp] }
  |83=>{ ok:=true,size:=3,bytes:=48,agg:=true,fs:=[(0,9),(1,3),(2,35)],fk:=true,zero:=some [.str [],.int .i64 0,.nils] }
  |87=>{ ok:=true,size:=1,bytes:=8,zero:=some [.nilf] }
  |92=>{ ok:=true,size:=1,bytes:=24,sl:=true,elem:=104,zero:=some [.nils] }
  |94=>{ ok:=true,size:=2,bytes:=32,agg:=true,fs:=[(0,5),(1,92)],fk:=true,zero:=some [.int .u8 0,.nils] }
  |96=>{ ok:=true,size:=3,bytes:=48,agg:=true,fs:=[(0,9),(1,94)],fk:=true,zero:=some [.str [],.int .u8 0,.nils] }
  |97=>{ ok:=true,size:=1,bytes:=8,zero:=some [.nilf] }
  |102=>{ ok:=true,size:=1,bytes:=8,zero:=some [.nilf] }
  |104=>{ ok:=true,size:=2,bytes:=24,agg:=true,fs:=[(0,2),(1,9)],fk:=true,flat:=some [1,2],zero:=some [.int .i64 0,.str []] }
  |106=>{ ok:=true,size:=1,bytes:=8,zero:=some [.nilf] }
  |108=>{ ok:=true,size:=1,bytes:=8,zero:=some [.nilf] }
  |114=>{ ok:=true,size:=1,bytes:=8,zero:=some [.nilf] }
  |116=>{ ok:=true,size:=1,bytes:=8,zero:=some [.nilf] }
  |122=>{ ok:=true,size:=1,bytes:=8,zero:=some [.nilf] }
  |133=>{ ok:=true,size:=1,bytes:=24,sl:=true,elem:=38,zero:=some [.nils] }
  |134=>{ ok:=true,size:=1,bytes:=24,sl:=true,elem:=3,zero:=some [.nils] }
  |135=>{ ok:=true,size:=1,bytes:=24,sl:=true,elem:=134,zero:=some [.nils] }
  |137=>{ ok:=true,size:=1,bytes:=8,int:=true,kind:=.u64,zero:=some [.int .u64 0] }
  |140=>{ ok:=true,size:=1,bytes:=8,int:=true,kind:=.u64,zero:=some [.int .u64 0] }
  |147=>{ ok:=true,size:=1,bytes:=24,sl:=true,elem:=5,zero:=some [.nils] }
  |150=>{ ok:=true,size:=3,bytes:=48,agg:=true,fs:=[(0,9),(1,9),(2,124)],fk:=true,zero:=some [.str [],.str [],.nili] }
  |154=>{ ok:=true,size:=1,bytes:=8,ptr:=true,zero:=some [.nilp] }
  |157=>{ ok:=true,size:=1,bytes:=16,agg:=true,fs:=[(0,9)],fk:=true,flat:=some [2],zero:=some [.str []] }
  |161=>{ ok:=true,size:=24,bytes:=24,agg:=true,arr:=true,elem:=5,alen:=24,zero:=some [.int .u8 0,.int .u8 0,.int .u8 0,.int .u8 0,.int .u8 0,.int .u8 0,.int .u8 0,.int .u8 0,.int .u8 0,.int .u8 0,.int .u8 0,.int .u8 0,.int .u8 0,.int .u8 0,.int .u8 0,.int .u8 0,.int .u8 0,.int .u8 0,.int .u8 0,.int .u8 0,.int .u8 0,.int .u8 0,.int .u8 0,.int .u8 0] }
  |167=>{ ok:=true,size:=20,bytes:=160,agg:=true,arr:=true,elem:=137,alen:=20,zero:=some [.int .u64 0,.int .u64 0,.int .u64 0,.int .u64 0,.int .u64 0,.int .u64 0,.int .u64 0,.int .u64 0,.int .u64 0,.int .u64 0,.int .u64 0,.int .u64 0,.int .u64 0,.int .u64 0,.int .u64 0,.int .u64 0,.int .u64 0,.int .u64 0,.int .u64 0,.int .u64 0] }
  |168=>{ ok:=true,size:=1,bytes:=4,int:=true,kind:=.u32,zero:=some [.int .u32 0] }
  |169=>{ ok:=true,size:=65,bytes:=65,agg:=true,arr:=true,elem:=5,alen:=65,zero:=some [.int .u8 0,.int .u8 0,.int .u8 0,.int .u8 0,.int .u8 0,.int .u8 0,.int .u8 0,.int .u8 0,.int .u8 0,.int .u8 0,.int .u8 0,.int .u8 0,.int .u8 0,.int .u8 0,.int .u8 0,.int .u8 0,.int .u8 0,.int .u8 0,.int .u8 0,.int .u8 0,.int .u8 0,.int .u8 0,.int .u8 0,.int .u8 0,.int .u8 0,.int .u8 0,.int .u8 0,.int .u8 0,.int .u8 0,.int .u8 0,.int .u8 0,.int .u8 0,.int .u8 0,.int .u8 0,.int .u8 0,.int .u8 0,.int .u8 0,.int .u8 0,.int .u8 0,.int .u8 0,.int .u8 0,.int .u8 0,.int .u8 0,.int .u8 0,.int .u8 0,.int .u8 0,.int .u8 0,.int .u8 0,.int .u8 0,.int .u8 0,.int .u8 0,.int .u8 0,.int .u8 0,.int .u8 0,.int .u8 0,.int .u8 0,.int .u8 0,.int .u8 0,.int .u8 0,.int .u8 0,.int .u8 0,.int .u8 0,.int .u8 0,.int .u8 0,.int .u8 0] }
  |172=>{ ok:=true,size:=32,bytes:=32,agg:=true,arr:=true,elem:=5,alen:=32,zero:=some [.int .u8 0,.int .u8 0,.int .u8 0,.int .u8 0,.int .u8 0,.int .u8 0,.int .u8 0,.int .u8 0,.int .u8 0,.int .u8 0,.int .u8 0,.int .u8 0,.int .u8 0,.int .u8 0,.int .u8 0,.int .u8 0,.int .u8 0,.int .u8 0,.int .u8 0,.int .u8 0,.int .u8 0,.int .u8 0,.int .u8 0,.int .u8 0,.int .u8 0,.int .u8 0,.int .u8 0,.int .u8 0,.int .u8 0,.int .u8 0,.int .u8 0,.int .u8 0] }
  |173=>{ ok:=true,size:=64,bytes:=64,agg:=true,arr:=true,elem:=5,alen:=64,zero:=some [.int .u8 0,.int .u8 0,.int .u8 0,.int .u8 0,.int .u8 0,.int .u8 0,.int .u8 0,.int .u8 0,.int .u8 0,.int .u8 0,.int .u8 0,.int .u8 0,.int .u8 0,.int .u8 0,.int .u8 0,.int .u8 0,.int .u8 0,.int .u8 0,.int .u8 0,.int .u8 0,.int .u8 0,.int .u8 0,.int .u8 0,.int .u8 0,.int .u8 0,.int .u8 0,.int .u8 0,.int .u8 0,.int .u8 0,.int .u8 0,.int .u8 0,.int .u8 0,.int .u8 0,.int .u8 0,.int .u8 0,.int .u8 0,.int .u8 0,.int .u8 0,.int .u8 0,.int .u8 0,.int .u8 0,.int .u8 0,.int .u8 0,.int .u8 0,.int .u8 0,.int .u8 0,.int .u8 0,.int .u8 0,.int .u8 0,.int .u8 0,.int .u8 0,.int .u8 0,.int .u8 0,.int .u8 0,.int .u8 0,.int .u8 0,.int .u8 0,.int .u8 0,.int .u8 0,.int .u8 0,.int .u8 0,.int .u8 0,.int .u8 0,.int .u8 0] }
  |_=>{}
theorem AJ:dD Tryz.prog 2 (tab 2) :=
  by constructor<;>first|kernel_rfl|exact fun i hi=>by simp [tab] at hi
theorem AL:dD Tryz.prog 3 (tab 3) :=
  by constructor<;>first|kernel_rfl|exact fun i hi=>by simp [tab] at hi
theorem AM:dD Tryz.prog 4 (tab 4) :=
  by constructor<;>first|kernel_rfl|exact fun i hi=>by simp [tab] at hi
theorem AN:dD Tryz.prog 5 (tab 5) :=
  by constructor<;>first|kernel_rfl|exact fun i hi=>by simp [tab] at hi
theorem AO:dD Tryz.prog 9 (tab 9) :=
  by constructor<;>first|kernel_rfl|exact fun i hi=>by simp [tab] at hi
theorem zo:dD Tryz.prog 21 (tab 21) :=
  by constructor<;>first|kernel_rfl|exact fun i hi=>by simp [tab] at hi
theorem zp:dD Tryz.prog 23 (tab 23) :=
  by constructor<;>first|kernel_rfl|exact fun i hi=>by simp [tab] at hi
theorem zq:dD Tryz.prog 25 (tab 25) :=
  ⟨by kernel_rfl,by kernel_rfl,by kernel_rfl,by kernel_rfl,by kernel_rfl,by kernel_rfl,by kernel_rfl,by kernel_rfl,by kernel_rfl,by kernel_rfl,by kernel_rfl,by kernel_rfl,by kernel_rfl,by kernel_rfl,by kernel_rfl,by kernel_rfl,by kernel_rfl,
    fun i hi=>by
      have hi:i<1:=hi
      match i,hi with
      |0,_=>exact ⟨by kernel_rfl,by kernel_rfl,by kernel_rfl⟩⟩
theorem zr:dD Tryz.prog 27 (tab 27) :=
  ⟨by kernel_rfl,by kernel_rfl,by kernel_rfl,by kernel_rfl,by kernel_rfl,by kernel_rfl,by kernel_rfl,by kernel_rfl,by kernel_rfl,by kernel_rfl,by kernel_rfl,by kernel_rfl,by kernel_rfl,by kernel_rfl,by kernel_rfl,by kernel_rfl,by kernel_rfl,
    fun i hi=>by
      have hi:i<2:=hi
      match i,hi with
      |0,_=>exact ⟨by kernel_rfl,by kernel_rfl,by kernel_rfl⟩
      |1,_=>exact ⟨by kernel_rfl,by kernel_rfl,by kernel_rfl⟩⟩
theorem zs:dD Tryz.prog 35 (tab 35) :=
  by constructor<;>first|kernel_rfl|exact fun i hi=>by simp [tab] at hi
theorem zt:dD Tryz.prog 38 (tab 38) :=
  by constructor<;>first|kernel_rfl|exact fun i hi=>by simp [tab] at hi
theorem zv:dD Tryz.prog 39 (tab 39) :=
  by constructor<;>first|kernel_rfl|exact fun i hi=>by simp [tab] at hi
theorem zw:dD Tryz.prog 40 (tab 40) :=
  by constructor<;>first|kernel_rfl|exact fun i hi=>by simp [tab] at hi
theorem zx:dD Tryz.prog 42 (tab 42) :=
  ⟨by kernel_rfl,by kernel_rfl,by kernel_rfl,by kernel_rfl,by kernel_rfl,by kernel_rfl,by kernel_rfl,by kernel_rfl,by kernel_rfl,by kernel_rfl,by kernel_rfl,by kernel_rfl,by kernel_rfl,by kernel_rfl,by kernel_rfl,by kernel_rfl,by kernel_rfl,
    fun i hi=>by
      have hi:i<7:=hi
      match i,hi with
      |0,_=>exact ⟨by kernel_rfl,by kernel_rfl,by kernel_rfl⟩
      |1,_=>exact ⟨by kernel_rfl,by kernel_rfl,by kernel_rfl⟩
      |2,_=>exact ⟨by kernel_rfl,by kernel_rfl,by kernel_rfl⟩
      |3,_=>exact ⟨by kernel_rfl,by kernel_rfl,by kernel_rfl⟩
      |4,_=>exact ⟨by kernel_rfl,by kernel_rfl,by kernel_rfl⟩
      |5,_=>exact ⟨by kernel_rfl,by kernel_rfl,by kernel_rfl⟩
      |6,_=>exact ⟨by kernel_rfl,by kernel_rfl,by kernel_rfl⟩⟩
theorem zy:dD Tryz.prog 44 (tab 44) :=
  by constructor<;>first|kernel_rfl|exact fun i hi=>by simp [tab] at hi
theorem zz:dD Tryz.prog 45 (tab 45) :=
  by constructor<;>first|kernel_rfl|exact fun i hi=>by simp [tab] at hi
theorem zA:dD Tryz.prog 47 (tab 47) :=
  ⟨by kernel_rfl,by kernel_rfl,by kernel_rfl,by kernel_rfl,by kernel_rfl,by kernel_rfl,by kernel_rfl,by kernel_rfl,by kernel_rfl,by kernel_rfl,by kernel_rfl,by kernel_rfl,by kernel_rfl,by kernel_rfl,by kernel_rfl,by kernel_rfl,by kernel_rfl,
    fun i hi=>by
      have hi:i<5:=hi
      match i,hi with
      |0,_=>exact ⟨by kernel_rfl,by kernel_rfl,by kernel_rfl⟩
      |1,_=>exact ⟨by kernel_rfl,by kernel_rfl,by kernel_rfl⟩
      |2,_=>exact ⟨by kernel_rfl,by kernel_rfl,by kernel_rfl⟩
      |3,_=>exact ⟨by kernel_rfl,by kernel_rfl,by kernel_rfl⟩
      |4,_=>exact ⟨by kernel_rfl,by kernel_rfl,by kernel_rfl⟩⟩
theorem zB:dD Tryz.prog 49 (tab 49) :=
  ⟨by kernel_rfl,by kernel_rfl,by kernel_rfl,by kernel_rfl,by kernel_rfl,by kernel_rfl,by kernel_rfl,by kernel_rfl,by kernel_rfl,by kernel_rfl,by kernel_rfl,by kernel_rfl,by kernel_rfl,by kernel_rfl,by kernel_rfl,by kernel_rfl,by kernel_rfl,
    fun i hi=>by
      have hi:i<6:=hi
      match i,hi with
      |0,_=>exact ⟨by kernel_rfl,by kernel_rfl,by kernel_rfl⟩
      |1,_=>exact ⟨by kernel_rfl,by kernel_rfl,by kernel_rfl⟩
      |2,_=>exact ⟨by kernel_rfl,by kernel_rfl,by kernel_rfl⟩
      |3,_=>exact ⟨by kernel_rfl,by kernel_rfl,by kernel_rfl⟩
      |4,_=>exact ⟨by kernel_rfl,by kernel_rfl,by kernel_rfl⟩
      |5,_=>exact ⟨by kernel_rfl,by kernel_rfl,by kernel_rfl⟩⟩
theorem zE:dD Tryz.prog 50 (tab 50) :=
  ⟨by kernel_rfl,by kernel_rfl,by kernel_rfl,by kernel_rfl,by kernel_rfl,by kernel_rfl,by kernel_rfl,by kernel_rfl,by kernel_rfl,by kernel_rfl,by kernel_rfl,by kernel_rfl,by kernel_rfl,by kernel_rfl,by kernel_rfl,by kernel_rfl,by kernel_rfl,
    fun i hi=>by
      have hi:i<2:=hi
      match i,hi with
      |0,_=>exact ⟨by kernel_rfl,by kernel_rfl,by kernel_rfl⟩
      |1,_=>exact ⟨by kernel_rfl,by kernel_rfl,by kernel_rfl⟩⟩
theorem zG:dD Tryz.prog 52 (tab 52) :=
  by constructor<;>first|kernel_rfl|exact fun i hi=>by simp [tab] at hi
theorem zH:dD Tryz.prog 54 (tab 54) :=
  ⟨by kernel_rfl,by kernel_rfl,by kernel_rfl,by kernel_rfl,by kernel_rfl,by kernel_rfl,by kernel_rfl,by kernel_rfl,by kernel_rfl,by kernel_rfl,by kernel_rfl,by kernel_rfl,by kernel_rfl,by kernel_rfl,by kernel_rfl,by kernel_rfl,by kernel_rfl,
    fun i hi=>by
      have hi:i<4:=hi
      match i,hi with
      |0,_=>exact ⟨by kernel_rfl,by kernel_rfl,by kernel_rfl⟩
      |1,_=>exact ⟨by kernel_rfl,by kernel_rfl,by kernel_rfl⟩
      |2,_=>exact ⟨by kernel_rfl,by kernel_rfl,by kernel_rfl⟩
      |3,_=>exact ⟨by kernel_rfl,by kernel_rfl,by kernel_rfl⟩⟩
theorem zI:dD Tryz.prog 58 (tab 58) :=
  by constructor<;>first|kernel_rfl|exact fun i hi=>by simp [tab] at hi
theorem zJ:dD Tryz.prog 60 (tab 60) :=
  ⟨by kernel_rfl,by kernel_rfl,by kernel_rfl,by kernel_rfl,by kernel_rfl,by kernel_rfl,by kernel_rfl,by kernel_rfl,by kernel_rfl,by kernel_rfl,by kernel_rfl,by kernel_rfl,by kernel_rfl,by kernel_rfl,by kernel_rfl,by kernel_rfl,by kernel_rfl,
    fun i hi=>by
      have hi:i<5:=hi
      match i,hi with
      |0,_=>exact ⟨by kernel_rfl,by kernel_rfl,by kernel_rfl⟩
      |1,_=>exact ⟨by kernel_rfl,by kernel_rfl,by kernel_rfl⟩
      |2,_=>exact ⟨by kernel_rfl,by kernel_rfl,by kernel_rfl⟩
      |3,_=>exact ⟨by kernel_rfl,by kernel_rfl,by kernel_rfl⟩
      |4,_=>exact ⟨by kernel_rfl,by kernel_rfl,by kernel_rfl⟩⟩
theorem zM:dD Tryz.prog 70 (tab 70) :=
  by constructor<;>first|kernel_rfl|exact fun i hi=>by simp [tab] at hi
theorem zP:dD Tryz.prog 79 (tab 79) :=
  ⟨by kernel_rfl,by kernel_rfl,by kernel_rfl,by kernel_rfl,by kernel_rfl,by kernel_rfl,by kernel_rfl,by kernel_rfl,by kernel_rfl,by kernel_rfl,by kernel_rfl,by kernel_rfl,by kernel_rfl,by kernel_rfl,by kernel_rfl,by kernel_rfl,by kernel_rfl,
    fun i hi=>by
      have hi:i<4:=hi
      match i,hi with
      |0,_=>exact ⟨by kernel_rfl,by kernel_rfl,by kernel_rfl⟩
      |1,_=>exact ⟨by kernel_rfl,by kernel_rfl,by kernel_rfl⟩
      |2,_=>exact ⟨by kernel_rfl,by kernel_rfl,by kernel_rfl⟩
      |3,_=>exact ⟨by kernel_rfl,by kernel_rfl,by kernel_rfl⟩⟩
theorem zQ:dD Tryz.prog 81 (tab 81) :=
  by constructor<;>first|kernel_rfl|exact fun i hi=>by simp [tab] at hi
theorem zS:dD Tryz.prog 83 (tab 83) :=
  ⟨by kernel_rfl,by kernel_rfl,by kernel_rfl,by kernel_rfl,by kernel_rfl,by kernel_rfl,by kernel_rfl,by kernel_rfl,by kernel_rfl,by kernel_rfl,by kernel_rfl,by kernel_rfl,by kernel_rfl,by kernel_rfl,by kernel_rfl,by kernel_rfl,by kernel_rfl,
    fun i hi=>by
      have hi:i<3:=hi
      match i,hi with
      |0,_=>exact ⟨by kernel_rfl,by kernel_rfl,by kernel_rfl⟩
      |1,_=>exact ⟨by kernel_rfl,by kernel_rfl,by kernel_rfl⟩
      |2,_=>exact ⟨by kernel_rfl,by kernel_rfl,by kernel_rfl⟩⟩
theorem zT:dD Tryz.prog 87 (tab 87) :=
  by constructor<;>first|kernel_rfl|exact fun i hi=>by simp [tab] at hi
theorem zV:dD Tryz.prog 92 (tab 92) :=
  by constructor<;>first|kernel_rfl|exact fun i hi=>by simp [tab] at hi
theorem zW:dD Tryz.prog 94 (tab 94) :=
  ⟨by kernel_rfl,by kernel_rfl,by kernel_rfl,by kernel_rfl,by kernel_rfl,by kernel_rfl,by kernel_rfl,by kernel_rfl,by kernel_rfl,by kernel_rfl,by kernel_rfl,by kernel_rfl,by kernel_rfl,by kernel_rfl,by kernel_rfl,by kernel_rfl,by kernel_rfl,
    fun i hi=>by
      have hi:i<2:=hi
      match i,hi with
      |0,_=>exact ⟨by kernel_rfl,by kernel_rfl,by kernel_rfl⟩
      |1,_=>exact ⟨by kernel_rfl,by kernel_rfl,by kernel_rfl⟩⟩
theorem zX:dD Tryz.prog 96 (tab 96) :=
  ⟨by kernel_rfl,by kernel_rfl,by kernel_rfl,by kernel_rfl,by kernel_rfl,by kernel_rfl,by kernel_rfl,by kernel_rfl,by kernel_rfl,by kernel_rfl,by kernel_rfl,by kernel_rfl,by kernel_rfl,by kernel_rfl,by kernel_rfl,by kernel_rfl,by kernel_rfl,
    fun i hi=>by
      have hi:i<2:=hi
      match i,hi with
      |0,_=>exact ⟨by kernel_rfl,by kernel_rfl,by kernel_rfl⟩
      |1,_=>exact ⟨by kernel_rfl,by kernel_rfl,by kernel_rfl⟩⟩
theorem zY:dD Tryz.prog 97 (tab 97) :=
  by constructor<;>first|kernel_rfl|exact fun i hi=>by simp [tab] at hi
theorem yt:dD Tryz.prog 102 (tab 102) :=
  by constructor<;>first|kernel_rfl|exact fun i hi=>by simp [tab] at hi
theorem yu:dD Tryz.prog 104 (tab 104) :=
  ⟨by kernel_rfl,by kernel_rfl,by kernel_rfl,by kernel_rfl,by kernel_rfl,by kernel_rfl,by kernel_rfl,by kernel_rfl,by kernel_rfl,by kernel_rfl,by kernel_rfl,by kernel_rfl,by kernel_rfl,by kernel_rfl,by kernel_rfl,by kernel_rfl,by kernel_rfl,
    fun i hi=>by
      have hi:i<2:=hi
      match i,hi with
      |0,_=>exact ⟨by kernel_rfl,by kernel_rfl,by kernel_rfl⟩
      |1,_=>exact ⟨by kernel_rfl,by kernel_rfl,by kernel_rfl⟩⟩
theorem yv:dD Tryz.prog 106 (tab 106) :=
  by constructor<;>first|kernel_rfl|exact fun i hi=>by simp [tab] at hi
theorem yw:dD Tryz.prog 108 (tab 108) :=
  by constructor<;>first|kernel_rfl|exact fun i hi=>by simp [tab] at hi
theorem yx:dD Tryz.prog 114 (tab 114) :=
  by constructor<;>first|kernel_rfl|exact fun i hi=>by simp [tab] at hi
theorem yy:dD Tryz.prog 116 (tab 116) :=
  by constructor<;>first|kernel_rfl|exact fun i hi=>by simp [tab] at hi
theorem yz:dD Tryz.prog 122 (tab 122) :=
  by constructor<;>first|kernel_rfl|exact fun i hi=>by simp [tab] at hi
theorem yA:dD Tryz.prog 133 (tab 133) :=
  by constructor<;>first|kernel_rfl|exact fun i hi=>by simp [tab] at hi
theorem yB:dD Tryz.prog 134 (tab 134) :=
  by constructor<;>first|kernel_rfl|exact fun i hi=>by simp [tab] at hi
theorem yC:dD Tryz.prog 135 (tab 135) :=
  by constructor<;>first|kernel_rfl|exact fun i hi=>by simp [tab] at hi
theorem yD:dD Tryz.prog 137 (tab 137) :=
  by constructor<;>first|kernel_rfl|exact fun i hi=>by simp [tab] at hi
theorem yE:dD Tryz.prog 140 (tab 140) :=
  by constructor<;>first|kernel_rfl|exact fun i hi=>by simp [tab] at hi
theorem yF:dD Tryz.prog 147 (tab 147) :=
  by constructor<;>first|kernel_rfl|exact fun i hi=>by simp [tab] at hi
theorem yG:dD Tryz.prog 150 (tab 150) :=
  ⟨by kernel_rfl,by kernel_rfl,by kernel_rfl,by kernel_rfl,by kernel_rfl,by kernel_rfl,by kernel_rfl,by kernel_rfl,by kernel_rfl,by kernel_rfl,by kernel_rfl,by kernel_rfl,by kernel_rfl,by kernel_rfl,by kernel_rfl,by kernel_rfl,by kernel_rfl,
    fun i hi=>by
      have hi:i<3:=hi
      match i,hi with
      |0,_=>exact ⟨by kernel_rfl,by kernel_rfl,by kernel_rfl⟩
      |1,_=>exact ⟨by kernel_rfl,by kernel_rfl,by kernel_rfl⟩
      |2,_=>exact ⟨by kernel_rfl,by kernel_rfl,by kernel_rfl⟩⟩
theorem yH:dD Tryz.prog 154 (tab 154) :=
  by constructor<;>first|kernel_rfl|exact fun i hi=>by simp [tab] at hi
theorem yI:dD Tryz.prog 157 (tab 157) :=
  ⟨by kernel_rfl,by kernel_rfl,by kernel_rfl,by kernel_rfl,by kernel_rfl,by kernel_rfl,by kernel_rfl,by kernel_rfl,by kernel_rfl,by kernel_rfl,by kernel_rfl,by kernel_rfl,by kernel_rfl,by kernel_rfl,by kernel_rfl,by kernel_rfl,by kernel_rfl,
    fun i hi=>by
      have hi:i<1:=hi
      match i,hi with
      |0,_=>exact ⟨by kernel_rfl,by kernel_rfl,by kernel_rfl⟩⟩
theorem yJ:dD Tryz.prog 161 (tab 161) :=
  by constructor<;>first|kernel_rfl|exact fun i hi=>by simp [tab] at hi
theorem yK:dD Tryz.prog 167 (tab 167) :=
  by constructor<;>first|kernel_rfl|exact fun i hi=>by simp [tab] at hi
theorem yL:dD Tryz.prog 168 (tab 168) :=
  by constructor<;>first|kernel_rfl|exact fun i hi=>by simp [tab] at hi
theorem yM:dD Tryz.prog 169 (tab 169) :=
  by constructor<;>first|kernel_rfl|exact fun i hi=>by simp [tab] at hi
theorem yN:dD Tryz.prog 172 (tab 172) :=
  by constructor<;>first|kernel_rfl|exact fun i hi=>by simp [tab] at hi
theorem yO:dD Tryz.prog 173 (tab 173) :=
  by constructor<;>first|kernel_rfl|exact fun i hi=>by simp [tab] at hi
theorem gU(T:TypeId)(h:(tab T).ok=true):dD Tryz.prog T (tab T):=by
  unfold tab at h
  split at h
  · exact AJ
  · exact AL
  · exact AM
  · exact AN
  · exact AO
  · exact zo
  · exact zp
  · exact zq
  · exact zr
  · exact zs
  · exact zt
  · exact zv
  · exact zw
  · exact zx
  · exact zy
  · exact zz
  · exact zA
  · exact zB
  · exact zE
  · exact zG
  · exact zH
  · exact zI
  · exact zJ
  · exact zM
  · exact zP
  · exact zQ
  · exact zS
  · exact zT
  · exact zV
  · exact zW
  · exact zX
  · exact zY
  · exact yt
  · exact yu
  · exact yv
  · exact yw
  · exact yx
  · exact yy
  · exact yz
  · exact yA
  · exact yB
  · exact yC
  · exact yD
  · exact yE
  · exact yF
  · exact yG
  · exact yH
  · exact yI
  · exact yJ
  · exact yK
  · exact yL
  · exact yM
  · exact yN
  · exact yO
  · cases h
theorem xe{T:TypeId}(h:(tab T).ok=true):cA Tryz.prog T=true:=(gU T h).known
theorem zZ{T:TypeId}(h:(tab T).ok=true):(Tryz.prog.underlying T).isSome=true:=(gU T h).und
theorem yP{T:TypeId}(h:(tab T).ok=true):Tryz.prog.cellsOf T=(tab T).size:=(gU T h).size
theorem xf{T:TypeId}(h:(tab T).ok=true):Tryz.prog.bytesOf T=(tab T).bytes:=(gU T h).bytes
theorem z1{T:TypeId}(h:(tab T).ok=true):jJ Tryz.prog T=(tab T).agg:=(gU T h).agg
theorem AQ{T:TypeId}(h:(tab T).ok=true):hO Tryz.prog T=(tab T).sl:=(gU T h).sl
theorem z8{T:TypeId}(h:(tab T).ok=true):lc Tryz.prog T=(tab T).arr:=(gU T h).arr
theorem Aa{T:TypeId}(h:(tab T).ok=true):kg Tryz.prog T=(tab T).str:=(gU T h).str
theorem yQ{T:TypeId}(h:(tab T).ok=true):pY Tryz.prog T=(tab T).bool:=(gU T h).bool
theorem Ab{T:TypeId}(h:(tab T).ok=true):pZ Tryz.prog T=(tab T).int:=(gU T h).int
theorem Ac{T:TypeId}(h:(tab T).ok=true):tW Tryz.prog T=(tab T).ptr:=(gU T h).ptr
theorem yR{T:TypeId}(h:(tab T).ok=true):Tryz.prog.elem T=(tab T).elem:=(gU T h).elem
theorem yS{T:TypeId}(h:(tab T).ok=true):Tryz.prog.arrayLen T=(tab T).alen:=(gU T h).alen
theorem yT{T:TypeId}(h:(tab T).ok=true):Tryz.prog.intKind T=(tab T).kind:=(gU T h).kind
theorem AR{T:TypeId}(h:(tab T).ok=true):jW Tryz.prog T=(tab T).fk:=(gU T h).fk
theorem yU{T:TypeId}(h:(tab T).ok=true):jB Tryz.prog T=(tab T).zero:=(gU T h).zero
theorem yV{T:TypeId}(h:(tab T).ok=true):ss Tryz.prog T=(tab T).flat:=(gU T h).flat
theorem Ad{T:TypeId}{i:Nat}(h:(tab T).ok=true)(hi:i<(tab T).fs.length):kZ Tryz.prog T i=true:=((gU T h).fld i hi).1
theorem yW{T:TypeId}{i:Nat}(h:(tab T).ok=true)(hi:i<(tab T).fs.length):iM Tryz.prog T i=((tab T).fs.getD i (0,0)).1:=((gU T h).fld i hi).2.1
theorem Ae{T:TypeId}{i:Nat}(h:(tab T).ok=true)(hi:i<(tab T).fs.length):mW Tryz.prog T i=((tab T).fs.getD i (0,0)).2:=((gU T h).fld i hi).2.2
def bT:=And.intro (And.intro (And.intro (And.intro @xe @zZ) (And.intro @yP @xf)) (And.intro (And.intro @z1 @AQ) (And.intro @z8 @Aa))) (And.intro (And.intro (And.intro @yQ @Ab) (And.intro @Ac @yR)) (And.intro (And.intro (And.intro @yS @yT) (And.intro @AR @yU)) (And.intro (And.intro @yV @Ad) (And.intro @yW @Ae))))
end Pam
namespace Go.Proofs
open Go.Shelf
def Tryz.lays174_ren:Go.Shelf.Ren:=⟨fun|174=>89|247=>96|245=>97|287=>104|279=>105|280=>106|281=>107|282=>108|321=>115|322=>116|316=>117|171=>119|205=>118|243=>124|246=>129|283=>130|284=>131|285=>132|286=>133|129=>135|317=>134|318=>136|319=>137|320=>138|337=>139|338=>140|n=>n,fun|9=>9|3=>3|2=>2|75=>124|85=>125|4=>4|167=>136|5=>5|53=>137|175=>138|46=>140|168=>141|37=>147|0=>0|210=>150|21=>21|127=>154|145=>157|143=>155|171=>161|173=>164|212=>167|51=>168|20=>20|213=>169|232=>172|233=>173|80=>87|n=>n,fun|15=>0|16=>1|17=>2|18=>3|19=>4|n=>n⟩
theorem Tryz.lays174:Go.Proofs.LaysC.n174 Tryz.prog Tryz.lays174_ren:={
  mixed:=by kernel_rfl
  f129:=Tryz.func135.trans (congrArg some (by kernel_rfl))
  f171:=Tryz.func119.trans (congrArg some (by kernel_rfl))
  f174:=Tryz.func89.trans (congrArg some (by kernel_rfl))
  f205:=Tryz.func118.trans (congrArg some (by kernel_rfl))
  f243:=Tryz.func124.trans (congrArg some (by kernel_rfl))
  f245:=Tryz.func97.trans (congrArg some (by kernel_rfl))
  f246:=Tryz.func129.trans (congrArg some (by kernel_rfl))
  f247:=Tryz.func96.trans (congrArg some (by kernel_rfl))
  f279:=Tryz.func105.trans (congrArg some (by kernel_rfl))
  f280:=Tryz.func106.trans (congrArg some (by kernel_rfl))
  f281:=Tryz.func107.trans (congrArg some (by kernel_rfl))
  f282:=Tryz.func108.trans (congrArg some (by kernel_rfl))
  f283:=Tryz.func130.trans (congrArg some (by kernel_rfl))
  f284:=Tryz.func131.trans (congrArg some (by kernel_rfl))
  f285:=Tryz.func132.trans (congrArg some (by kernel_rfl))
  f286:=Tryz.func133.trans (congrArg some (by kernel_rfl))
  f287:=Tryz.func104.trans (congrArg some (by kernel_rfl))
  f316:=Tryz.func117.trans (congrArg some (by kernel_rfl))
  f317:=Tryz.func134.trans (congrArg some (by kernel_rfl))
  f318:=Tryz.func136.trans (congrArg some (by kernel_rfl))
  f319:=Tryz.func137.trans (congrArg some (by kernel_rfl))
  f320:=Tryz.func138.trans (congrArg some (by kernel_rfl))
  f321:=Tryz.func115.trans (congrArg some (by kernel_rfl))
  f322:=Tryz.func116.trans (congrArg some (by kernel_rfl))
  f337:=Tryz.func139.trans (congrArg some (by kernel_rfl))
  f338:=Tryz.func140.trans (congrArg some (by kernel_rfl))
  t0:=Tryz.underlying0
  a0:=Tryz.isAgg0
  z0:=Tryz.sizeOf0
  v0:=Tryz.zeroValue0
  t2:=Tryz.underlying2
  a2:=Tryz.isAgg2
  z2:=Tryz.sizeOf2
  v2:=Tryz.zeroValue2
  t3:=Tryz.underlying3
  a3:=Tryz.isAgg3
  z3:=Tryz.sizeOf3
  v3:=Tryz.zeroValue3
  t4:=Tryz.underlying4
  a4:=Tryz.isAgg4
  z4:=Tryz.sizeOf4
  v4:=Tryz.zeroValue4
  t5:=Tryz.underlying5
  a5:=Tryz.isAgg5
  z5:=Tryz.sizeOf5
  v5:=Tryz.zeroValue5
  t9:=Tryz.underlying9
  a9:=Tryz.isAgg9
  z9:=Tryz.sizeOf9
  v9:=Tryz.zeroValue9
  t20:=Tryz.underlying20
  a20:=Tryz.isAgg20
  z20:=Tryz.sizeOf20
  v20:=Tryz.zeroValue20
  t21:=Tryz.underlying21
  a21:=Tryz.isAgg21
  z21:=Tryz.sizeOf21
  v21:=Tryz.zeroValue21
  t37:=Tryz.underlying147
  a37:=Tryz.isAgg147
  z37:=Tryz.sizeOf147
  v37:=Tryz.zeroValue147
  t46:=Tryz.underlying140
  a46:=Tryz.isAgg140
  z46:=Tryz.sizeOf140
  v46:=Tryz.zeroValue140
  t51:=Tryz.underlying168
  a51:=Tryz.isAgg168
  z51:=Tryz.sizeOf168
  v51:=Tryz.zeroValue168
  t53:=Tryz.underlying137
  a53:=Tryz.isAgg137
  z53:=Tryz.sizeOf137
  v53:=Tryz.zeroValue137
  t75:=Tryz.underlying124
  a75:=Tryz.isAgg124
  z75:=Tryz.sizeOf124
  v75:=Tryz.zeroValue124
  t85:=Tryz.underlying125
  a85:=Tryz.isAgg125
  z85:=Tryz.sizeOf125
  v85:=Tryz.zeroValue125
  t127:=Tryz.underlying154
  a127:=Tryz.isAgg154
  z127:=Tryz.sizeOf154
  v127:=Tryz.zeroValue154
  t143:=Tryz.underlying155
  a143:=Tryz.isAgg155
  z143:=Tryz.sizeOf155
  v143:=Tryz.zeroValue155
  t145:=Tryz.underlying157
  a145:=Tryz.isAgg157
  z145:=Tryz.sizeOf157
  v145:=Tryz.zeroValue157
  t167:=Tryz.underlying136
  a167:=Tryz.isAgg136
  z167:=Tryz.sizeOf136
  v167:=Tryz.zeroValue136
  t168:=Tryz.underlying141
  a168:=Tryz.isAgg141
  z168:=Tryz.sizeOf141
  v168:=Tryz.zeroValue141
  t171:=Tryz.underlying161
  a171:=Tryz.isAgg161
  z171:=Tryz.sizeOf161
  v171:=Tryz.zeroValue161
  t173:=Tryz.underlying164
  a173:=Tryz.isAgg164
  z173:=Tryz.sizeOf164
  v173:=Tryz.zeroValue164
  t175:=Tryz.underlying138
  a175:=Tryz.isAgg138
  z175:=Tryz.sizeOf138
  v175:=Tryz.zeroValue138
  t210:=Tryz.underlying150
  a210:=Tryz.isAgg150
  z210:=Tryz.sizeOf150
  v210:=Tryz.zeroValue150
  t212:=Tryz.underlying167
  a212:=Tryz.isAgg167
  z212:=Tryz.sizeOf167
  v212:=Tryz.zeroValue167
  t213:=Tryz.underlying169
  a213:=Tryz.isAgg169
  z213:=Tryz.sizeOf169
  t232:=Tryz.underlying172
  a232:=Tryz.isAgg172
  z232:=Tryz.sizeOf172
  v232:=Tryz.zeroValue172
  t233:=Tryz.underlying173
  a233:=Tryz.isAgg173
  z233:=Tryz.sizeOf173
  v233:=Tryz.zeroValue173
  g15:=by kernel_rfl
  g16:=by kernel_rfl
  g17:=by kernel_rfl
  g18:=by kernel_rfl
  g19:=by kernel_rfl
  t80:=Tryz.underlying87
  a80:=Tryz.isAgg87
  z80:=Tryz.sizeOf87
  v80:=Tryz.zeroValue87
  i0:=by kernel_rfl
  i2:=by kernel_rfl
  i3:=by kernel_rfl
  i4:=by kernel_rfl
  i5:=by kernel_rfl
  i9:=by kernel_rfl
  i20:=by kernel_rfl
  i21:=by kernel_rfl
  i37:=by kernel_rfl
  i46:=by kernel_rfl
  i51:=by kernel_rfl
  i53:=by kernel_rfl
  i75:=by kernel_rfl
  i80:=by kernel_rfl
  i85:=by kernel_rfl
  i127:=by kernel_rfl
  i143:=by kernel_rfl
  i145:=by kernel_rfl
  i167:=by kernel_rfl
  i168:=by kernel_rfl
  i171:=by kernel_rfl
  i173:=by kernel_rfl
  i175:=by kernel_rfl
  i210:=by kernel_rfl
  i212:=by kernel_rfl
  i232:=by kernel_rfl
  i233:=by kernel_rfl
  m15:=by kernel_rfl
  m16:=by kernel_rfl
  m17:=by kernel_rfl
  m18:=by kernel_rfl
  m19:=by kernel_rfl
  c0:=by kernel_rfl
  c2:=by kernel_rfl
  c3:=by kernel_rfl
  c4:=by kernel_rfl
  c5:=by kernel_rfl
  c9:=by kernel_rfl
  c20:=by kernel_rfl
  c21:=by kernel_rfl
  c37:=by kernel_rfl
  c46:=by kernel_rfl
  c51:=by kernel_rfl
  c53:=by kernel_rfl
  c75:=by kernel_rfl
  c80:=by kernel_rfl
  c85:=by kernel_rfl
  c127:=by kernel_rfl
  c143:=by kernel_rfl
  c145:=by kernel_rfl
  c167:=by kernel_rfl
  c168:=by kernel_rfl
  c171:=by kernel_rfl
  c173:=by kernel_rfl
  c175:=by kernel_rfl
  c210:=by kernel_rfl
  c212:=by kernel_rfl
  c213:=by kernel_rfl
  c232:=by kernel_rfl
  c233:=by kernel_rfl }
end Go.Proofs
namespace Pam
open Go Go.Proofs
theorem tB:LaysC.n174 Tryz.prog Tryz.lays174_ren:=Tryz.lays174
end Pam
