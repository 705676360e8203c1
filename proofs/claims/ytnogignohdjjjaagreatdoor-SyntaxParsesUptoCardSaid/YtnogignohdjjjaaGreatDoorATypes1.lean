/- Facts of the types that the proofs of this seat speak of, read off the program by the kernel. Printed by a program of ours. -/
import Derived.Test.YtnogignohdjjjaaGreatDoorProg
import Derived.Test.YtnogignohdjjjaaGreatDoorABase1
import Derived.Shelf.LaysC
import Derived.Test.YtnogignohdjjjaaGreatDoorABase3
set_option linter.all false
namespace Pam
open Go Go.Proofs
def tab:Nat→TD
  |2=>{ ok:=true,size:=1,bytes:=8,int:=true,kind:=.i64,zero:=some [.int .i64 0] }
  |3=>{ ok:=true,size:=1,bytes:=8,int:=true,kind:=.i64,zero:=some [.int .i64 0] }
  |4=>{ ok:=true,size:=1,bytes:=1,bool:=true,zero:=some [.bool false] }
  |5=>{ ok:=true,size:=1,bytes:=1,int:=true,kind:=.u8,zero:=some [.int .u8 0] }
  |9=>{ ok:=true,size:=1,bytes:=16,str:=true,zero:=some [.str []] }
  |21=>{ ok:=true,size:=1,bytes:=4,int:=true,kind:=.i32,zero:=some [.int .i32 0] }
  |23=>{ ok:=true,size:=1,bytes:=24,sl:=true,elem:=42,zero:=some [.nils] }
  |25=>{ ok:=true,size:=1,bytes:=24,agg:=true,fs:=[(0,23)],fk:=true,zero:=some [.nils] }
  |27=>{ ok:=true,size:=2,bytes:=16,agg:=true,fs:=[(0,3),(1,3)],fk:=true,flat:=some [1,1],zero:=some [.int .i64 0,.int .i64 0] }
  |35=>{ ok:=true,size:=1,bytes:=24,sl:=true,elem:=79,zero:=some [.nils] }
  |38=>{ ok:=true,size:=1,bytes:=24,sl:=true,elem:=9,zero:=some [.nils] }
  |39=>{ ok:=true,size:=1,bytes:=24,sl:=true,elem:=96,zero:=some [.nils] }
  |40=>{ ok:=true,size:=1,bytes:=24,sl:=true,elem:=47,zero:=some [.nils] }
  |42=>{ ok:=true,size:=7,bytes:=144,agg:=true,fs:=[(0,9),(1,3),(2,38),(3,39),(4,39),(5,39),(6,40)],fk:=true,zero:=some [.str [],.int .i64 0,.nils,.nils,.nils,.nils,.nils] }
  |44=>{ ok:=true,size:=1,bytes:=24,sl:=true,elem:=92,zero:=some [.nils] }
  |45=>{ ok:=true,size:=1,bytes:=24,sl:=true,elem:=49,zero:=some [.nils] }
  |47=>{ ok:=true,size:=5,bytes:=96,agg:=true,fs:=[(0,3),(1,38),(2,9),(3,44),(4,45)],fk:=true,zero:=some [.int .i64 0,.nils,.str [],.nils,.nils] }
  |49=>{ ok:=true,size:=6,bytes:=88,agg:=true,fs:=[(0,3),(1,3),(2,2),(3,9),(4,44),(5,45)],fk:=true,zero:=some [.int .i64 0,.int .i64 0,.int .i64 0,.str [],.nils,.nils] }
  |50=>{ ok:=true,size:=2,bytes:=16,agg:=true,fs:=[(0,3),(1,3)],fk:=true,flat:=some [1,1],zero:=some [.int .i64 0,.int .i64 0] }
  |52=>{ ok:=true,size:=1,bytes:=8,ptr:=true,zero:=some [.nilp] }
  |54=>{ ok:=true,size:=4,bytes:=48,agg:=true,fs:=[(0,35),(1,3),(2,3),(3,3)],fk:=true,zero:=some [.nils,.int .i64 0,.int .i64 0,.int .i64 0] }
  |58=>{ ok:=true,size:=1,bytes:=8,ptr:=true,zero:=some [.nilp] }
  |60=>{ ok:=true,size:=6,bytes:=64,agg:=true,fs:=[(0,35),(1,3),(2,3),(3,27),(5,3)],fk:=true,zero:=some [.nils,.int .i64 0,.int .i64 0,.int .i64 0,.int .i64 0,.int .i64 0] }
  |70=>{ ok:=true,size:=1,bytes:=8,zero:=some [.nilf] }
  |79=>{ ok:=true,size:=4,bytes:=40,agg:=true,fs:=[(0,3),(1,3),(2,9),(3,2)],fk:=true,flat:=some [1,1,2,1],zero:=some [.int .i64 0,.int .i64 0,.str [],.int .i64 0] }
  |81=>{ ok:=true,size:=1,bytes:=8,ptr:=true,zero:=some [.nilp] }
  |83=>{ ok:=true,size:=3,bytes:=48,agg:=true,fs:=[(0,9),(1,3),(2,35)],fk:=true,zero:=some [.str [],.int .i64 0,.nils] }
  |87=>{ ok:=true,size:=1,bytes:=8,zero:=some [.nilf] }
  |92=>{ ok:=true,size:=1,bytes:=24,sl:=true,elem:=104,zero:=some [.nils] }
  |94=>{ ok:=true,size:=2,bytes:=32,agg:=true,fs:=[(0,5),(1,92)],fk:=true,zero:=some [.int .u8 0,.nils] }
  |96=>{ ok:=true,size:=3,bytes:=48,agg:=true,fs:=[(0,9),(1,94)],fk:=true,zero:=some [.str [],.int .u8 0,.nils] }
  |97=>{ ok:=true,size:=1,bytes:=8,zero:=some [.nilf] }
  |102=>{ ok:=true,size:=1,bytes:=8,zero:=some [.nilf] }
  |104=>{ ok:=true,size:=2,bytes:=24,agg:=true,fs:=[(0,2),(1,9)],fk:=true,flat:=some [1,2],zero:=some [.int .i64 0,.str []] }
  |106=>{ ok:=true,size:=1,bytes:=8,zero:=some [.nilf] }
  |108=>{ ok:=true,size:=1,bytes:=8,zero:=some [.nilf] }
  |114=>{ ok:=true,size:=1,bytes:=8,zero:=some [.nilf] }
  |116=>{ ok:=true,size:=1,bytes:=8,zero:=some [.nilf] }
  |122=>{ ok:=true,size:=1,bytes:=8,zero:=some [.nilf] }
  |133=>{ ok:=true,size:=1,bytes:=24,sl:=true,elem:=38,zero:=some [.nils] }
  |134=>{ ok:=true,size:=1,bytes:=24,sl:=true,elem:=3,zero:=some [.nils] }
  |135=>{ ok:=true,size:=1,bytes:=24,sl:=true,elem:=134,zero:=some [.nils] }
  |137=>{ ok:=true,size:=1,bytes:=8,int:=true,kind:=.u64,zero:=some [.int .u64 0] }
  |140=>{ ok:=true,size:=1,bytes:=8,int:=true,kind:=.u64,zero:=some [.int .u64 0] }
  |147=>{ ok:=true,size:=1,bytes:=24,sl:=true,elem:=5,zero:=some [.nils] }
  |150=>{ ok:=true,size:=3,bytes:=48,agg:=true,fs:=[(0,9),(1,9),(2,124)],fk:=true,zero:=some [.str [],.str [],.nili] }
  |154=>{ ok:=true,size:=1,bytes:=8,ptr:=true,zero:=some [.nilp] }
  |157=>{ ok:=true,size:=1,bytes:=16,agg:=true,fs:=[(0,9)],fk:=true,flat:=some [2],zero:=some [.str []] }
  |161=>{ ok:=true,size:=24,bytes:=24,agg:=true,arr:=true,elem:=5,alen:=24,zero:=some [.int .u8 0,.int .u8 0,.int .u8 0,.int .u8 0,.int .u8 0,.int .u8 0,.int .u8 0,.int .u8 0,.int .u8 0,.int .u8 0,.int .u8 0,.int .u8 0,.int .u8 0,.int .u8 0,.int .u8 0,.int .u8 0,.int .u8 0,.int .u8 0,.int .u8 0,.int .u8 0,.int .u8 0,.int .u8 0,.int .u8 0,.int .u8 0] }
  |167=>{ ok:=true,size:=20,bytes:=160,agg:=true,arr:=true,elem:=137,alen:=20,zero:=some [.int .u64 0,.int .u64 0,.int .u64 0,.int .u64 0,.int .u64 0,.int .u64 0,.int .u64 0,.int .u64 0,.int .u64 0,.int .u64 0,.int .u64 0,.int .u64 0,.int .u64 0,.int .u64 0,.int .u64 0,.int .u64 0,.int .u64 0,.int .u64 0,.int .u64 0,.int .u64 0] }
  |168=>{ ok:=true,size:=1,bytes:=4,int:=true,kind:=.u32,zero:=some [.int .u32 0] }
  |169=>{ ok:=true,size:=65,bytes:=65,agg:=true,arr:=true,elem:=5,alen:=65,zero:=some [.int .u8 0,.int .u8 0,.int .u8 0,.int .u8 0,.int .u8 0,.int .u8 0,.int .u8 0,.int .u8 0,.int .u8 0,.int .u8 0,.int .u8 0,.int .u8 0,.int .u8 0,.int .u8 0,.int .u8 0,.int .u8 0,.int .u8 0,.int .u8 0,.int .u8 0,.int .u8 0,.int .u8 0,.int .u8 0,.int .u8 0,.int .u8 0,.int .u8 0,.int .u8 0,.int .u8 0,.int .u8 0,.int .u8 0,.int .u8 0,.int .u8 0,.int .u8 0,.int .u8 0,.int .u8 0,.int .u8 0,.int .u8 0,.int .u8 0,.int .u8 0,.int .u8 0,.int .u8 0,.int .u8 0,.int .u8 0,.int .u8 0,.int .u8 0,.int .u8 0,.int .u8 0,.int .u8 0,.int .u8 0,.int .u8 0,.int .u8 0,.int .u8 0,.int .u8 0,.int .u8 0,.int .u8 0,.int .u8 0,.int .u8 0,.int .u8 0,.int .u8 0,.int .u8 0,.int .u8 0,.int .u8 0,.int .u8 0,.int .u8 0,.int .u8 0,.int .u8 0] }
  |172=>{ ok:=true,size:=32,bytes:=32,agg:=true,arr:=true,elem:=5,alen:=32,zero:=some [.int .u8 0,.int .u8 0,.int .u8 0,.int .u8 0,.int .u8 0,.int .u8 0,.int .u8 0,.int .u8 0,.int .u8 0,.int .u8 0,.int .u8 0,.int .u8 0,.int .u8 0,.int .u8 0,.int .u8 0,.int .u8 0,.int .u8 0,.int .u8 0,.int .u8 0,.int .u8 0,.int .u8 0,.int .u8 0,.int .u8 0,.int .u8 0,.int .u8 0,.int .u8 0,.int .u8 0,.int .u8 0,.int .u8 0,.int .u8 0,.int .u8 0,.int .u8 0] }
  |173=>{ ok:=true,size:=64,bytes:=64,agg:=true,arr:=true,elem:=5,alen:=64,zero:=some [.int .u8 0,.int .u8 0,.int .u8 0,.int .u8 0,.int .u8 0,.int .u8 0,.int .u8 0,.int .u8 0,.int .u8 0,.int .u8 0,.int .u8 0,.int .u8 0,.int .u8 0,.int .u8 0,.int .u8 0,.int .u8 0,.int .u8 0,.int .u8 0,.int .u8 0,.int .u8 0,.int .u8 0,.int .u8 0,.int .u8 0,.int .u8 0,.int .u8 0,.int .u8 0,.int .u8 0,.int .u8 0,.int .u8 0,.int .u8 0,.int .u8 0,.int .u8 0,.int .u8 0,.int .u8 0,.int .u8 0,.int .u8 0,.int .u8 0,.int .u8 0,.int .u8 0,.int .u8 0,.int .u8 0,.int .u8 0,.int .u8 0,.int .u8 0,.int .u8 0,.int .u8 0,.int .u8 0,.int .u8 0,.int .u8 0,.int .u8 0,.int .u8 0,.int .u8 0,.int .u8 0,.int .u8 0,.int .u8 0,.int .u8 0,.int .u8 0,.int .u8 0,.int .u8 0,.int .u8 0,.int .u8 0,.int .u8 0,.int .u8 0,.int .u8 0] }
  |_=>{}
theorem CY:eD Tryz.prog 2 (tab 2) :=
  by constructor<;>first|kernel_rfl|exact fun i hi=>by simp [tab] at hi
theorem CZ:eD Tryz.prog 3 (tab 3) :=
  by constructor<;>first|kernel_rfl|exact fun i hi=>by simp [tab] at hi
theorem C3:eD Tryz.prog 4 (tab 4) :=
  by constructor<;>first|kernel_rfl|exact fun i hi=>by simp [tab] at hi
theorem C4:eD Tryz.prog 5 (tab 5) :=
  by constructor<;>first|kernel_rfl|exact fun i hi=>by simp [tab] at hi
theorem C5:eD Tryz.prog 9 (tab 9) :=
  by constructor<;>first|kernel_rfl|exact fun i hi=>by simp [tab] at hi
theorem B3:eD Tryz.prog 21 (tab 21) :=
  by constructor<;>first|kernel_rfl|exact fun i hi=>by simp [tab] at hi
theorem B4:eD Tryz.prog 23 (tab 23) :=
  by constructor<;>first|kernel_rfl|exact fun i hi=>by simp [tab] at hi
theorem B5:eD Tryz.prog 25 (tab 25) :=
  ⟨by kernel_rfl,by kernel_rfl,by kernel_rfl,by kernel_rfl,by kernel_rfl,by kernel_rfl,by kernel_rfl,by kernel_rfl,by kernel_rfl,by kernel_rfl,by kernel_rfl,by kernel_rfl,by kernel_rfl,by kernel_rfl,by kernel_rfl,by kernel_rfl,by kernel_rfl,
    fun i hi=>by
      have hi:i<1:=hi
      match i,hi with
      |0,_=>exact ⟨by kernel_rfl,by kernel_rfl,by kernel_rfl⟩⟩
theorem B6:eD Tryz.prog 27 (tab 27) :=
  ⟨by kernel_rfl,by kernel_rfl,by kernel_rfl,by kernel_rfl,by kernel_rfl,by kernel_rfl,by kernel_rfl,by kernel_rfl,by kernel_rfl,by kernel_rfl,by kernel_rfl,by kernel_rfl,by kernel_rfl,by kernel_rfl,by kernel_rfl,by kernel_rfl,by kernel_rfl,
    fun i hi=>by
      have hi:i<2:=hi
      match i,hi with
      |0,_=>exact ⟨by kernel_rfl,by kernel_rfl,by kernel_rfl⟩
      |1,_=>exact ⟨by kernel_rfl,by kernel_rfl,by kernel_rfl⟩⟩
theorem B7:eD Tryz.prog 35 (tab 35) :=
  by constructor<;>first|kernel_rfl|exact fun i hi=>by simp [tab] at hi
theorem B8:eD Tryz.prog 38 (tab 38) :=
  by constructor<;>first|kernel_rfl|exact fun i hi=>by simp [tab] at hi
theorem B9:eD Tryz.prog 39 (tab 39) :=
  by constructor<;>first|kernel_rfl|exact fun i hi=>by simp [tab] at hi
theorem Ca:eD Tryz.prog 40 (tab 40) :=
  by constructor<;>first|kernel_rfl|exact fun i hi=>by simp [tab] at hi
theorem Cb:eD Tryz.prog 42 (tab 42) :=
  ⟨by kernel_rfl,by kernel_rfl,by kernel_rfl,by kernel_rfl,by kernel_rfl,by kernel_rfl,by kernel_rfl,by kernel_rfl,by kernel_rfl,by kernel_rfl,by kernel_rfl,by kernel_rfl,by kernel_rfl,by kernel_rfl,by kernel_rfl,by kernel_rfl,by kernel_rfl,
    fun i hi=>by
      have hi:i<7:=hi
      match i,hi with
      |0,_=>exact ⟨by kernel_rfl,by kernel_rfl,by kernel_rfl⟩
      |1,_=>exact ⟨by kernel_rfl,by kernel_rfl,by kernel_rfl⟩
      |2,_=>exact ⟨by kernel_rfl,by kernel_rfl,by kernel_rfl⟩
      |3,_=>exact ⟨by kernel_rfl,by kernel_rfl,by kernel_rfl⟩
      |4,_=>exact ⟨by kernel_rfl,by kernel_rfl,by kernel_rfl⟩
      |5,_=>exact ⟨by kernel_rfl,by kernel_rfl,by kernel_rfl⟩
      |6,_=>exact ⟨by kernel_rfl,by kernel_rfl,by kernel_rfl⟩⟩
theorem Cc:eD Tryz.prog 44 (tab 44) :=
  by constructor<;>first|kernel_rfl|exact fun i hi=>by simp [tab] at hi
theorem Cd:eD Tryz.prog 45 (tab 45) :=
  by constructor<;>first|kernel_rfl|exact fun i hi=>by simp [tab] at hi
theorem Ce:eD Tryz.prog 47 (tab 47) :=
  ⟨by kernel_rfl,by kernel_rfl,by kernel_rfl,by kernel_rfl,by kernel_rfl,by kernel_rfl,by kernel_rfl,by kernel_rfl,by kernel_rfl,by kernel_rfl,by kernel_rfl,by kernel_rfl,by kernel_rfl,by kernel_rfl,by kernel_rfl,by kernel_rfl,by kernel_rfl,
    fun i hi=>by
      have hi:i<5:=hi
      match i,hi with
      |0,_=>exact ⟨by kernel_rfl,by kernel_rfl,by kernel_rfl⟩
      |1,_=>exact ⟨by kernel_rfl,by kernel_rfl,by kernel_rfl⟩
      |2,_=>exact ⟨by kernel_rfl,by kernel_rfl,by kernel_rfl⟩
      |3,_=>exact ⟨by kernel_rfl,by kernel_rfl,by kernel_rfl⟩
      |4,_=>exact ⟨by kernel_rfl,by kernel_rfl,by kernel_rfl⟩⟩
theorem Cf:eD Tryz.prog 49 (tab 49) :=
  ⟨by kernel_rfl,by kernel_rfl,by kernel_rfl,by kernel_rfl,by kernel_rfl,by kernel_rfl,by kernel_rfl,by kernel_rfl,by kernel_rfl,by kernel_rfl,by kernel_rfl,by kernel_rfl,by kernel_rfl,by kernel_rfl,by kernel_rfl,by kernel_rfl,by kernel_rfl,
    fun i hi=>by
      have hi:i<6:=hi
      match i,hi with
      |0,_=>exact ⟨by kernel_rfl,by kernel_rfl,by kernel_rfl⟩
      |1,_=>exact ⟨by kernel_rfl,by kernel_rfl,by kernel_rfl⟩
      |2,_=>exact ⟨by kernel_rfl,by kernel_rfl,by kernel_rfl⟩
      |3,_=>exact ⟨by kernel_rfl,by kernel_rfl,by kernel_rfl⟩
      |4,_=>exact ⟨by kernel_rfl,by kernel_rfl,by kernel_rfl⟩
      |5,_=>exact ⟨by kernel_rfl,by kernel_rfl,by kernel_rfl⟩⟩
theorem Cg:eD Tryz.prog 50 (tab 50) :=
  ⟨by kernel_rfl,by kernel_rfl,by kernel_rfl,by kernel_rfl,by kernel_rfl,by kernel_rfl,by kernel_rfl,by kernel_rfl,by kernel_rfl,by kernel_rfl,by kernel_rfl,by kernel_rfl,by kernel_rfl,by kernel_rfl,by kernel_rfl,by kernel_rfl,by kernel_rfl,
    fun i hi=>by
      have hi:i<2:=hi
      match i,hi with
      |0,_=>exact ⟨by kernel_rfl,by kernel_rfl,by kernel_rfl⟩
      |1,_=>exact ⟨by kernel_rfl,by kernel_rfl,by kernel_rfl⟩⟩
theorem Ch:eD Tryz.prog 52 (tab 52) :=
  by constructor<;>first|kernel_rfl|exact fun i hi=>by simp [tab] at hi
theorem Ci:eD Tryz.prog 54 (tab 54) :=
  ⟨by kernel_rfl,by kernel_rfl,by kernel_rfl,by kernel_rfl,by kernel_rfl,by kernel_rfl,by kernel_rfl,by kernel_rfl,by kernel_rfl,by kernel_rfl,by kernel_rfl,by kernel_rfl,by kernel_rfl,by kernel_rfl,by kernel_rfl,by kernel_rfl,by kernel_rfl,
    fun i hi=>by
      have hi:i<4:=hi
      match i,hi with
      |0,_=>exact ⟨by kernel_rfl,by kernel_rfl,by kernel_rfl⟩
      |1,_=>exact ⟨by kernel_rfl,by kernel_rfl,by kernel_rfl⟩
      |2,_=>exact ⟨by kernel_rfl,by kernel_rfl,by kernel_rfl⟩
      |3,_=>exact ⟨by kernel_rfl,by kernel_rfl,by kernel_rfl⟩⟩
theorem Cj:eD Tryz.prog 58 (tab 58) :=
  by constructor<;>first|kernel_rfl|exact fun i hi=>by simp [tab] at hi
theorem Ck:eD Tryz.prog 60 (tab 60) :=
  ⟨by kernel_rfl,by kernel_rfl,by kernel_rfl,by kernel_rfl,by kernel_rfl,by kernel_rfl,by kernel_rfl,by kernel_rfl,by kernel_rfl,by kernel_rfl,by kernel_rfl,by kernel_rfl,by kernel_rfl,by kernel_rfl,by kernel_rfl,by kernel_rfl,by kernel_rfl,
    fun i hi=>by
      have hi:i<5:=hi
      match i,hi with
      |0,_=>exact ⟨by kernel_rfl,by kernel_rfl,by kernel_rfl⟩
      |1,_=>exact ⟨by kernel_rfl,by kernel_rfl,by kernel_rfl⟩
      |2,_=>exact ⟨by kernel_rfl,by kernel_rfl,by kernel_rfl⟩
      |3,_=>exact ⟨by kernel_rfl,by kernel_rfl,by kernel_rfl⟩
      |4,_=>exact ⟨by kernel_rfl,by kernel_rfl,by kernel_rfl⟩⟩
theorem Cl:eD Tryz.prog 70 (tab 70) :=
  by constructor<;>first|kernel_rfl|exact fun i hi=>by simp [tab] at hi
theorem Cm:eD Tryz.prog 79 (tab 79) :=
  ⟨by kernel_rfl,by kernel_rfl,by kernel_rfl,by kernel_rfl,by kernel_rfl,by kernel_rfl,by kernel_rfl,by kernel_rfl,by kernel_rfl,by kernel_rfl,by kernel_rfl,by kernel_rfl,by kernel_rfl,by kernel_rfl,by kernel_rfl,by kernel_rfl,by kernel_rfl,
    fun i hi=>by
      have hi:i<4:=hi
      match i,hi with
      |0,_=>exact ⟨by kernel_rfl,by kernel_rfl,by kernel_rfl⟩
      |1,_=>exact ⟨by kernel_rfl,by kernel_rfl,by kernel_rfl⟩
      |2,_=>exact ⟨by kernel_rfl,by kernel_rfl,by kernel_rfl⟩
      |3,_=>exact ⟨by kernel_rfl,by kernel_rfl,by kernel_rfl⟩⟩
theorem Cn:eD Tryz.prog 81 (tab 81) :=
  by constructor<;>first|kernel_rfl|exact fun i hi=>by simp [tab] at hi
theorem Co:eD Tryz.prog 83 (tab 83) :=
  ⟨by kernel_rfl,by kernel_rfl,by kernel_rfl,by kernel_rfl,by kernel_rfl,by kernel_rfl,by kernel_rfl,by kernel_rfl,by kernel_rfl,by kernel_rfl,by kernel_rfl,by kernel_rfl,by kernel_rfl,by kernel_rfl,by kernel_rfl,by kernel_rfl,by kernel_rfl,
    fun i hi=>by
      have hi:i<3:=hi
      match i,hi with
      |0,_=>exact ⟨by kernel_rfl,by kernel_rfl,by kernel_rfl⟩
      |1,_=>exact ⟨by kernel_rfl,by kernel_rfl,by kernel_rfl⟩
      |2,_=>exact ⟨by kernel_rfl,by kernel_rfl,by kernel_rfl⟩⟩
theorem Cp:eD Tryz.prog 87 (tab 87) :=
  by constructor<;>first|kernel_rfl|exact fun i hi=>by simp [tab] at hi
theorem Cq:eD Tryz.prog 92 (tab 92) :=
  by constructor<;>first|kernel_rfl|exact fun i hi=>by simp [tab] at hi
theorem Cr:eD Tryz.prog 94 (tab 94) :=
  ⟨by kernel_rfl,by kernel_rfl,by kernel_rfl,by kernel_rfl,by kernel_rfl,by kernel_rfl,by kernel_rfl,by kernel_rfl,by kernel_rfl,by kernel_rfl,by kernel_rfl,by kernel_rfl,by kernel_rfl,by kernel_rfl,by kernel_rfl,by kernel_rfl,by kernel_rfl,
    fun i hi=>by
      have hi:i<2:=hi
      match i,hi with
      |0,_=>exact ⟨by kernel_rfl,by kernel_rfl,by kernel_rfl⟩
      |1,_=>exact ⟨by kernel_rfl,by kernel_rfl,by kernel_rfl⟩⟩
theorem Ct:eD Tryz.prog 96 (tab 96) :=
  ⟨by kernel_rfl,by kernel_rfl,by kernel_rfl,by kernel_rfl,by kernel_rfl,by kernel_rfl,by kernel_rfl,by kernel_rfl,by kernel_rfl,by kernel_rfl,by kernel_rfl,by kernel_rfl,by kernel_rfl,by kernel_rfl,by kernel_rfl,by kernel_rfl,by kernel_rfl,
    fun i hi=>by
      have hi:i<2:=hi
      match i,hi with
      |0,_=>exact ⟨by kernel_rfl,by kernel_rfl,by kernel_rfl⟩
      |1,_=>exact ⟨by kernel_rfl,by kernel_rfl,by kernel_rfl⟩⟩
theorem Cu:eD Tryz.prog 97 (tab 97) :=
  by constructor<;>first|kernel_rfl|exact fun i hi=>by simp [tab] at hi
theorem A6:eD Tryz.prog 102 (tab 102) :=
  by constructor<;>first|kernel_rfl|exact fun i hi=>by simp [tab] at hi
theorem A7:eD Tryz.prog 104 (tab 104) :=
  ⟨by kernel_rfl,by kernel_rfl,by kernel_rfl,by kernel_rfl,by kernel_rfl,by kernel_rfl,by kernel_rfl,by kernel_rfl,by kernel_rfl,by kernel_rfl,by kernel_rfl,by kernel_rfl,by kernel_rfl,by kernel_rfl,by kernel_rfl,by kernel_rfl,by kernel_rfl,
    fun i hi=>by
      have hi:i<2:=hi
      match i,hi with
      |0,_=>exact ⟨by kernel_rfl,by kernel_rfl,by kernel_rfl⟩
      |1,_=>exact ⟨by kernel_rfl,by kernel_rfl,by kernel_rfl⟩⟩
theorem A8:eD Tryz.prog 106 (tab 106) :=
  by constructor<;>first|kernel_rfl|exact fun i hi=>by simp [tab] at hi
theorem A9:eD Tryz.prog 108 (tab 108) :=
  by constructor<;>first|kernel_rfl|exact fun i hi=>by simp [tab] at hi
theorem Ba:eD Tryz.prog 114 (tab 114) :=
  by constructor<;>first|kernel_rfl|exact fun i hi=>by simp [tab] at hi
theorem Bb:eD Tryz.prog 116 (tab 116) :=
  by constructor<;>first|kernel_rfl|exact fun i hi=>by simp [tab] at hi
theorem Bc:eD Tryz.prog 122 (tab 122) :=
  by constructor<;>first|kernel_rfl|exact fun i hi=>by simp [tab] at hi
theorem Bd:eD Tryz.prog 133 (tab 133) :=
  by constructor<;>first|kernel_rfl|exact fun i hi=>by simp [tab] at hi
theorem Be:eD Tryz.prog 134 (tab 134) :=
  by constructor<;>first|kernel_rfl|exact fun i hi=>by simp [tab] at hi
theorem Bf:eD Tryz.prog 135 (tab 135) :=
  by constructor<;>first|kernel_rfl|exact fun i hi=>by simp [tab] at hi
theorem Bg:eD Tryz.prog 137 (tab 137) :=
  by constructor<;>first|kernel_rfl|exact fun i hi=>by simp [tab] at hi
theorem Bh:eD Tryz.prog 140 (tab 140) :=
  by constructor<;>first|kernel_rfl|exact fun i hi=>by simp [tab] at hi
theorem Bi:eD Tryz.prog 147 (tab 147) :=
  by constructor<;>first|kernel_rfl|exact fun i hi=>by simp [tab] at hi
theorem Bj:eD Tryz.prog 150 (tab 150) :=
  ⟨by kernel_rfl,by kernel_rfl,by kernel_rfl,by kernel_rfl,by kernel_rfl,by kernel_rfl,by kernel_rfl,by kernel_rfl,by kernel_rfl,by kernel_rfl,by kernel_rfl,by kernel_rfl,by kernel_rfl,by kernel_rfl,by kernel_rfl,by kernel_rfl,by kernel_rfl,
    fun i hi=>by
      have hi:i<3:=hi
      match i,hi with
      |0,_=>exact ⟨by kernel_rfl,by kernel_rfl,by kernel_rfl⟩
      |1,_=>exact ⟨by kernel_rfl,by kernel_rfl,by kernel_rfl⟩
      |2,_=>exact ⟨by kernel_rfl,by kernel_rfl,by kernel_rfl⟩⟩
theorem Bk:eD Tryz.prog 154 (tab 154) :=
  by constructor<;>first|kernel_rfl|exact fun i hi=>by simp [tab] at hi
theorem Bl:eD Tryz.prog 157 (tab 157) :=
  ⟨by kernel_rfl,by kernel_rfl,by kernel_rfl,by kernel_rfl,by kernel_rfl,by kernel_rfl,by kernel_rfl,by kernel_rfl,by kernel_rfl,by kernel_rfl,by kernel_rfl,by kernel_rfl,by kernel_rfl,by kernel_rfl,by kernel_rfl,by kernel_rfl,by kernel_rfl,
    fun i hi=>by
      have hi:i<1:=hi
      match i,hi with
      |0,_=>exact ⟨by kernel_rfl,by kernel_rfl,by kernel_rfl⟩⟩
theorem Bm:eD Tryz.prog 161 (tab 161) :=
  by constructor<;>first|kernel_rfl|exact fun i hi=>by simp [tab] at hi
theorem Bn:eD Tryz.prog 167 (tab 167) :=
  by constructor<;>first|kernel_rfl|exact fun i hi=>by simp [tab] at hi
theorem Bo:eD Tryz.prog 168 (tab 168) :=
  by constructor<;>first|kernel_rfl|exact fun i hi=>by simp [tab] at hi
theorem Bp:eD Tryz.prog 169 (tab 169) :=
  by constructor<;>first|kernel_rfl|exact fun i hi=>by simp [tab] at hi
theorem Bq:eD Tryz.prog 172 (tab 172) :=
  by constructor<;>first|kernel_rfl|exact fun i hi=>by simp [tab] at hi
theorem Br:eD Tryz.prog 173 (tab 173) :=
  by constructor<;>first|kernel_rfl|exact fun i hi=>by simp [tab] at hi
theorem jo(T:TypeId)(h:(tab T).ok=true):eD Tryz.prog T (tab T):=by
  unfold tab at h
  split at h
  · exact CY
  · exact CZ
  · exact C3
  · exact C4
  · exact C5
  · exact B3
  · exact B4
  · exact B5
  · exact B6
  · exact B7
  · exact B8
  · exact B9
  · exact Ca
  · exact Cb
  · exact Cc
  · exact Cd
  · exact Ce
  · exact Cf
  · exact Cg
  · exact Ch
  · exact Ci
  · exact Cj
  · exact Ck
  · exact Cl
  · exact Cm
  · exact Cn
  · exact Co
  · exact Cp
  · exact Cq
  · exact Cr
  · exact Ct
  · exact Cu
  · exact A6
  · exact A7
  · exact A8
  · exact A9
  · exact Ba
  · exact Bb
  · exact Bc
  · exact Bd
  · exact Be
  · exact Bf
  · exact Bg
  · exact Bh
  · exact Bi
  · exact Bj
  · exact Bk
  · exact Bl
  · exact Bm
  · exact Bn
  · exact Bo
  · exact Bp
  · exact Bq
  · exact Br
  · cases h
theorem Ad{T:TypeId}(h:(tab T).ok=true):cM Tryz.prog T=true:=(jo T h).known
theorem Cv{T:TypeId}(h:(tab T).ok=true):(Tryz.prog.underlying T).isSome=true:=(jo T h).und
theorem Bs{T:TypeId}(h:(tab T).ok=true):Tryz.prog.cellsOf T=(tab T).size:=(jo T h).size
theorem Ae{T:TypeId}(h:(tab T).ok=true):Tryz.prog.bytesOf T=(tab T).bytes:=(jo T h).bytes
theorem Cw{T:TypeId}(h:(tab T).ok=true):lz Tryz.prog T=(tab T).agg:=(jo T h).agg
theorem C6{T:TypeId}(h:(tab T).ok=true):jH Tryz.prog T=(tab T).sl:=(jo T h).sl
theorem Cx{T:TypeId}(h:(tab T).ok=true):m6 Tryz.prog T=(tab T).arr:=(jo T h).arr
theorem Cy{T:TypeId}(h:(tab T).ok=true):mh Tryz.prog T=(tab T).str:=(jo T h).str
theorem Bt{T:TypeId}(h:(tab T).ok=true):sH Tryz.prog T=(tab T).bool:=(jo T h).bool
theorem Cz{T:TypeId}(h:(tab T).ok=true):sK Tryz.prog T=(tab T).int:=(jo T h).int
theorem CA{T:TypeId}(h:(tab T).ok=true):wZ Tryz.prog T=(tab T).ptr:=(jo T h).ptr
theorem Bu{T:TypeId}(h:(tab T).ok=true):Tryz.prog.elem T=(tab T).elem:=(jo T h).elem
theorem Bv{T:TypeId}(h:(tab T).ok=true):Tryz.prog.arrayLen T=(tab T).alen:=(jo T h).alen
theorem Bw{T:TypeId}(h:(tab T).ok=true):Tryz.prog.intKind T=(tab T).kind:=(jo T h).kind
theorem C7{T:TypeId}(h:(tab T).ok=true):lQ Tryz.prog T=(tab T).fk:=(jo T h).fk
theorem By{T:TypeId}(h:(tab T).ok=true):j6 Tryz.prog T=(tab T).zero:=(jo T h).zero
theorem Bz{T:TypeId}(h:(tab T).ok=true):vh Tryz.prog T=(tab T).flat:=(jo T h).flat
theorem CB{T:TypeId}{i:Nat}(h:(tab T).ok=true)(hi:i<(tab T).fs.length):m5 Tryz.prog T i=true:=((jo T h).fld i hi).1
theorem BA{T:TypeId}{i:Nat}(h:(tab T).ok=true)(hi:i<(tab T).fs.length):ky Tryz.prog T i=((tab T).fs.getD i (0,0)).1:=((jo T h).fld i hi).2.1
theorem CC{T:TypeId}{i:Nat}(h:(tab T).ok=true)(hi:i<(tab T).fs.length):pm Tryz.prog T i=((tab T).fs.getD i (0,0)).2:=((jo T h).fld i hi).2.2
def bT:=And.intro (And.intro (And.intro (And.intro @Ad @Cv) (And.intro @Bs @Ae)) (And.intro (And.intro @Cw @C6) (And.intro @Cx @Cy))) (And.intro (And.intro (And.intro @Bt @Cz) (And.intro @CA @Bu)) (And.intro (And.intro (And.intro @Bv @Bw) (And.intro @C7 @By)) (And.intro (And.intro @Bz @CB) (And.intro @BA @CC))))
end Pam
namespace Go.Proofs
open Go.Shelf
def Tryz.lays174_ren:Go.Shelf.Ren:=⟨fun|174=>89|247=>96|245=>97|287=>104|279=>105|280=>106|281=>107|282=>108|321=>115|322=>116|316=>117|171=>119|205=>118|243=>124|246=>129|283=>130|284=>131|285=>132|286=>133|129=>135|317=>134|318=>136|319=>137|320=>138|337=>139|338=>140|n=>n,fun|9=>9|3=>3|2=>2|75=>124|85=>125|4=>4|167=>136|5=>5|53=>137|175=>138|46=>140|168=>141|37=>147|0=>0|210=>150|21=>21|127=>154|145=>157|143=>155|171=>161|173=>164|212=>167|51=>168|20=>20|213=>169|232=>172|233=>173|80=>87|n=>n,fun|15=>0|16=>1|17=>2|18=>3|19=>4|n=>n⟩
theorem Tryz.lays174:Go.Proofs.LaysC.n174 Tryz.prog Tryz.lays174_ren:={
  mixed:=by kernel_rfl
  f129:=Tryz.func135.trans (congrArg some (by kernel_rfl))
  f171:=Tryz.func119.trans (congrArg some (by kernel_rfl))
  f174:=Tryz.func89.trans (congrArg some (by kernel_rfl))
  f205:=Tryz.func118.trans (congrArg some (by kernel_rfl))
  f243:=Tryz.func124.trans (congrArg some (by kernel_rfl))
  f245:=Tryz.func97.trans (congrArg some (by kernel_rfl))
  f246:=Tryz.func129.trans (congrArg some (by kernel_rfl))
  f247:=Tryz.func96.trans (congrArg some (by kernel_rfl))
  f279:=Tryz.func105.trans (congrArg some (by kernel_rfl))
  f280:=Tryz.func106.trans (congrArg some (by kernel_rfl))
  f281:=Tryz.func107.trans (congrArg some (by kernel_rfl))
  f282:=Tryz.func108.trans (congrArg some (by kernel_rfl))
  f283:=Tryz.func130.trans (congrArg some (by kernel_rfl))
  f284:=Tryz.func131.trans (congrArg some (by kernel_rfl))
  f285:=Tryz.func132.trans (congrArg some (by kernel_rfl))
  f286:=Tryz.func133.trans (congrArg some (by kernel_rfl))
  f287:=Tryz.func104.trans (congrArg some (by kernel_rfl))
  f316:=Tryz.func117.trans (congrArg some (by kernel_rfl))
  f317:=Tryz.func134.trans (congrArg some (by kernel_rfl))
  f318:=Tryz.func136.trans (congrArg some (by kernel_rfl))
  f319:=Tryz.func137.trans (congrArg some (by kernel_rfl))
  f320:=Tryz.func138.trans (congrArg some (by kernel_rfl))
  f321:=Tryz.func115.trans (congrArg some (by kernel_rfl))
  f322:=Tryz.func116.trans (congrArg some (by kernel_rfl))
  f337:=Tryz.func139.trans (congrArg some (by kernel_rfl))
  f338:=Tryz.func140.trans (congrArg some (by kernel_rfl))
  t0:=Tryz.underlying0
  a0:=Tryz.isAgg0
  z0:=Tryz.sizeOf0
  v0:=Tryz.zeroValue0
  t2:=Tryz.underlying2
  a2:=Tryz.isAgg2
  z2:=Tryz.sizeOf2
  v2:=Tryz.zeroValue2
  t3:=Tryz.underlying3
  a3:=Tryz.isAgg3
  z3:=Tryz.sizeOf3
  v3:=Tryz.zeroValue3
  t4:=Tryz.underlying4
  a4:=Tryz.isAgg4
  z4:=Tryz.sizeOf4
  v4:=Tryz.zeroValue4
  t5:=Tryz.underlying5
  a5:=Tryz.isAgg5
  z5:=Tryz.sizeOf5
  v5:=Tryz.zeroValue5
  t9:=Tryz.underlying9
  a9:=Tryz.isAgg9
  z9:=Tryz.sizeOf9
  v9:=Tryz.zeroValue9
  t20:=Tryz.underlying20
  a20:=Tryz.isAgg20
  z20:=Tryz.sizeOf20
  v20:=Tryz.zeroValue20
  t21:=Tryz.underlying21
  a21:=Tryz.isAgg21
  z21:=Tryz.sizeOf21
  v21:=Tryz.zeroValue21
  t37:=Tryz.underlying147
  a37:=Tryz.isAgg147
  z37:=Tryz.sizeOf147
  v37:=Tryz.zeroValue147
  t46:=Tryz.underlying140
  a46:=Tryz.isAgg140
  z46:=Tryz.sizeOf140
  v46:=Tryz.zeroValue140
  t51:=Tryz.underlying168
  a51:=Tryz.isAgg168
  z51:=Tryz.sizeOf168
  v51:=Tryz.zeroValue168
  t53:=Tryz.underlying137
  a53:=Tryz.isAgg137
  z53:=Tryz.sizeOf137
  v53:=Tryz.zeroValue137
  t75:=Tryz.underlying124
  a75:=Tryz.isAgg124
  z75:=Tryz.sizeOf124
  v75:=Tryz.zeroValue124
  t85:=Tryz.underlying125
  a85:=Tryz.isAgg125
  z85:=Tryz.sizeOf125
  v85:=Tryz.zeroValue125
  t127:=Tryz.underlying154
  a127:=Tryz.isAgg154
  z127:=Tryz.sizeOf154
  v127:=Tryz.zeroValue154
  t143:=Tryz.underlying155
  a143:=Tryz.isAgg155
  z143:=Tryz.sizeOf155
  v143:=Tryz.zeroValue155
  t145:=Tryz.underlying157
  a145:=Tryz.isAgg157
  z145:=Tryz.sizeOf157
  v145:=Tryz.zeroValue157
  t167:=Tryz.underlying136
  a167:=Tryz.isAgg136
  z167:=Tryz.sizeOf136
  v167:=Tryz.zeroValue136
  t168:=Tryz.underlying141
  a168:=Tryz.isAgg141
  z168:=Tryz.sizeOf141
  v168:=Tryz.zeroValue141
  t171:=Tryz.underlying161
  a171:=Tryz.isAgg161
  z171:=Tryz.sizeOf161
  v171:=Tryz.zeroValue161
  t173:=Tryz.underlying164
  a173:=Tryz.isAgg164
  z173:=Tryz.sizeOf164
  v173:=Tryz.zeroValue164
  t175:=Tryz.underlying138
  a175:=Tryz.isAgg138
  z175:=Tryz.sizeOf138
  v175:=Tryz.zeroValue138
  t210:=Tryz.underlying150
  a210:=Tryz.isAgg150
  z210:=Tryz.sizeOf150
  v210:=Tryz.zeroValue150
  t212:=Tryz.underlying167
  a212:=Tryz.isAgg167
  z212:=Tryz.sizeOf167
  v212:=Tryz.zeroValue167
  t213:=Tryz.underlying169
  a213:=Tryz.isAgg169
  z213:=Tryz.sizeOf169
  t232:=Tryz.underlying172
  a232:=Tryz.isAgg172
  z232:=Tryz.sizeOf172
  v232:=Tryz.zeroValue172
  t233:=Tryz.underlying173
  a233:=Tryz.isAgg173
  z233:=Tryz.sizeOf173
  v233:=Tryz.zeroValue173
  g15:=by kernel_rfl
  g16:=by kernel_rfl
  g17:=by kernel_rfl
  g18:=by kernel_rfl
  g19:=by kernel_rfl
  t80:=Tryz.underlying87
  a80:=Tryz.isAgg87
  z80:=Tryz.sizeOf87
  v80:=Tryz.zeroValue87
  i0:=by kernel_rfl
  i2:=by kernel_rfl
  i3:=by kernel_rfl
  i4:=by kernel_rfl
  i5:=by kernel_rfl
  i9:=by kernel_rfl
  i20:=by kernel_rfl
  i21:=by kernel_rfl
  i37:=by kernel_rfl
  i46:=by kernel_rfl
  i51:=by kernel_rfl
  i53:=by kernel_rfl
  i75:=by kernel_rfl
  i80:=by kernel_rfl
  i85:=by kernel_rfl
  i127:=by kernel_rfl
  i143:=by kernel_rfl
  i145:=by kernel_rfl
  i167:=by kernel_rfl
  i168:=by kernel_rfl
  i171:=by kernel_rfl
  i173:=by kernel_rfl
  i175:=by kernel_rfl
  i210:=by kernel_rfl
  i212:=by kernel_rfl
  i232:=by kernel_rfl
  i233:=by kernel_rfl
  m15:=by kernel_rfl
  m16:=by kernel_rfl
  m17:=by kernel_rfl
  m18:=by kernel_rfl
  m19:=by kernel_rfl
  c0:=by kernel_rfl
  c2:=by kernel_rfl
  c3:=by kernel_rfl
  c4:=by kernel_rfl
  c5:=by kernel_rfl
  c9:=by kernel_rfl
  c20:=by kernel_rfl
  c21:=by kernel_rfl
  c37:=by kernel_rfl
  c46:=by kernel_rfl
  c51:=by kernel_rfl
  c53:=by kernel_rfl
  c75:=by kernel_rfl
  c80:=by kernel_rfl
  c85:=by kernel_rfl
  c127:=by kernel_rfl
  c143:=by kernel_rfl
  c145:=by kernel_rfl
  c167:=by kernel_rfl
  c168:=by kernel_rfl
  c171:=by kernel_rfl
  c173:=by kernel_rfl
  c175:=by kernel_rfl
  c210:=by kernel_rfl
  c212:=by kernel_rfl
  c213:=by kernel_rfl
  c232:=by kernel_rfl
  c233:=by kernel_rfl }
end Go.Proofs
namespace Pam
open Go Go.Proofs
theorem wC:LaysC.n174 Tryz.prog Tryz.lays174_ren:=Tryz.lays174
end Pam
