/- Facts of the types that the proofs of this seat speak of, read off the program by the kernel. Printed by a program of ours. -/
import Derived.Test.YthafkijdkbmdgaaProg
import Derived.Test.YthafkijdkbmdgaaDBase1
import Derived.Shelf.Lays
import Derived.Shelf.Lays2
import Derived.Test.YthafkijdkbmdgaaDBase3
set_option linter.all false
namespace Pam
open Go Go.Proofs
def tab:Nat→TD
  | 2=>{ ok:=true,size:=1,bytes:=8,int:=true,kind:=.i64,zero:=some [.int .i64 0] }
  | 3=>{ ok:=true,size:=1,bytes:=8,int:=true,kind:=.i64,zero:=some [.int .i64 0] }
  | 4=>{ ok:=true,size:=1,bytes:=1,bool:=true,zero:=some [.bool false] }
  | 5=>{ ok:=true,size:=1,bytes:=1,int:=true,kind:=.u8,zero:=some [.int .u8 0] }
  | 9=>{ ok:=true,size:=1,bytes:=16,str:=true,zero:=some [.str []] }
  | 22=>{ ok:=true,size:=1,bytes:=24,sl:=true,elem:=50,zero:=some [.nils] }
  | 23=>{ ok:=true,size:=1,bytes:=24,sl:=true,elem:=3,zero:=some [.nils] }
  | 24=>{ ok:=true,size:=1,bytes:=24,sl:=true,elem:=53,zero:=some [.nils] }
  | 26=>{ ok:=true,size:=4,bytes:=96,agg:=true,fs:=[(0,22),(1,23),(2,23),(3,24)],fk:=true,zero:=some [.nils,.nils,.nils,.nils] }
  | 27=>{ ok:=true,size:=1,bytes:=24,sl:=true,elem:=38,zero:=some [.nils] }
  | 32=>{ ok:=true,size:=1,bytes:=8,int:=true,kind:=.u64,zero:=some [.int .u64 0] }
  | 33=>{ ok:=true,size:=1,bytes:=8,ptr:=true,zero:=some [.nilp] }
  | 35=>{ ok:=true,size:=2,bytes:=16,agg:=true,fs:=[(0,3),(1,3)],fk:=true,flat:=some [1,1],zero:=some [.int .i64 0,.int .i64 0] }
  | 38=>{ ok:=true,size:=1,bytes:=24,sl:=true,elem:=2,zero:=some [.nils] }
  | 50=>{ ok:=true,size:=2,bytes:=16,agg:=true,fs:=[(0,5),(1,3)],fk:=true,flat:=some [1,1],zero:=some [.int .u8 0,.int .i64 0] }
  | 51=>{ ok:=true,size:=1,bytes:=24,sl:=true,elem:=100,zero:=some [.nils] }
  | 53=>{ ok:=true,size:=6,bytes:=80,agg:=true,fs:=[(0,3),(1,3),(2,3),(3,2),(4,23),(5,51)],fk:=true,zero:=some [.int .i64 0,.int .i64 0,.int .i64 0,.int .i64 0,.nils,.nils] }
  | 57=>{ ok:=true,size:=1,bytes:=8,zero:=some [.junk] }
  | 59=>{ ok:=true,size:=5,bytes:=104,agg:=true,fs:=[(0,26),(4,57)],fk:=true,zero:=some [.nils,.nils,.nils,.nils,.junk] }
  | 60=>{ ok:=true,size:=1,bytes:=8,ptr:=true,zero:=some [.nilp] }
  | 62=>{ ok:=true,size:=2,bytes:=32,agg:=true,fs:=[(0,33),(1,27)],fk:=true,zero:=some [.nilp,.nils] }
  | 66=>{ ok:=true,size:=1,bytes:=24,sl:=true,elem:=4,zero:=some [.nils] }
  | 77=>{ ok:=true,size:=1,bytes:=8,ptr:=true,zero:=some [.nilp] }
  | 79=>{ ok:=true,size:=1,bytes:=8,ptr:=true,zero:=some [.nilp] }
  | 83=>{ ok:=true,size:=1,bytes:=8,zero:=some [.nilf] }
  | 85=>{ ok:=true,size:=5,bytes:=120,agg:=true,fs:=[(0,26),(4,66)],fk:=true,zero:=some [.nils,.nils,.nils,.nils,.nils] }
  | 87=>{ ok:=true,size:=1,bytes:=8,zero:=some [.nilf] }
  | 88=>{ ok:=true,size:=1,bytes:=8,zero:=some [.nilf] }
  | 100=>{ ok:=true,size:=4,bytes:=32,agg:=true,fs:=[(0,3),(1,3),(2,3),(3,2)],fk:=true,flat:=some [1,1,1,1],zero:=some [.int .i64 0,.int .i64 0,.int .i64 0,.int .i64 0] }
  | 106=>{ ok:=true,size:=7,bytes:=152,agg:=true,fs:=[(0,26),(4,27),(5,27),(6,3)],fk:=true,zero:=some [.nils,.nils,.nils,.nils,.nils,.nils,.int .i64 0] }
  | 108=>{ ok:=true,size:=1,bytes:=8,ptr:=true,zero:=some [.nilp] }
  | 110=>{ ok:=true,size:=5,bytes:=104,agg:=true,fs:=[(0,26),(4,3)],fk:=true,zero:=some [.nils,.nils,.nils,.nils,.int .i64 0] }
  | 117=>{ ok:=true,size:=6,bytes:=48,agg:=true,arr:=true,elem:=50,alen:=3,zero:=some [.int .u8 0,.int .i64 0,.int .u8 0,.int .i64 0,.int .u8 0,.int .i64 0] }
  | 126=>{ ok:=true,size:=1,bytes:=24,sl:=true,elem:=5,zero:=some [.nils] }
  | 129=>{ ok:=true,size:=17,bytes:=136,agg:=true,arr:=true,elem:=3,alen:=17,zero:=some [.int .i64 0,.int .i64 0,.int .i64 0,.int .i64 0,.int .i64 0,.int .i64 0,.int .i64 0,.int .i64 0,.int .i64 0,.int .i64 0,.int .i64 0,.int .i64 0,.int .i64 0,.int .i64 0,.int .i64 0,.int .i64 0,.int .i64 0] }
  | 136=>{ ok:=true,size:=1,bytes:=8,int:=true,kind:=.i64,zero:=some [.int .i64 0] }
  | 144=>{ ok:=true,size:=1,bytes:=4,int:=true,kind:=.u32,zero:=some [.int .u32 0] }
  | 146=>{ ok:=true,size:=1,bytes:=8,int:=true,kind:=.u64,zero:=some [.int .u64 0] }
  | 151=>{ ok:=true,size:=1,bytes:=8,int:=true,kind:=.u64,zero:=some [.int .u64 0] }
  | 155=>{ ok:=true,size:=1,bytes:=8,ptr:=true,zero:=some [.nilp] }
  | _=>{}
theorem CW:dq Try.prog 2 (tab 2) :=
  by constructor <;> first | kernel_rfl | exact fun i hi=>by simp [tab] at hi
theorem CX:dq Try.prog 3 (tab 3) :=
  by constructor <;> first | kernel_rfl | exact fun i hi=>by simp [tab] at hi
theorem CY:dq Try.prog 4 (tab 4) :=
  by constructor <;> first | kernel_rfl | exact fun i hi=>by simp [tab] at hi
theorem CZ:dq Try.prog 5 (tab 5) :=
  by constructor <;> first | kernel_rfl | exact fun i hi=>by simp [tab] at hi
theorem C3:dq Try.prog 9 (tab 9) :=
  by constructor <;> first | kernel_rfl | exact fun i hi=>by simp [tab] at hi
theorem B7:dq Try.prog 22 (tab 22) :=
  by constructor <;> first | kernel_rfl | exact fun i hi=>by simp [tab] at hi
theorem B8:dq Try.prog 23 (tab 23) :=
  by constructor <;> first | kernel_rfl | exact fun i hi=>by simp [tab] at hi
theorem B9:dq Try.prog 24 (tab 24) :=
  by constructor <;> first | kernel_rfl | exact fun i hi=>by simp [tab] at hi
theorem Ca:dq Try.prog 26 (tab 26) :=
  ⟨by kernel_rfl,by kernel_rfl,by kernel_rfl,by kernel_rfl,by kernel_rfl,by kernel_rfl,by kernel_rfl,by kernel_rfl,by kernel_rfl,by kernel_rfl,by kernel_rfl,by kernel_rfl,by kernel_rfl,by kernel_rfl,by kernel_rfl,by kernel_rfl,by kernel_rfl,
    fun i hi=>by
      have hi:i < 4:=hi
      match i,hi with
      | 0,_=>exact ⟨by kernel_rfl,by kernel_rfl,by kernel_rfl⟩
      | 1,_=>exact ⟨by kernel_rfl,by kernel_rfl,by kernel_rfl⟩
      | 2,_=>exact ⟨by kernel_rfl,by kernel_rfl,by kernel_rfl⟩
      | 3,_=>exact ⟨by kernel_rfl,by kernel_rfl,by kernel_rfl⟩⟩
theorem Cb:dq Try.prog 27 (tab 27) :=
  by constructor <;> first | kernel_rfl | exact fun i hi=>by simp [tab] at hi
theorem Cc:dq Try.prog 32 (tab 32) :=
  by constructor <;> first | kernel_rfl | exact fun i hi=>by simp [tab] at hi
theorem Cd:dq Try.prog 33 (tab 33) :=
  by constructor <;> first | kernel_rfl | exact fun i hi=>by simp [tab] at hi
theorem Ce:dq Try.prog 35 (tab 35) :=
  ⟨by kernel_rfl,by kernel_rfl,by kernel_rfl,by kernel_rfl,by kernel_rfl,by kernel_rfl,by kernel_rfl,by kernel_rfl,by kernel_rfl,by kernel_rfl,by kernel_rfl,by kernel_rfl,by kernel_rfl,by kernel_rfl,by kernel_rfl,by kernel_rfl,by kernel_rfl,
    fun i hi=>by
      have hi:i < 2:=hi
      match i,hi with
      | 0,_=>exact ⟨by kernel_rfl,by kernel_rfl,by kernel_rfl⟩
      | 1,_=>exact ⟨by kernel_rfl,by kernel_rfl,by kernel_rfl⟩⟩
theorem Cf:dq Try.prog 38 (tab 38) :=
  by constructor <;> first | kernel_rfl | exact fun i hi=>by simp [tab] at hi
theorem Cg:dq Try.prog 50 (tab 50) :=
  ⟨by kernel_rfl,by kernel_rfl,by kernel_rfl,by kernel_rfl,by kernel_rfl,by kernel_rfl,by kernel_rfl,by kernel_rfl,by kernel_rfl,by kernel_rfl,by kernel_rfl,by kernel_rfl,by kernel_rfl,by kernel_rfl,by kernel_rfl,by kernel_rfl,by kernel_rfl,
    fun i hi=>by
      have hi:i < 2:=hi
      match i,hi with
      | 0,_=>exact ⟨by kernel_rfl,by kernel_rfl,by kernel_rfl⟩
      | 1,_=>exact ⟨by kernel_rfl,by kernel_rfl,by kernel_rfl⟩⟩
theorem Ch:dq Try.prog 51 (tab 51) :=
  by constructor <;> first | kernel_rfl | exact fun i hi=>by simp [tab] at hi
theorem Ci:dq Try.prog 53 (tab 53) :=
  ⟨by kernel_rfl,by kernel_rfl,by kernel_rfl,by kernel_rfl,by kernel_rfl,by kernel_rfl,by kernel_rfl,by kernel_rfl,by kernel_rfl,by kernel_rfl,by kernel_rfl,by kernel_rfl,by kernel_rfl,by kernel_rfl,by kernel_rfl,by kernel_rfl,by kernel_rfl,
    fun i hi=>by
      have hi:i < 6:=hi
      match i,hi with
      | 0,_=>exact ⟨by kernel_rfl,by kernel_rfl,by kernel_rfl⟩
      | 1,_=>exact ⟨by kernel_rfl,by kernel_rfl,by kernel_rfl⟩
      | 2,_=>exact ⟨by kernel_rfl,by kernel_rfl,by kernel_rfl⟩
      | 3,_=>exact ⟨by kernel_rfl,by kernel_rfl,by kernel_rfl⟩
      | 4,_=>exact ⟨by kernel_rfl,by kernel_rfl,by kernel_rfl⟩
      | 5,_=>exact ⟨by kernel_rfl,by kernel_rfl,by kernel_rfl⟩⟩
theorem Cj:dq Try.prog 57 (tab 57) :=
  by constructor <;> first | kernel_rfl | exact fun i hi=>by simp [tab] at hi
theorem Ck:dq Try.prog 59 (tab 59) :=
  ⟨by kernel_rfl,by kernel_rfl,by kernel_rfl,by kernel_rfl,by kernel_rfl,by kernel_rfl,by kernel_rfl,by kernel_rfl,by kernel_rfl,by kernel_rfl,by kernel_rfl,by kernel_rfl,by kernel_rfl,by kernel_rfl,by kernel_rfl,by kernel_rfl,by kernel_rfl,
    fun i hi=>by
      have hi:i < 2:=hi
      match i,hi with
      | 0,_=>exact ⟨by kernel_rfl,by kernel_rfl,by kernel_rfl⟩
      | 1,_=>exact ⟨by kernel_rfl,by kernel_rfl,by kernel_rfl⟩⟩
theorem Cl:dq Try.prog 60 (tab 60) :=
  by constructor <;> first | kernel_rfl | exact fun i hi=>by simp [tab] at hi
theorem Cm:dq Try.prog 62 (tab 62) :=
  ⟨by kernel_rfl,by kernel_rfl,by kernel_rfl,by kernel_rfl,by kernel_rfl,by kernel_rfl,by kernel_rfl,by kernel_rfl,by kernel_rfl,by kernel_rfl,by kernel_rfl,by kernel_rfl,by kernel_rfl,by kernel_rfl,by kernel_rfl,by kernel_rfl,by kernel_rfl,
    fun i hi=>by
      have hi:i < 2:=hi
      match i,hi with
      | 0,_=>exact ⟨by kernel_rfl,by kernel_rfl,by kernel_rfl⟩
      | 1,_=>exact ⟨by kernel_rfl,by kernel_rfl,by kernel_rfl⟩⟩
theorem Cn:dq Try.prog 66 (tab 66) :=
  by constructor <;> first | kernel_rfl | exact fun i hi=>by simp [tab] at hi
theorem Co:dq Try.prog 77 (tab 77) :=
  by constructor <;> first | kernel_rfl | exact fun i hi=>by simp [tab] at hi
theorem Cp:dq Try.prog 79 (tab 79) :=
  by constructor <;> first | kernel_rfl | exact fun i hi=>by simp [tab] at hi
theorem Cq:dq Try.prog 83 (tab 83) :=
  by constructor <;> first | kernel_rfl | exact fun i hi=>by simp [tab] at hi
theorem Cr:dq Try.prog 85 (tab 85) :=
  ⟨by kernel_rfl,by kernel_rfl,by kernel_rfl,by kernel_rfl,by kernel_rfl,by kernel_rfl,by kernel_rfl,by kernel_rfl,by kernel_rfl,by kernel_rfl,by kernel_rfl,by kernel_rfl,by kernel_rfl,by kernel_rfl,by kernel_rfl,by kernel_rfl,by kernel_rfl,
    fun i hi=>by
      have hi:i < 2:=hi
      match i,hi with
      | 0,_=>exact ⟨by kernel_rfl,by kernel_rfl,by kernel_rfl⟩
      | 1,_=>exact ⟨by kernel_rfl,by kernel_rfl,by kernel_rfl⟩⟩
theorem Cs:dq Try.prog 87 (tab 87) :=
  by constructor <;> first | kernel_rfl | exact fun i hi=>by simp [tab] at hi
theorem Ct:dq Try.prog 88 (tab 88) :=
  by constructor <;> first | kernel_rfl | exact fun i hi=>by simp [tab] at hi
theorem Bt:dq Try.prog 100 (tab 100) :=
  ⟨by kernel_rfl,by kernel_rfl,by kernel_rfl,by kernel_rfl,by kernel_rfl,by kernel_rfl,by kernel_rfl,by kernel_rfl,by kernel_rfl,by kernel_rfl,by kernel_rfl,by kernel_rfl,by kernel_rfl,by kernel_rfl,by kernel_rfl,by kernel_rfl,by kernel_rfl,
    fun i hi=>by
      have hi:i < 4:=hi
      match i,hi with
      | 0,_=>exact ⟨by kernel_rfl,by kernel_rfl,by kernel_rfl⟩
      | 1,_=>exact ⟨by kernel_rfl,by kernel_rfl,by kernel_rfl⟩
      | 2,_=>exact ⟨by kernel_rfl,by kernel_rfl,by kernel_rfl⟩
      | 3,_=>exact ⟨by kernel_rfl,by kernel_rfl,by kernel_rfl⟩⟩
theorem Bu:dq Try.prog 106 (tab 106) :=
  ⟨by kernel_rfl,by kernel_rfl,by kernel_rfl,by kernel_rfl,by kernel_rfl,by kernel_rfl,by kernel_rfl,by kernel_rfl,by kernel_rfl,by kernel_rfl,by kernel_rfl,by kernel_rfl,by kernel_rfl,by kernel_rfl,by kernel_rfl,by kernel_rfl,by kernel_rfl,
    fun i hi=>by
      have hi:i < 4:=hi
      match i,hi with
      | 0,_=>exact ⟨by kernel_rfl,by kernel_rfl,by kernel_rfl⟩
      | 1,_=>exact ⟨by kernel_rfl,by kernel_rfl,by kernel_rfl⟩
      | 2,_=>exact ⟨by kernel_rfl,by kernel_rfl,by kernel_rfl⟩
      | 3,_=>exact ⟨by kernel_rfl,by kernel_rfl,by kernel_rfl⟩⟩
theorem Bv:dq Try.prog 108 (tab 108) :=
  by constructor <;> first | kernel_rfl | exact fun i hi=>by simp [tab] at hi
theorem Bw:dq Try.prog 110 (tab 110) :=
  ⟨by kernel_rfl,by kernel_rfl,by kernel_rfl,by kernel_rfl,by kernel_rfl,by kernel_rfl,by kernel_rfl,by kernel_rfl,by kernel_rfl,by kernel_rfl,by kernel_rfl,by kernel_rfl,by kernel_rfl,by kernel_rfl,by kernel_rfl,by kernel_rfl,by kernel_rfl,
    fun i hi=>by
      have hi:i < 2:=hi
      match i,hi with
      | 0,_=>exact ⟨by kernel_rfl,by kernel_rfl,by kernel_rfl⟩
      | 1,_=>exact ⟨by kernel_rfl,by kernel_rfl,by kernel_rfl⟩⟩
theorem By:dq Try.prog 117 (tab 117) :=
  by constructor <;> first | kernel_rfl | exact fun i hi=>by simp [tab] at hi
theorem Bz:dq Try.prog 126 (tab 126) :=
  by constructor <;> first | kernel_rfl | exact fun i hi=>by simp [tab] at hi
theorem BA:dq Try.prog 129 (tab 129) :=
  by constructor <;> first | kernel_rfl | exact fun i hi=>by simp [tab] at hi
theorem BB:dq Try.prog 136 (tab 136) :=
  by constructor <;> first | kernel_rfl | exact fun i hi=>by simp [tab] at hi
theorem BC:dq Try.prog 144 (tab 144) :=
  by constructor <;> first | kernel_rfl | exact fun i hi=>by simp [tab] at hi
theorem BD:dq Try.prog 146 (tab 146) :=
  by constructor <;> first | kernel_rfl | exact fun i hi=>by simp [tab] at hi
theorem BE:dq Try.prog 151 (tab 151) :=
  by constructor <;> first | kernel_rfl | exact fun i hi=>by simp [tab] at hi
theorem BF:dq Try.prog 155 (tab 155) :=
  by constructor <;> first | kernel_rfl | exact fun i hi=>by simp [tab] at hi
theorem gh (T:TypeId) (h:(tab T).ok = true):dq Try.prog T (tab T):=by
  unfold tab at h
  split at h
  · exact CW
  · exact CX
  · exact CY
  · exact CZ
  · exact C3
  · exact B7
  · exact B8
  · exact B9
  · exact Ca
  · exact Cb
  · exact Cc
  · exact Cd
  · exact Ce
  · exact Cf
  · exact Cg
  · exact Ch
  · exact Ci
  · exact Cj
  · exact Ck
  · exact Cl
  · exact Cm
  · exact Cn
  · exact Co
  · exact Cp
  · exact Cq
  · exact Cr
  · exact Cs
  · exact Ct
  · exact Bt
  · exact Bu
  · exact Bv
  · exact Bw
  · exact By
  · exact Bz
  · exact BA
  · exact BB
  · exact BC
  · exact BD
  · exact BE
  · exact BF
  · cases h
theorem Ay {T:TypeId} (h:(tab T).ok = true):bG Try.prog T = true:=(gh T h).known
theorem Cu {T:TypeId} (h:(tab T).ok = true):(Try.prog.underlying T).isSome = true:=(gh T h).und
theorem BG {T:TypeId} (h:(tab T).ok = true):Try.prog.cellsOf T = (tab T).size:=(gh T h).size
theorem Az {T:TypeId} (h:(tab T).ok = true):Try.prog.bytesOf T = (tab T).bytes:=(gh T h).bytes
theorem Cv {T:TypeId} (h:(tab T).ok = true):jB Try.prog T = (tab T).agg:=(gh T h).agg
theorem C4 {T:TypeId} (h:(tab T).ok = true):gF Try.prog T = (tab T).sl:=(gh T h).sl
theorem Cw {T:TypeId} (h:(tab T).ok = true):lu Try.prog T = (tab T).arr:=(gh T h).arr
theorem Cx {T:TypeId} (h:(tab T).ok = true):lX Try.prog T = (tab T).str:=(gh T h).str
theorem BH {T:TypeId} (h:(tab T).ok = true):rL Try.prog T = (tab T).bool:=(gh T h).bool
theorem Cy {T:TypeId} (h:(tab T).ok = true):tx Try.prog T = (tab T).int:=(gh T h).int
theorem Cz {T:TypeId} (h:(tab T).ok = true):xi Try.prog T = (tab T).ptr:=(gh T h).ptr
theorem BI {T:TypeId} (h:(tab T).ok = true):Try.prog.elem T = (tab T).elem:=(gh T h).elem
theorem BJ {T:TypeId} (h:(tab T).ok = true):Try.prog.arrayLen T = (tab T).alen:=(gh T h).alen
theorem BK {T:TypeId} (h:(tab T).ok = true):Try.prog.intKind T = (tab T).kind:=(gh T h).kind
theorem C5 {T:TypeId} (h:(tab T).ok = true):ks Try.prog T = (tab T).fk:=(gh T h).fk
theorem BL {T:TypeId} (h:(tab T).ok = true):j6 Try.prog T = (tab T).zero:=(gh T h).zero
theorem BM {T:TypeId} (h:(tab T).ok = true):va Try.prog T = (tab T).flat:=(gh T h).flat
theorem CA {T:TypeId} {i:Nat} (h:(tab T).ok = true) (hi:i < (tab T).fs.length):lW Try.prog T i = true:=((gh T h).fld i hi).1
theorem BN {T:TypeId} {i:Nat} (h:(tab T).ok = true) (hi:i < (tab T).fs.length):i1 Try.prog T i = ((tab T).fs.getD i (0,0)).1:=((gh T h).fld i hi).2.1
theorem CB {T:TypeId} {i:Nat} (h:(tab T).ok = true) (hi:i < (tab T).fs.length):nP Try.prog T i = ((tab T).fs.getD i (0,0)).2:=((gh T h).fld i hi).2.2
def bT:=And.intro (And.intro (And.intro (And.intro @Ay @Cu) (And.intro @BG @Az)) (And.intro (And.intro @Cv @C4) (And.intro @Cw @Cx))) (And.intro (And.intro (And.intro @BH @Cy) (And.intro @Cz @BI)) (And.intro (And.intro (And.intro @BJ @BK) (And.intro @C5 @BL)) (And.intro (And.intro @BM @CA) (And.intro @BN @CB))))
end Pam
namespace Go.Proofs
open Go.Shelf
def Try.lays189_ren:Go.Shelf.Ren:=⟨fun | 189=>80 | 125=>95 | 257=>94 | 128=>118 | 129=>119 | 294=>109 | 295=>110 | 296=>111 | 297=>112 | 298=>113 | 299=>114 | 216=>115 | 300=>116 | 301=>117 | 328=>122 | 329=>123 | 330=>124 | 331=>125 | 332=>126 | 215=>127 | 343=>129 | n=>n,fun | 28=>23 | 3=>3 | 46=>32 | 0=>0 | 51=>144 | 53=>146 | 4=>4 | 183=>137 | 182=>136 | 131=>96 | 5=>5 | 9=>9 | 218=>151 | 222=>155 | 228=>159 | 229=>160 | n=>n,fun | n=>n⟩
theorem Try.lays189:Go.Proofs.Lays.n189 Try.prog Try.lays189_ren:={
  mixed:=by kernel_rfl
  f125:=Try.func95.trans (congrArg some (by kernel_rfl))
  f128:=Try.func118.trans (congrArg some (by kernel_rfl))
  f129:=Try.func119.trans (congrArg some (by kernel_rfl))
  f189:=Try.func80.trans (congrArg some (by kernel_rfl))
  f215:=Try.func127.trans (congrArg some (by kernel_rfl))
  f216:=Try.func115.trans (congrArg some (by kernel_rfl))
  f257:=Try.func94.trans (congrArg some (by kernel_rfl))
  f294:=Try.func109.trans (congrArg some (by kernel_rfl))
  f295:=Try.func110.trans (congrArg some (by kernel_rfl))
  f296:=Try.func111.trans (congrArg some (by kernel_rfl))
  f297:=Try.func112.trans (congrArg some (by kernel_rfl))
  f298:=Try.func113.trans (congrArg some (by kernel_rfl))
  f299:=Try.func114.trans (congrArg some (by kernel_rfl))
  f300:=Try.func116.trans (congrArg some (by kernel_rfl))
  f301:=Try.func117.trans (congrArg some (by kernel_rfl))
  f328:=Try.func122.trans (congrArg some (by kernel_rfl))
  f329:=Try.func123.trans (congrArg some (by kernel_rfl))
  f330:=Try.func124.trans (congrArg some (by kernel_rfl))
  f331:=Try.func125.trans (congrArg some (by kernel_rfl))
  f332:=Try.func126.trans (congrArg some (by kernel_rfl))
  f343:=Try.func129.trans (congrArg some (by kernel_rfl))
  t0:=Try.underlying0
  a0:=Try.isAgg0
  z0:=Try.sizeOf0
  v0:=Try.zeroValue0
  t3:=Try.underlying3
  a3:=Try.isAgg3
  z3:=Try.sizeOf3
  v3:=Try.zeroValue3
  t4:=Try.underlying4
  a4:=Try.isAgg4
  z4:=Try.sizeOf4
  v4:=Try.zeroValue4
  t5:=Try.underlying5
  a5:=Try.isAgg5
  z5:=Try.sizeOf5
  v5:=Try.zeroValue5
  t9:=Try.underlying9
  a9:=Try.isAgg9
  z9:=Try.sizeOf9
  v9:=Try.zeroValue9
  t28:=Try.underlying23
  a28:=Try.isAgg23
  z28:=Try.sizeOf23
  v28:=Try.zeroValue23
  t46:=Try.underlying32
  a46:=Try.isAgg32
  z46:=Try.sizeOf32
  v46:=Try.zeroValue32
  t51:=Try.underlying144
  a51:=Try.isAgg144
  z51:=Try.sizeOf144
  v51:=Try.zeroValue144
  t53:=Try.underlying146
  a53:=Try.isAgg146
  z53:=Try.sizeOf146
  v53:=Try.zeroValue146
  t131:=Try.underlying96
  a131:=Try.isAgg96
  z131:=Try.sizeOf96
  v131:=Try.zeroValue96
  t182:=Try.underlying136
  a182:=Try.isAgg136
  z182:=Try.sizeOf136
  v182:=Try.zeroValue136
  t183:=Try.underlying137
  a183:=Try.isAgg137
  z183:=Try.sizeOf137
  v183:=Try.zeroValue137
  t218:=Try.underlying151
  a218:=Try.isAgg151
  z218:=Try.sizeOf151
  v218:=Try.zeroValue151
  t222:=Try.underlying155
  a222:=Try.isAgg155
  z222:=Try.sizeOf155
  v222:=Try.zeroValue155
  t228:=Try.underlying159
  a228:=Try.isAgg159
  z228:=Try.sizeOf159
  v228:=Try.zeroValue159
  t229:=Try.underlying160
  a229:=Try.isAgg160
  z229:=Try.sizeOf160
  v229:=Try.zeroValue160 }
def Try.laysNm220_ren:Go.Shelf.Ren:=⟨fun | 20=>81 | n=>n,fun | 22=>23 | 3=>3 | 4=>4 | 0=>0 | n=>n,fun | n=>n⟩
theorem Try.laysNm220:Go.Proofs.Lays2.n20 Try.prog Try.laysNm220_ren:={
  mixed:=by kernel_rfl
  f20:=Try.func81.trans (congrArg some (by kernel_rfl))
  t0:=Try.underlying0
  a0:=Try.isAgg0
  z0:=Try.sizeOf0
  v0:=Try.zeroValue0
  t3:=Try.underlying3
  a3:=Try.isAgg3
  z3:=Try.sizeOf3
  v3:=Try.zeroValue3
  t4:=Try.underlying4
  a4:=Try.isAgg4
  z4:=Try.sizeOf4
  v4:=Try.zeroValue4
  t22:=Try.underlying23
  a22:=Try.isAgg23
  z22:=Try.sizeOf23
  v22:=Try.zeroValue23
  i3:=by kernel_rfl }
end Go.Proofs
namespace Pam
open Go Go.Proofs
theorem yv:Lays.n189 Try.prog Try.lays189_ren:=Try.lays189
theorem uC:Lays2.n20 Try.prog Try.laysNm220_ren:=Try.laysNm220
end Pam
