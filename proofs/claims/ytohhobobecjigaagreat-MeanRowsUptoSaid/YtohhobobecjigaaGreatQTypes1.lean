/- Facts of the types that the proofs of this seat speak of, read off the program by the kernel. Printed by a program of ours. -/
import Derived.Test.YtohhobobecjigaaGreatProg
import Derived.Test.YtohhobobecjigaaGreatQBase1
import Derived.Shelf.Lays
import Derived.Shelf.Lays2
import Derived.Test.YtohhobobecjigaaGreatQBase3
set_option linter.all false
namespace Pam
open Go Go.Proofs
def tab:Nat→TD
  |2=>{ ok:=true,size:=1,bytes:=8,int:=true,kind:=.i64,zero:=some [.int .i64 0] }
  |3=>{ ok:=true,size:=1,bytes:=8,int:=true,kind:=.i64,zero:=some [.int .i64 0] }
  |4=>{ ok:=true,size:=1,bytes:=1,bool:=true,zero:=some [.bool false] }
  |5=>{ ok:=true,size:=1,bytes:=1,int:=true,kind:=.u8,zero:=some [.int .u8 0] }
  |9=>{ ok:=true,size:=1,bytes:=16,str:=true,zero:=some [.str []] }
  |22=>{ ok:=true,size:=1,bytes:=24,sl:=true,elem:=51,zero:=some [.nils] }
  |23=>{ ok:=true,size:=1,bytes:=24,sl:=true,elem:=3,zero:=some [.nils] }
  |24=>{ ok:=true,size:=1,bytes:=24,sl:=true,elem:=54,zero:=some [.nils] }
  |26=>{ ok:=true,size:=4,bytes:=96,agg:=true,fs:=[(0,22),(1,23),(2,23),(3,24)],fk:=true,zero:=some [.nils,.nils,.nils,.nils] }
  |27=>{ ok:=true,size:=1,bytes:=24,sl:=true,elem:=42,zero:=some [.nils] }
  |33=>{ ok:=true,size:=1,bytes:=8,ptr:=true,zero:=some [.nilp] }
  |35=>{ ok:=true,size:=2,bytes:=16,agg:=true,fs:=[(0,3),(1,3)],fk:=true,flat:=some [1,1],zero:=some [.int .i64 0,.int .i64 0] }
  |40=>{ ok:=true,size:=1,bytes:=8,ptr:=true,zero:=some [.nilp] }
  |42=>{ ok:=true,size:=1,bytes:=24,sl:=true,elem:=2,zero:=some [.nils] }
  |51=>{ ok:=true,size:=2,bytes:=16,agg:=true,fs:=[(0,5),(1,3)],fk:=true,flat:=some [1,1],zero:=some [.int .u8 0,.int .i64 0] }
  |52=>{ ok:=true,size:=1,bytes:=24,sl:=true,elem:=107,zero:=some [.nils] }
  |54=>{ ok:=true,size:=6,bytes:=80,agg:=true,fs:=[(0,3),(1,3),(2,3),(3,2),(4,23),(5,52)],fk:=true,zero:=some [.int .i64 0,.int .i64 0,.int .i64 0,.int .i64 0,.nils,.nils] }
  |57=>{ ok:=true,size:=1,bytes:=8,zero:=some [.junk] }
  |59=>{ ok:=true,size:=5,bytes:=104,agg:=true,fs:=[(0,26),(4,57)],fk:=true,zero:=some [.nils,.nils,.nils,.nils,.junk] }
  |65=>{ ok:=true,size:=7,bytes:=152,agg:=true,fs:=[(0,26),(4,27),(5,27),(6,3)],fk:=true,zero:=some [.nils,.nils,.nils,.nils,.nils,.nils,.int .i64 0] }
  |66=>{ ok:=true,size:=1,bytes:=8,ptr:=true,zero:=some [.nilp] }
  |68=>{ ok:=true,size:=2,bytes:=32,agg:=true,fs:=[(0,33),(1,27)],fk:=true,zero:=some [.nilp,.nils] }
  |73=>{ ok:=true,size:=1,bytes:=8,zero:=some [.nilf] }
  |76=>{ ok:=true,size:=1,bytes:=8,ptr:=true,zero:=some [.nilp] }
  |80=>{ ok:=true,size:=1,bytes:=8,zero:=some [.nilf] }
  |81=>{ ok:=true,size:=1,bytes:=24,sl:=true,elem:=4,zero:=some [.nils] }
  |83=>{ ok:=true,size:=5,bytes:=120,agg:=true,fs:=[(0,26),(4,81)],fk:=true,zero:=some [.nils,.nils,.nils,.nils,.nils] }
  |91=>{ ok:=true,size:=1,bytes:=8,zero:=some [.nilf] }
  |99=>{ ok:=true,size:=1,bytes:=8,ptr:=true,zero:=some [.nilp] }
  |101=>{ ok:=true,size:=5,bytes:=104,agg:=true,fs:=[(0,26),(4,3)],fk:=true,zero:=some [.nils,.nils,.nils,.nils,.int .i64 0] }
  |107=>{ ok:=true,size:=4,bytes:=32,agg:=true,fs:=[(0,3),(1,3),(2,3),(3,2)],fk:=true,flat:=some [1,1,1,1],zero:=some [.int .i64 0,.int .i64 0,.int .i64 0,.int .i64 0] }
  |108=>{ ok:=true,size:=6,bytes:=48,agg:=true,arr:=true,elem:=51,alen:=3,zero:=some [.int .u8 0,.int .i64 0,.int .u8 0,.int .i64 0,.int .u8 0,.int .i64 0] }
  |118=>{ ok:=true,size:=1,bytes:=24,sl:=true,elem:=5,zero:=some [.nils] }
  |123=>{ ok:=true,size:=17,bytes:=136,agg:=true,arr:=true,elem:=3,alen:=17,zero:=some [.int .i64 0,.int .i64 0,.int .i64 0,.int .i64 0,.int .i64 0,.int .i64 0,.int .i64 0,.int .i64 0,.int .i64 0,.int .i64 0,.int .i64 0,.int .i64 0,.int .i64 0,.int .i64 0,.int .i64 0,.int .i64 0,.int .i64 0] }
  |131=>{ ok:=true,size:=1,bytes:=8,int:=true,kind:=.u64,zero:=some [.int .u64 0] }
  |135=>{ ok:=true,size:=1,bytes:=8,int:=true,kind:=.i64,zero:=some [.int .i64 0] }
  |144=>{ ok:=true,size:=1,bytes:=4,int:=true,kind:=.u32,zero:=some [.int .u32 0] }
  |146=>{ ok:=true,size:=1,bytes:=8,int:=true,kind:=.u64,zero:=some [.int .u64 0] }
  |149=>{ ok:=true,size:=1,bytes:=8,int:=true,kind:=.u64,zero:=some [.int .u64 0] }
  |153=>{ ok:=true,size:=1,bytes:=8,ptr:=true,zero:=some [.nilp] }
  |_=>{}
theorem Gt:ef Tryz.prog 2 (tab 2) :=
  by constructor<;>first|kernel_rfl|exact fun i hi=>by simp [tab] at hi
theorem Gu:ef Tryz.prog 3 (tab 3) :=
  by constructor<;>first|kernel_rfl|exact fun i hi=>by simp [tab] at hi
theorem Gv:ef Tryz.prog 4 (tab 4) :=
  by constructor<;>first|kernel_rfl|exact fun i hi=>by simp [tab] at hi
theorem Gw:ef Tryz.prog 5 (tab 5) :=
  by constructor<;>first|kernel_rfl|exact fun i hi=>by simp [tab] at hi
theorem Gx:ef Tryz.prog 9 (tab 9) :=
  by constructor<;>first|kernel_rfl|exact fun i hi=>by simp [tab] at hi
theorem FA:ef Tryz.prog 22 (tab 22) :=
  by constructor<;>first|kernel_rfl|exact fun i hi=>by simp [tab] at hi
theorem FB:ef Tryz.prog 23 (tab 23) :=
  by constructor<;>first|kernel_rfl|exact fun i hi=>by simp [tab] at hi
theorem FC:ef Tryz.prog 24 (tab 24) :=
  by constructor<;>first|kernel_rfl|exact fun i hi=>by simp [tab] at hi
theorem FD:ef Tryz.prog 26 (tab 26) :=
  ⟨by kernel_rfl,by kernel_rfl,by kernel_rfl,by kernel_rfl,by kernel_rfl,by kernel_rfl,by kernel_rfl,by kernel_rfl,by kernel_rfl,by kernel_rfl,by kernel_rfl,by kernel_rfl,by kernel_rfl,by kernel_rfl,by kernel_rfl,by kernel_rfl,by kernel_rfl,
    fun i hi=>by
      have hi:i<4:=hi
      match i,hi with
      |0,_=>exact ⟨by kernel_rfl,by kernel_rfl,by kernel_rfl⟩
      |1,_=>exact ⟨by kernel_rfl,by kernel_rfl,by kernel_rfl⟩
      |2,_=>exact ⟨by kernel_rfl,by kernel_rfl,by kernel_rfl⟩
      |3,_=>exact ⟨by kernel_rfl,by kernel_rfl,by kernel_rfl⟩⟩
theorem FE:ef Tryz.prog 27 (tab 27) :=
  by constructor<;>first|kernel_rfl|exact fun i hi=>by simp [tab] at hi
theorem FF:ef Tryz.prog 33 (tab 33) :=
  by constructor<;>first|kernel_rfl|exact fun i hi=>by simp [tab] at hi
theorem FG:ef Tryz.prog 35 (tab 35) :=
  ⟨by kernel_rfl,by kernel_rfl,by kernel_rfl,by kernel_rfl,by kernel_rfl,by kernel_rfl,by kernel_rfl,by kernel_rfl,by kernel_rfl,by kernel_rfl,by kernel_rfl,by kernel_rfl,by kernel_rfl,by kernel_rfl,by kernel_rfl,by kernel_rfl,by kernel_rfl,
    fun i hi=>by
      have hi:i<2:=hi
      match i,hi with
      |0,_=>exact ⟨by kernel_rfl,by kernel_rfl,by kernel_rfl⟩
      |1,_=>exact ⟨by kernel_rfl,by kernel_rfl,by kernel_rfl⟩⟩
theorem FH:ef Tryz.prog 40 (tab 40) :=
  by constructor<;>first|kernel_rfl|exact fun i hi=>by simp [tab] at hi
theorem FI:ef Tryz.prog 42 (tab 42) :=
  by constructor<;>first|kernel_rfl|exact fun i hi=>by simp [tab] at hi
theorem FJ:ef Tryz.prog 51 (tab 51) :=
  ⟨by kernel_rfl,by kernel_rfl,by kernel_rfl,by kernel_rfl,by kernel_rfl,by kernel_rfl,by kernel_rfl,by kernel_rfl,by kernel_rfl,by kernel_rfl,by kernel_rfl,by kernel_rfl,by kernel_rfl,by kernel_rfl,by kernel_rfl,by kernel_rfl,by kernel_rfl,
    fun i hi=>by
      have hi:i<2:=hi
      match i,hi with
      |0,_=>exact ⟨by kernel_rfl,by kernel_rfl,by kernel_rfl⟩
      |1,_=>exact ⟨by kernel_rfl,by kernel_rfl,by kernel_rfl⟩⟩
theorem FK:ef Tryz.prog 52 (tab 52) :=
  by constructor<;>first|kernel_rfl|exact fun i hi=>by simp [tab] at hi
theorem FL:ef Tryz.prog 54 (tab 54) :=
  ⟨by kernel_rfl,by kernel_rfl,by kernel_rfl,by kernel_rfl,by kernel_rfl,by kernel_rfl,by kernel_rfl,by kernel_rfl,by kernel_rfl,by kernel_rfl,by kernel_rfl,by kernel_rfl,by kernel_rfl,by kernel_rfl,by kernel_rfl,by kernel_rfl,by kernel_rfl,
    fun i hi=>by
      have hi:i<6:=hi
      match i,hi with
      |0,_=>exact ⟨by kernel_rfl,by kernel_rfl,by kernel_rfl⟩
      |1,_=>exact ⟨by kernel_rfl,by kernel_rfl,by kernel_rfl⟩
      |2,_=>exact ⟨by kernel_rfl,by kernel_rfl,by kernel_rfl⟩
      |3,_=>exact ⟨by kernel_rfl,by kernel_rfl,by kernel_rfl⟩
      |4,_=>exact ⟨by kernel_rfl,by kernel_rfl,by kernel_rfl⟩
      |5,_=>exact ⟨by kernel_rfl,by kernel_rfl,by kernel_rfl⟩⟩
theorem FM:ef Tryz.prog 57 (tab 57) :=
  by constructor<;>first|kernel_rfl|exact fun i hi=>by simp [tab] at hi
theorem FN:ef Tryz.prog 59 (tab 59) :=
  ⟨by kernel_rfl,by kernel_rfl,by kernel_rfl,by kernel_rfl,by kernel_rfl,by kernel_rfl,by kernel_rfl,by kernel_rfl,by kernel_rfl,by kernel_rfl,by kernel_rfl,by kernel_rfl,by kernel_rfl,by kernel_rfl,by kernel_rfl,by kernel_rfl,by kernel_rfl,
    fun i hi=>by
      have hi:i<2:=hi
      match i,hi with
      |0,_=>exact ⟨by kernel_rfl,by kernel_rfl,by kernel_rfl⟩
      |1,_=>exact ⟨by kernel_rfl,by kernel_rfl,by kernel_rfl⟩⟩
theorem FO:ef Tryz.prog 65 (tab 65) :=
  ⟨by kernel_rfl,by kernel_rfl,by kernel_rfl,by kernel_rfl,by kernel_rfl,by kernel_rfl,by kernel_rfl,by kernel_rfl,by kernel_rfl,by kernel_rfl,by kernel_rfl,by kernel_rfl,by kernel_rfl,by kernel_rfl,by kernel_rfl,by kernel_rfl,by kernel_rfl,
    fun i hi=>by
      have hi:i<4:=hi
      match i,hi with
      |0,_=>exact ⟨by kernel_rfl,by kernel_rfl,by kernel_rfl⟩
      |1,_=>exact ⟨by kernel_rfl,by kernel_rfl,by kernel_rfl⟩
      |2,_=>exact ⟨by kernel_rfl,by kernel_rfl,by kernel_rfl⟩
      |3,_=>exact ⟨by kernel_rfl,by kernel_rfl,by kernel_rfl⟩⟩
theorem FP:ef Tryz.prog 66 (tab 66) :=
  by constructor<;>first|kernel_rfl|exact fun i hi=>by simp [tab] at hi
theorem FQ:ef Tryz.prog 68 (tab 68) :=
  ⟨by kernel_rfl,by kernel_rfl,by kernel_rfl,by kernel_rfl,by kernel_rfl,by kernel_rfl,by kernel_rfl,by kernel_rfl,by kernel_rfl,by kernel_rfl,by kernel_rfl,by kernel_rfl,by kernel_rfl,by kernel_rfl,by kernel_rfl,by kernel_rfl,by kernel_rfl,
    fun i hi=>by
      have hi:i<2:=hi
      match i,hi with
      |0,_=>exact ⟨by kernel_rfl,by kernel_rfl,by kernel_rfl⟩
      |1,_=>exact ⟨by kernel_rfl,by kernel_rfl,by kernel_rfl⟩⟩
theorem FR:ef Tryz.prog 73 (tab 73) :=
  by constructor<;>first|kernel_rfl|exact fun i hi=>by simp [tab] at hi
theorem FS:ef Tryz.prog 76 (tab 76) :=
  by constructor<;>first|kernel_rfl|exact fun i hi=>by simp [tab] at hi
theorem FT:ef Tryz.prog 80 (tab 80) :=
  by constructor<;>first|kernel_rfl|exact fun i hi=>by simp [tab] at hi
theorem FU:ef Tryz.prog 81 (tab 81) :=
  by constructor<;>first|kernel_rfl|exact fun i hi=>by simp [tab] at hi
theorem FV:ef Tryz.prog 83 (tab 83) :=
  ⟨by kernel_rfl,by kernel_rfl,by kernel_rfl,by kernel_rfl,by kernel_rfl,by kernel_rfl,by kernel_rfl,by kernel_rfl,by kernel_rfl,by kernel_rfl,by kernel_rfl,by kernel_rfl,by kernel_rfl,by kernel_rfl,by kernel_rfl,by kernel_rfl,by kernel_rfl,
    fun i hi=>by
      have hi:i<2:=hi
      match i,hi with
      |0,_=>exact ⟨by kernel_rfl,by kernel_rfl,by kernel_rfl⟩
      |1,_=>exact ⟨by kernel_rfl,by kernel_rfl,by kernel_rfl⟩⟩
theorem FW:ef Tryz.prog 91 (tab 91) :=
  by constructor<;>first|kernel_rfl|exact fun i hi=>by simp [tab] at hi
theorem FX:ef Tryz.prog 99 (tab 99) :=
  by constructor<;>first|kernel_rfl|exact fun i hi=>by simp [tab] at hi
theorem EO:ef Tryz.prog 101 (tab 101) :=
  ⟨by kernel_rfl,by kernel_rfl,by kernel_rfl,by kernel_rfl,by kernel_rfl,by kernel_rfl,by kernel_rfl,by kernel_rfl,by kernel_rfl,by kernel_rfl,by kernel_rfl,by kernel_rfl,by kernel_rfl,by kernel_rfl,by kernel_rfl,by kernel_rfl,by kernel_rfl,
    fun i hi=>by
      have hi:i<2:=hi
      match i,hi with
      |0,_=>exact ⟨by kernel_rfl,by kernel_rfl,by kernel_rfl⟩
      |1,_=>exact ⟨by kernel_rfl,by kernel_rfl,by kernel_rfl⟩⟩
theorem EP:ef Tryz.prog 107 (tab 107) :=
  ⟨by kernel_rfl,by kernel_rfl,by kernel_rfl,by kernel_rfl,by kernel_rfl,by kernel_rfl,by kernel_rfl,by kernel_rfl,by kernel_rfl,by kernel_rfl,by kernel_rfl,by kernel_rfl,by kernel_rfl,by kernel_rfl,by kernel_rfl,by kernel_rfl,by kernel_rfl,
    fun i hi=>by
      have hi:i<4:=hi
      match i,hi with
      |0,_=>exact ⟨by kernel_rfl,by kernel_rfl,by kernel_rfl⟩
      |1,_=>exact ⟨by kernel_rfl,by kernel_rfl,by kernel_rfl⟩
      |2,_=>exact ⟨by kernel_rfl,by kernel_rfl,by kernel_rfl⟩
      |3,_=>exact ⟨by kernel_rfl,by kernel_rfl,by kernel_rfl⟩⟩
theorem EQ:ef Tryz.prog 108 (tab 108) :=
  by constructor<;>first|kernel_rfl|exact fun i hi=>by simp [tab] at hi
theorem ER:ef Tryz.prog 118 (tab 118) :=
  by constructor<;>first|kernel_rfl|exact fun i hi=>by simp [tab] at hi
theorem ES:ef Tryz.prog 123 (tab 123) :=
  by constructor<;>first|kernel_rfl|exact fun i hi=>by simp [tab] at hi
theorem ET:ef Tryz.prog 131 (tab 131) :=
  by constructor<;>first|kernel_rfl|exact fun i hi=>by simp [tab] at hi
theorem EU:ef Tryz.prog 135 (tab 135) :=
  by constructor<;>first|kernel_rfl|exact fun i hi=>by simp [tab] at hi
theorem EV:ef Tryz.prog 144 (tab 144) :=
  by constructor<;>first|kernel_rfl|exact fun i hi=>by simp [tab] at hi
theorem EW:ef Tryz.prog 146 (tab 146) :=
  by constructor<;>first|kernel_rfl|exact fun i hi=>by simp [tab] at hi
theorem EY:ef Tryz.prog 149 (tab 149) :=
  by constructor<;>first|kernel_rfl|exact fun i hi=>by simp [tab] at hi
theorem EZ:ef Tryz.prog 153 (tab 153) :=
  by constructor<;>first|kernel_rfl|exact fun i hi=>by simp [tab] at hi
theorem iM(T:TypeId)(h:(tab T).ok=true):ef Tryz.prog T (tab T):=by
  unfold tab at h
  split at h
  · exact Gt
  · exact Gu
  · exact Gv
  · exact Gw
  · exact Gx
  · exact FA
  · exact FB
  · exact FC
  · exact FD
  · exact FE
  · exact FF
  · exact FG
  · exact FH
  · exact FI
  · exact FJ
  · exact FK
  · exact FL
  · exact FM
  · exact FN
  · exact FO
  · exact FP
  · exact FQ
  · exact FR
  · exact FS
  · exact FT
  · exact FU
  · exact FV
  · exact FW
  · exact FX
  · exact EO
  · exact EP
  · exact EQ
  · exact ER
  · exact ES
  · exact ET
  · exact EU
  · exact EV
  · exact EW
  · exact EY
  · exact EZ
  · cases h
theorem DI{T:TypeId}(h:(tab T).ok=true):bJ Tryz.prog T=true:=(iM T h).known
theorem FY{T:TypeId}(h:(tab T).ok=true):(Tryz.prog.underlying T).isSome=true:=(iM T h).und
theorem E4{T:TypeId}(h:(tab T).ok=true):Tryz.prog.cellsOf T=(tab T).size:=(iM T h).size
theorem DJ{T:TypeId}(h:(tab T).ok=true):Tryz.prog.bytesOf T=(tab T).bytes:=(iM T h).bytes
theorem FZ{T:TypeId}(h:(tab T).ok=true):lG Tryz.prog T=(tab T).agg:=(iM T h).agg
theorem Gy{T:TypeId}(h:(tab T).ok=true):iy Tryz.prog T=(tab T).sl:=(iM T h).sl
theorem F0{T:TypeId}(h:(tab T).ok=true):nR Tryz.prog T=(tab T).arr:=(iM T h).arr
theorem F1{T:TypeId}(h:(tab T).ok=true):oy Tryz.prog T=(tab T).str:=(iM T h).str
theorem E5{T:TypeId}(h:(tab T).ok=true):u6 Tryz.prog T=(tab T).bool:=(iM T h).bool
theorem F2{T:TypeId}(h:(tab T).ok=true):u7 Tryz.prog T=(tab T).int:=(iM T h).int
theorem F3{T:TypeId}(h:(tab T).ok=true):AJ Tryz.prog T=(tab T).ptr:=(iM T h).ptr
theorem E6{T:TypeId}(h:(tab T).ok=true):Tryz.prog.elem T=(tab T).elem:=(iM T h).elem
theorem E7{T:TypeId}(h:(tab T).ok=true):Tryz.prog.arrayLen T=(tab T).alen:=(iM T h).alen
theorem E8{T:TypeId}(h:(tab T).ok=true):Tryz.prog.intKind T=(tab T).kind:=(iM T h).kind
theorem Gz{T:TypeId}(h:(tab T).ok=true):mI Tryz.prog T=(tab T).fk:=(iM T h).fk
theorem E9{T:TypeId}(h:(tab T).ok=true):lK Tryz.prog T=(tab T).zero:=(iM T h).zero
theorem Fa{T:TypeId}(h:(tab T).ok=true):yC Tryz.prog T=(tab T).flat:=(iM T h).flat
theorem F4{T:TypeId}{i:Nat}(h:(tab T).ok=true)(hi:i<(tab T).fs.length):ox Tryz.prog T i=true:=((iM T h).fld i hi).1
theorem Fb{T:TypeId}{i:Nat}(h:(tab T).ok=true)(hi:i<(tab T).fs.length):kD Tryz.prog T i=((tab T).fs.getD i (0,0)).1:=((iM T h).fld i hi).2.1
theorem F5{T:TypeId}{i:Nat}(h:(tab T).ok=true)(hi:i<(tab T).fs.length):qr Tryz.prog T i=((tab T).fs.getD i (0,0)).2:=((iM T h).fld i hi).2.2
def bT:=And.intro (And.intro (And.intro (And.intro @DI @FY) (And.intro @E4 @DJ)) (And.intro (And.intro @FZ @Gy) (And.intro @F0 @F1))) (And.intro (And.intro (And.intro @E5 @F2) (And.intro @F3 @E6)) (And.intro (And.intro (And.intro @E7 @E8) (And.intro @Gz @E9)) (And.intro (And.intro @Fa @F4) (And.intro @Fb @F5))))
end Pam
namespace Go.Proofs
open Go.Shelf
def Tryz.lays189_ren:Go.Shelf.Ren:=⟨fun|189=>91|125=>105|257=>104|128=>116|129=>117|294=>107|295=>108|296=>109|297=>110|298=>111|299=>112|216=>113|300=>114|301=>115|328=>119|329=>120|330=>121|331=>122|332=>123|215=>124|343=>126|n=>n,fun|28=>23|3=>3|46=>131|0=>0|51=>144|53=>146|4=>4|183=>136|182=>135|131=>141|5=>5|9=>9|218=>149|222=>153|228=>156|229=>157|n=>n,fun|n=>n⟩
theorem Tryz.lays189:Go.Proofs.Lays.n189 Tryz.prog Tryz.lays189_ren:={
  mixed:=by kernel_rfl
  f125:=Tryz.func105.trans (congrArg some (by kernel_rfl))
  f128:=Tryz.func116.trans (congrArg some (by kernel_rfl))
  f129:=Tryz.func117.trans (congrArg some (by kernel_rfl))
  f189:=Tryz.func91.trans (congrArg some (by kernel_rfl))
  f215:=Tryz.func124.trans (congrArg some (by kernel_rfl))
  f216:=Tryz.func113.trans (congrArg some (by kernel_rfl))
  f257:=Tryz.func104.trans (congrArg some (by kernel_rfl))
  f294:=Tryz.func107.trans (congrArg some (by kernel_rfl))
  f295:=Tryz.func108.trans (congrArg some (by kernel_rfl))
  f296:=Tryz.func109.trans (congrArg some (by kernel_rfl))
  f297:=Tryz.func110.trans (congrArg some (by kernel_rfl))
  f298:=Tryz.func111.trans (congrArg some (by kernel_rfl))
  f299:=Tryz.func112.trans (congrArg some (by kernel_rfl))
  f300:=Tryz.func114.trans (congrArg some (by kernel_rfl))
  f301:=Tryz.func115.trans (congrArg some (by kernel_rfl))
  f328:=Tryz.func119.trans (congrArg some (by kernel_rfl))
  f329:=Tryz.func120.trans (congrArg some (by kernel_rfl))
  f330:=Tryz.func121.trans (congrArg some (by kernel_rfl))
  f331:=Tryz.func122.trans (congrArg some (by kernel_rfl))
  f332:=Tryz.func123.trans (congrArg some (by kernel_rfl))
  f343:=Tryz.func126.trans (congrArg some (by kernel_rfl))
  t0:=Tryz.underlying0
  a0:=Tryz.isAgg0
  z0:=Tryz.sizeOf0
  v0:=Tryz.zeroValue0
  t3:=Tryz.underlying3
  a3:=Tryz.isAgg3
  z3:=Tryz.sizeOf3
  v3:=Tryz.zeroValue3
  t4:=Tryz.underlying4
  a4:=Tryz.isAgg4
  z4:=Tryz.sizeOf4
  v4:=Tryz.zeroValue4
  t5:=Tryz.underlying5
  a5:=Tryz.isAgg5
  z5:=Tryz.sizeOf5
  v5:=Tryz.zeroValue5
  t9:=Tryz.underlying9
  a9:=Tryz.isAgg9
  z9:=Tryz.sizeOf9
  v9:=Tryz.zeroValue9
  t28:=Tryz.underlying23
  a28:=Tryz.isAgg23
  z28:=Tryz.sizeOf23
  v28:=Tryz.zeroValue23
  t46:=Tryz.underlying131
  a46:=Tryz.isAgg131
  z46:=Tryz.sizeOf131
  v46:=Tryz.zeroValue131
  t51:=Tryz.underlying144
  a51:=Tryz.isAgg144
  z51:=Tryz.sizeOf144
  v51:=Tryz.zeroValue144
  t53:=Tryz.underlying146
  a53:=Tryz.isAgg146
  z53:=Tryz.sizeOf146
  v53:=Tryz.zeroValue146
  t131:=Tryz.underlying141
  a131:=Tryz.isAgg141
  z131:=Tryz.sizeOf141
  v131:=Tryz.zeroValue141
  t182:=Tryz.underlying135
  a182:=Tryz.isAgg135
  z182:=Tryz.sizeOf135
  v182:=Tryz.zeroValue135
  t183:=Tryz.underlying136
  a183:=Tryz.isAgg136
  z183:=Tryz.sizeOf136
  v183:=Tryz.zeroValue136
  t218:=Tryz.underlying149
  a218:=Tryz.isAgg149
  z218:=Tryz.sizeOf149
  v218:=Tryz.zeroValue149
  t222:=Tryz.underlying153
  a222:=Tryz.isAgg153
  z222:=Tryz.sizeOf153
  v222:=Tryz.zeroValue153
  t228:=Tryz.underlying156
  a228:=Tryz.isAgg156
  z228:=Tryz.sizeOf156
  v228:=Tryz.zeroValue156
  t229:=Tryz.underlying157
  a229:=Tryz.isAgg157
  z229:=Tryz.sizeOf157
  v229:=Tryz.zeroValue157 }
def Tryz.laysNm220_ren:Go.Shelf.Ren:=⟨fun|20=>92|n=>n,fun|22=>23|3=>3|4=>4|0=>0|n=>n,fun|n=>n⟩
theorem Tryz.laysNm220:Go.Proofs.Lays2.n20 Tryz.prog Tryz.laysNm220_ren:={
  mixed:=by kernel_rfl
  f20:=Tryz.func92.trans (congrArg some (by kernel_rfl))
  t0:=Tryz.underlying0
  a0:=Tryz.isAgg0
  z0:=Tryz.sizeOf0
  v0:=Tryz.zeroValue0
  t3:=Tryz.underlying3
  a3:=Tryz.isAgg3
  z3:=Tryz.sizeOf3
  v3:=Tryz.zeroValue3
  t4:=Tryz.underlying4
  a4:=Tryz.isAgg4
  z4:=Tryz.sizeOf4
  v4:=Tryz.zeroValue4
  t22:=Tryz.underlying23
  a22:=Tryz.isAgg23
  z22:=Tryz.sizeOf23
  v22:=Tryz.zeroValue23
  i3:=by kernel_rfl }
end Go.Proofs
namespace Pam
open Go Go.Proofs
theorem BG:Lays.n189 Tryz.prog Tryz.lays189_ren:=Tryz.lays189
theorem xV:Lays2.n20 Tryz.prog Tryz.laysNm220_ren:=Tryz.laysNm220
end Pam
namespace Go.Proofs
open Go.Shelf
def Tryz.laysNm223_ren:Go.Shelf.Ren:=⟨fun|23=>40|n=>n,fun|22=>23|3=>3|4=>4|0=>0|n=>n,fun|n=>n⟩
theorem Tryz.laysNm223:Go.Proofs.Lays2.n23 Tryz.prog Tryz.laysNm223_ren:={
  mixed:=by kernel_rfl
  f23:=Tryz.func40.trans (congrArg some (by kernel_rfl))
  t0:=Tryz.underlying0
  a0:=Tryz.isAgg0
  z0:=Tryz.sizeOf0
  v0:=Tryz.zeroValue0
  t3:=Tryz.underlying3
  a3:=Tryz.isAgg3
  z3:=Tryz.sizeOf3
  v3:=Tryz.zeroValue3
  t4:=Tryz.underlying4
  a4:=Tryz.isAgg4
  z4:=Tryz.sizeOf4
  v4:=Tryz.zeroValue4
  t22:=Tryz.underlying23
  a22:=Tryz.isAgg23
  z22:=Tryz.sizeOf23
  v22:=Tryz.zeroValue23
  i3:=by kernel_rfl }
end Go.Proofs
namespace Pam
open Go Go.Proofs
theorem yU:Lays2.n23 Tryz.prog Tryz.laysNm223_ren:=Tryz.laysNm223
end Pam
