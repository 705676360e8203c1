/- the numbers of strconv.FormatInt and strings.Join in this program: printed by the kit's own command, in plain words -/
import Derived.Shelf.LaysM
import Derived.Test.YtmlkpniimpahoaaGreatDoorProg
import Derived.Test.YtmlkpniimpahoaaGreatDoorSBase3
import Derived.Test.YtmlkpniimpahoaaGreatDoorSBase1
import Derived.Shelf.LaysC
set_option linter.all false
namespace Go.Proofs
open Go.Shelf
def Tryz.lays173_ren:Go.Shelf.Ren:=⟨fun|173=>78|246=>105|283=>118|284=>119|285=>120|286=>121|129=>131|317=>130|318=>132|319=>133|320=>134|337=>144|338=>145|n=>n,fun|2=>2|3=>3|9=>9|4=>4|171=>168|0=>0|53=>169|37=>124|5=>5|173=>172|212=>181|51=>182|20=>20|213=>183|46=>185|232=>203|233=>204|n=>n,fun|17=>1|18=>4|19=>5|n=>n⟩
theorem Tryz.lays173:Go.Proofs.LaysM.n173 Tryz.prog Tryz.lays173_ren:={
  mixed:=by kernel_rfl
  f129:=Tryz.func131.trans (congrArg some (by kernel_rfl))
  f173:=Tryz.func78.trans (congrArg some (by kernel_rfl))
  f246:=Tryz.func105.trans (congrArg some (by kernel_rfl))
  f283:=Tryz.func118.trans (congrArg some (by kernel_rfl))
  f284:=Tryz.func119.trans (congrArg some (by kernel_rfl))
  f285:=Tryz.func120.trans (congrArg some (by kernel_rfl))
  f286:=Tryz.func121.trans (congrArg some (by kernel_rfl))
  f317:=Tryz.func130.trans (congrArg some (by kernel_rfl))
  f318:=Tryz.func132.trans (congrArg some (by kernel_rfl))
  f319:=Tryz.func133.trans (congrArg some (by kernel_rfl))
  f320:=Tryz.func134.trans (congrArg some (by kernel_rfl))
  f337:=Tryz.func144.trans (congrArg some (by kernel_rfl))
  f338:=Tryz.func145.trans (congrArg some (by kernel_rfl))
  t0:=Tryz.underlying0
  a0:=Tryz.isAgg0
  z0:=Tryz.sizeOf0
  v0:=Tryz.zeroValue0
  t2:=Tryz.underlying2
  a2:=Tryz.isAgg2
  z2:=Tryz.sizeOf2
  v2:=Tryz.zeroValue2
  t3:=Tryz.underlying3
  a3:=Tryz.isAgg3
  z3:=Tryz.sizeOf3
  v3:=Tryz.zeroValue3
  t4:=Tryz.underlying4
  a4:=Tryz.isAgg4
  z4:=Tryz.sizeOf4
  v4:=Tryz.zeroValue4
  t5:=Tryz.underlying5
  a5:=Tryz.isAgg5
  z5:=Tryz.sizeOf5
  v5:=Tryz.zeroValue5
  t9:=Tryz.underlying9
  a9:=Tryz.isAgg9
  z9:=Tryz.sizeOf9
  v9:=Tryz.zeroValue9
  t20:=Tryz.underlying20
  a20:=Tryz.isAgg20
  z20:=Tryz.sizeOf20
  v20:=Tryz.zeroValue20
  t37:=Tryz.underlying124
  a37:=Tryz.isAgg124
  z37:=Tryz.sizeOf124
  v37:=Tryz.zeroValue124
  t46:=Tryz.underlying185
  a46:=Tryz.isAgg185
  z46:=Tryz.sizeOf185
  v46:=Tryz.zeroValue185
  t51:=Tryz.underlying182
  a51:=Tryz.isAgg182
  z51:=Tryz.sizeOf182
  v51:=Tryz.zeroValue182
  t53:=Tryz.underlying169
  a53:=Tryz.isAgg169
  z53:=Tryz.sizeOf169
  v53:=Tryz.zeroValue169
  t171:=Tryz.underlying168
  a171:=Tryz.isAgg168
  z171:=Tryz.sizeOf168
  v171:=Tryz.zeroValue168
  t173:=Tryz.underlying172
  a173:=Tryz.isAgg172
  z173:=Tryz.sizeOf172
  v173:=Tryz.zeroValue172
  t212:=Tryz.underlying181
  a212:=Tryz.isAgg181
  z212:=Tryz.sizeOf181
  v212:=Tryz.zeroValue181
  t213:=Tryz.underlying183
  a213:=Tryz.isAgg183
  z213:=Tryz.sizeOf183
  t232:=Tryz.underlying203
  a232:=Tryz.isAgg203
  z232:=Tryz.sizeOf203
  v232:=Tryz.zeroValue203
  t233:=Tryz.underlying204
  a233:=Tryz.isAgg204
  z233:=Tryz.sizeOf204
  v233:=Tryz.zeroValue204
  g17:=by kernel_rfl
  g18:=by kernel_rfl
  g19:=by kernel_rfl
  i0:=by kernel_rfl
  i2:=by kernel_rfl
  i3:=by kernel_rfl
  i4:=by kernel_rfl
  i5:=by kernel_rfl
  i9:=by kernel_rfl
  i20:=by kernel_rfl
  i37:=by kernel_rfl
  i46:=by kernel_rfl
  i51:=by kernel_rfl
  i53:=by kernel_rfl
  i171:=by kernel_rfl
  i173:=by kernel_rfl
  i212:=by kernel_rfl
  i232:=by kernel_rfl
  i233:=by kernel_rfl
  m17:=by kernel_rfl
  m18:=by kernel_rfl
  m19:=by kernel_rfl }
def Tryz.lays156_ren:Go.Shelf.Ren:=⟨fun|156=>44|165=>71|166=>72|169=>73|240=>103|241=>104|276=>116|277=>117|n=>n,fun|31=>37|9=>9|3=>3|4=>4|0=>0|20=>20|72=>126|76=>129|70=>123|37=>124|75=>128|127=>151|164=>165|5=>5|80=>112|n=>n,fun|n=>n⟩
theorem Tryz.lays156:Go.Proofs.Lays.n156 Tryz.prog Tryz.lays156_ren:={
  mixed:=by kernel_rfl
  f156:=Tryz.func44.trans (congrArg some (by kernel_rfl))
  f165:=Tryz.func71.trans (congrArg some (by kernel_rfl))
  f166:=Tryz.func72.trans (congrArg some (by kernel_rfl))
  f169:=Tryz.func73.trans (congrArg some (by kernel_rfl))
  f240:=Tryz.func103.trans (congrArg some (by kernel_rfl))
  f241:=Tryz.func104.trans (congrArg some (by kernel_rfl))
  f276:=Tryz.func116.trans (congrArg some (by kernel_rfl))
  f277:=Tryz.func117.trans (congrArg some (by kernel_rfl))
  t0:=Tryz.underlying0
  a0:=Tryz.isAgg0
  z0:=Tryz.sizeOf0
  v0:=Tryz.zeroValue0
  t3:=Tryz.underlying3
  a3:=Tryz.isAgg3
  z3:=Tryz.sizeOf3
  v3:=Tryz.zeroValue3
  t4:=Tryz.underlying4
  a4:=Tryz.isAgg4
  z4:=Tryz.sizeOf4
  v4:=Tryz.zeroValue4
  t9:=Tryz.underlying9
  a9:=Tryz.isAgg9
  z9:=Tryz.sizeOf9
  v9:=Tryz.zeroValue9
  t20:=Tryz.underlying20
  a20:=Tryz.isAgg20
  z20:=Tryz.sizeOf20
  v20:=Tryz.zeroValue20
  t31:=Tryz.underlying37
  a31:=Tryz.isAgg37
  z31:=Tryz.sizeOf37
  v31:=Tryz.zeroValue37
  t37:=Tryz.underlying124
  a37:=Tryz.isAgg124
  z37:=Tryz.sizeOf124
  v37:=Tryz.zeroValue124
  t70:=Tryz.underlying123
  a70:=Tryz.isAgg123
  z70:=Tryz.sizeOf123
  v70:=Tryz.zeroValue123
  t72:=Tryz.underlying126
  a72:=Tryz.isAgg126
  z72:=Tryz.sizeOf126
  v72:=Tryz.zeroValue126
  t75:=Tryz.underlying128
  a75:=Tryz.isAgg128
  z75:=Tryz.sizeOf128
  v75:=Tryz.zeroValue128
  t76:=Tryz.underlying129
  a76:=Tryz.isAgg129
  z76:=Tryz.sizeOf129
  v76:=Tryz.zeroValue129
  t127:=Tryz.underlying151
  a127:=Tryz.isAgg151
  z127:=Tryz.sizeOf151
  v127:=Tryz.zeroValue151
  t164:=Tryz.underlying165
  a164:=Tryz.isAgg165
  z164:=Tryz.sizeOf165
  v164:=Tryz.zeroValue165 }
theorem Tryz.extra156:Builder.Extra Tryz.prog Tryz.lays156_ren where
  sizeBuilder:=by kernel_rfl
  liesBuilder:=by kernel_rfl
  t5:=Tryz.lays173.t5
  a5:=Tryz.lays173.a5
  z5:=Tryz.lays173.z5
  v5:=Tryz.lays173.v5
  infoByte:=by kernel_rfl
  cellsByte:=by kernel_rfl
  sizeByte:=by kernel_rfl
  neB5:=by decide
end Go.Proofs
namespace Pam
open Go Go.Proofs
theorem AE:LaysM.n173 Tryz.prog Tryz.lays173_ren:=Tryz.lays173
theorem rI:Lays.n156 Tryz.prog Tryz.lays156_ren:=Tryz.lays156
theorem qv:Builder.Extra Tryz.prog Tryz.lays156_ren:=Tryz.extra156
theorem qW:Tryz.prog.globalNamed "internal/strconv.uint64pow10"=some Bk:=by kernel_rfl
end Pam
namespace Pam
open Go Go.Proofs
def tab:Nat→TD
  |2=>{ ok:=true,size:=1,bytes:=8,int:=true,kind:=.i64,zero:=some [.int .i64 0] }
  |3=>{ ok:=true,size:=1,bytes:=8,int:=true,kind:=.i64,zero:=some [.int .i64 0] }
  |4=>{ ok:=true,size:=1,bytes:=1,bool:=true,zero:=some [.bool false] }
  |5=>{ ok:=true,size:=1,bytes:=1,int:=true,kind:=.u8,zero:=some [.int .u8 0] }
  |9=>{ ok:=true,size:=1,bytes:=16,str:=true,zero:=some [.str []] }
  |21=>{ ok:=true,size:=1,bytes:=4,int:=true,kind:=.i32,zero:=some [.int .i32 0] }
  |22=>{ ok:=true,size:=1,bytes:=24,sl:=true,elem:=41,zero:=some [.nils] }
  |24=>{ ok:=true,size:=1,bytes:=24,agg:=true,fs:=[(0,22)],fk:=true,zero:=some [.nils] }
  |28=>{ ok:=true,size:=2,bytes:=16,agg:=true,fs:=[(0,3),(1,3)],fk:=true,flat:=some [1,1],zero:=some [.int .i64 0,.int .i64 0] }
  |37=>{ ok:=true,size:=1,bytes:=24,sl:=true,elem:=9,zero:=some [.nils] }
  |38=>{ ok:=true,size:=1,bytes:=24,sl:=true,elem:=69,zero:=some [.nils] }
  |39=>{ ok:=true,size:=1,bytes:=24,sl:=true,elem:=47,zero:=some [.nils] }
  |41=>{ ok:=true,size:=7,bytes:=144,agg:=true,fs:=[(0,9),(1,3),(2,37),(3,38),(4,38),(5,38),(6,39)],fk:=true,zero:=some [.str [],.int .i64 0,.nils,.nils,.nils,.nils,.nils] }
  |44=>{ ok:=true,size:=1,bytes:=24,sl:=true,elem:=65,zero:=some [.nils] }
  |45=>{ ok:=true,size:=1,bytes:=24,sl:=true,elem:=85,zero:=some [.nils] }
  |47=>{ ok:=true,size:=5,bytes:=96,agg:=true,fs:=[(0,3),(1,37),(2,9),(3,44),(4,45)],fk:=true,zero:=some [.int .i64 0,.nils,.str [],.nils,.nils] }
  |63=>{ ok:=true,size:=1,bytes:=8,zero:=some [.nilf] }
  |65=>{ ok:=true,size:=1,bytes:=24,sl:=true,elem:=83,zero:=some [.nils] }
  |67=>{ ok:=true,size:=2,bytes:=32,agg:=true,fs:=[(0,5),(1,65)],fk:=true,zero:=some [.int .u8 0,.nils] }
  |69=>{ ok:=true,size:=3,bytes:=48,agg:=true,fs:=[(0,9),(1,67)],fk:=true,zero:=some [.str [],.int .u8 0,.nils] }
  |71=>{ ok:=true,size:=1,bytes:=24,sl:=true,elem:=109,zero:=some [.nils] }
  |74=>{ ok:=true,size:=2,bytes:=16,agg:=true,fs:=[(0,3),(1,3)],fk:=true,flat:=some [1,1],zero:=some [.int .i64 0,.int .i64 0] }
  |76=>{ ok:=true,size:=1,bytes:=8,ptr:=true,zero:=some [.nilp] }
  |78=>{ ok:=true,size:=4,bytes:=48,agg:=true,fs:=[(0,71),(1,3),(2,3),(3,3)],fk:=true,zero:=some [.nils,.int .i64 0,.int .i64 0,.int .i64 0] }
  |83=>{ ok:=true,size:=2,bytes:=24,agg:=true,fs:=[(0,2),(1,9)],fk:=true,flat:=some [1,2],zero:=some [.int .i64 0,.str []] }
  |85=>{ ok:=true,size:=6,bytes:=88,agg:=true,fs:=[(0,3),(1,3),(2,2),(3,9),(4,44),(5,45)],fk:=true,zero:=some [.int .i64 0,.int .i64 0,.int .i64 0,.str [],.nils,.nils] }
  |86=>{ ok:=true,size:=1,bytes:=8,ptr:=true,zero:=some [.nilp] }
  |88=>{ ok:=true,size:=3,bytes:=24,agg:=true,fs:=[(0,28),(2,3)],fk:=true,zero:=some [.int .i64 0,.int .i64 0,.int .i64 0] }
  |97=>{ ok:=true,size:=1,bytes:=24,sl:=true,elem:=38,zero:=some [.nils] }
  |102=>{ ok:=true,size:=1,bytes:=8,zero:=some [.nilf] }
  |104=>{ ok:=true,size:=1,bytes:=8,ptr:=true,zero:=some [.nilp] }
  |106=>{ ok:=true,size:=3,bytes:=48,agg:=true,fs:=[(0,9),(1,3),(2,71)],fk:=true,zero:=some [.str [],.int .i64 0,.nils] }
  |109=>{ ok:=true,size:=4,bytes:=40,agg:=true,fs:=[(0,3),(1,3),(2,9),(3,2)],fk:=true,flat:=some [1,1,2,1],zero:=some [.int .i64 0,.int .i64 0,.str [],.int .i64 0] }
  |112=>{ ok:=true,size:=1,bytes:=8,zero:=some [.nilf] }
  |116=>{ ok:=true,size:=1,bytes:=8,zero:=some [.nilf] }
  |123=>{ ok:=true,size:=1,bytes:=8,ptr:=true,zero:=some [.nilp] }
  |124=>{ ok:=true,size:=1,bytes:=24,sl:=true,elem:=5,zero:=some [.nils] }
  |126=>{ ok:=true,size:=2,bytes:=32,agg:=true,fs:=[(0,123),(1,124)],fk:=true,zero:=some [.nilp,.nils] }
  |139=>{ ok:=true,size:=1,bytes:=8,zero:=some [.nilf] }
  |141=>{ ok:=true,size:=1,bytes:=8,zero:=some [.nilf] }
  |148=>{ ok:=true,size:=1,bytes:=8,zero:=some [.nilf] }
  |151=>{ ok:=true,size:=1,bytes:=8,ptr:=true,zero:=some [.nilp] }
  |152=>{ ok:=true,size:=1,bytes:=24,sl:=true,elem:=3,zero:=some [.nils] }
  |159=>{ ok:=true,size:=4,bytes:=32,agg:=true,fs:=[(0,3),(1,3),(2,3),(3,3)],fk:=true,flat:=some [1,1,1,1],zero:=some [.int .i64 0,.int .i64 0,.int .i64 0,.int .i64 0] }
  |163=>{ ok:=true,size:=2,bytes:=32,agg:=true,arr:=true,elem:=9,alen:=2,zero:=some [.str [],.str []] }
  |165=>{ ok:=true,size:=1,bytes:=8,zero:=some [.nilp] }
  |168=>{ ok:=true,size:=24,bytes:=24,agg:=true,arr:=true,elem:=5,alen:=24,zero:=some [.int .u8 0,.int .u8 0,.int .u8 0,.int .u8 0,.int .u8 0,.int .u8 0,.int .u8 0,.int .u8 0,.int .u8 0,.int .u8 0,.int .u8 0,.int .u8 0,.int .u8 0,.int .u8 0,.int .u8 0,.int .u8 0,.int .u8 0,.int .u8 0,.int .u8 0,.int .u8 0,.int .u8 0,.int .u8 0,.int .u8 0,.int .u8 0] }
  |169=>{ ok:=true,size:=1,bytes:=8,int:=true,kind:=.u64,zero:=some [.int .u64 0] }
  |177=>{ ok:=true,size:=13,bytes:=104,agg:=true,arr:=true,elem:=3,alen:=13,zero:=some [.int .i64 0,.int .i64 0,.int .i64 0,.int .i64 0,.int .i64 0,.int .i64 0,.int .i64 0,.int .i64 0,.int .i64 0,.int .i64 0,.int .i64 0,.int .i64 0,.int .i64 0] }
  |178=>{ ok:=true,size:=13,bytes:=208,agg:=true,arr:=true,elem:=9,alen:=13,zero:=some [.str [],.str [],.str [],.str [],.str [],.str [],.str [],.str [],.str [],.str [],.str [],.str [],.str []] }
  |179=>{ ok:=true,size:=9,bytes:=144,agg:=true,arr:=true,elem:=9,alen:=9,zero:=some [.str [],.str [],.str [],.str [],.str [],.str [],.str [],.str [],.str []] }
  |181=>{ ok:=true,size:=20,bytes:=160,agg:=true,arr:=true,elem:=169,alen:=20,zero:=some [.int .u64 0,.int .u64 0,.int .u64 0,.int .u64 0,.int .u64 0,.int .u64 0,.int .u64 0,.int .u64 0,.int .u64 0,.int .u64 0,.int .u64 0,.int .u64 0,.int .u64 0,.int .u64 0,.int .u64 0,.int .u64 0,.int .u64 0,.int .u64 0,.int .u64 0,.int .u64 0] }
  |182=>{ ok:=true,size:=1,bytes:=4,int:=true,kind:=.u32,zero:=some [.int .u32 0] }
  |183=>{ ok:=true,size:=65,bytes:=65,agg:=true,arr:=true,elem:=5,alen:=65,zero:=some [.int .u8 0,.int .u8 0,.int .u8 0,.int .u8 0,.int .u8 0,.int .u8 0,.int .u8 0,.int .u8 0,.int .u8 0,.int .u8 0,.int .u8 0,.int .u8 0,.int .u8 0,.int .u8 0,.int .u8 0,.int .u8 0,.int .u8 0,.int .u8 0,.int .u8 0,.int .u8 0,.int .u8 0,.int .u8 0,.int .u8 0,.int .u8 0,.int .u8 0,.int .u8 0,.int .u8 0,.int .u8 0,.int .u8 0,.int .u8 0,.int .u8 0,.int .u8 0,.int .u8 0,.int .u8 0,.int .u8 0,.int .u8 0,.int .u8 0,.int .u8 0,.int .u8 0,.int .u8 0,.int .u8 0,.int .u8 0,.int .u8 0,.int .u8 0,.int .u8 0,.int .u8 0,.int .u8 0,.int .u8 0,.int .u8 0,.int .u8 0,.int .u8 0,.int .u8 0,.int .u8 0,.int .u8 0,.int .u8 0,.int .u8 0,.int .u8 0,.int .u8 0,.int .u8 0,.int .u8 0,.int .u8 0,.int .u8 0,.int .u8 0,.int .u8 0,.int .u8 0] }
  |185=>{ ok:=true,size:=1,bytes:=8,int:=true,kind:=.u64,zero:=some [.int .u64 0] }
  |194=>{ ok:=true,size:=1,bytes:=24,sl:=true,elem:=37,zero:=some [.nils] }
  |195=>{ ok:=true,size:=1,bytes:=24,sl:=true,elem:=152,zero:=some [.nils] }
  |196=>{ ok:=true,size:=15,bytes:=240,agg:=true,arr:=true,elem:=9,alen:=15,zero:=some [.str [],.str [],.str [],.str [],.str [],.str [],.str [],.str [],.str [],.str [],.str [],.str [],.str [],.str [],.str []] }
  |201=>{ ok:=true,size:=3,bytes:=48,agg:=true,fs:=[(0,9),(1,9),(2,128)],fk:=true,zero:=some [.str [],.str [],.nili] }
  |203=>{ ok:=true,size:=32,bytes:=32,agg:=true,arr:=true,elem:=5,alen:=32,zero:=some [.int .u8 0,.int .u8 0,.int .u8 0,.int .u8 0,.int .u8 0,.int .u8 0,.int .u8 0,.int .u8 0,.int .u8 0,.int .u8 0,.int .u8 0,.int .u8 0,.int .u8 0,.int .u8 0,.int .u8 0,.int .u8 0,.int .u8 0,.int .u8 0,.int .u8 0,.int .u8 0,.int .u8 0,.int .u8 0,.int .u8 0,.int .u8 0,.int .u8 0,.int .u8 0,.int .u8 0,.int .u8 0,.int .u8 0,.int .u8 0,.int .u8 0,.int .u8 0] }
  |204=>{ ok:=true,size:=64,bytes:=64,agg:=true,arr:=true,elem:=5,alen:=64,zero:=some [.int .u8 0,.int .u8 0,.int .u8 0,.int .u8 0,.int .u8 0,.int .u8 0,.int .u8 0,.int .u8 0,.int .u8 0,.int .u8 0,.int .u8 0,.int .u8 0,.int .u8 0,.int .u8 0,.int .u8 0,.int .u8 0,.int .u8 0,.int .u8 0,.int .u8 0,.int .u8 0,.int .u8 0,.int .u8 0,.int .u8 0,.int .u8 0,.int .u8 0,.int .u8 0,.int .u8 0,.int .u8 0,.int .u8 0,.int .u8 0,.int .u8 0,.int .u8 0,.int .u8 0,.int .u8 0,.int .u8 0,.int .u8 0,.int .u8 0,.int .u8 0,.int .u8 0,.int .u8 0,.int .u8 0,.int .u8 0,.int .u8 0,.int .u8 0,.int .u8 0,.int .u8 0,.int .u8 0,.int .u8 0,.int .u8 0,.int .u8 0,.int .u8 0,.int .u8 0,.int .u8 0,.int .u8 0,.int .u8 0,.int .u8 0,.int .u8 0,.int .u8 0,.int .u8 0,.int .u8 0,.int .u8 0,.int .u8 0,.int .u8 0,.int .u8 0] }
  |207=>{ ok:=true,size:=1,bytes:=16,agg:=true,fs:=[(0,9)],fk:=true,flat:=some [2],zero:=some [.str []] }
  |_=>{}
theorem HP:cU Tryz.prog 2 (tab 2) :=
  by constructor<;>first|kernel_rfl|exact fun i hi=>by simp [tab] at hi
theorem HQ:cU Tryz.prog 3 (tab 3) :=
  by constructor<;>first|kernel_rfl|exact fun i hi=>by simp [tab] at hi
theorem HS:cU Tryz.prog 4 (tab 4) :=
  by constructor<;>first|kernel_rfl|exact fun i hi=>by simp [tab] at hi
theorem HU:cU Tryz.prog 5 (tab 5) :=
  by constructor<;>first|kernel_rfl|exact fun i hi=>by simp [tab] at hi
theorem HV:cU Tryz.prog 9 (tab 9) :=
  by constructor<;>first|kernel_rfl|exact fun i hi=>by simp [tab] at hi
theorem GR:cU Tryz.prog 21 (tab 21) :=
  by constructor<;>first|kernel_rfl|exact fun i hi=>by simp [tab] at hi
theorem GS:cU Tryz.prog 22 (tab 22) :=
  by constructor<;>first|kernel_rfl|exact fun i hi=>by simp [tab] at hi
theorem GU:cU Tryz.prog 24 (tab 24) :=
  ⟨by kernel_rfl,by kernel_rfl,by kernel_rfl,by kernel_rfl,by kernel_rfl,by kernel_rfl,by kernel_rfl,by kernel_rfl,by kernel_rfl,by kernel_rfl,by kernel_rfl,by kernel_rfl,by kernel_rfl,by kernel_rfl,by kernel_rfl,by kernel_rfl,by kernel_rfl,
    fun i hi=>by
      have hi:i<1:=hi
      match i,hi with
      |0,_=>exact ⟨by kernel_rfl,by kernel_rfl,by kernel_rfl⟩⟩
theorem GV:cU Tryz.prog 28 (tab 28) :=
  ⟨by kernel_rfl,by kernel_rfl,by kernel_rfl,by kernel_rfl,by kernel_rfl,by kernel_rfl,by kernel_rfl,by kernel_rfl,by kernel_rfl,by kernel_rfl,by kernel_rfl,by kernel_rfl,by kernel_rfl,by kernel_rfl,by kernel_rfl,by kernel_rfl,by kernel_rfl,
    fun i hi=>by
      have hi:i<2:=hi
      match i,hi with
      |0,_=>exact ⟨by kernel_rfl,by kernel_rfl,by kernel_rfl⟩
      |1,_=>exact ⟨by kernel_rfl,by kernel_rfl,by kernel_rfl⟩⟩
theorem GW:cU Tryz.prog 37 (tab 37) :=
  by constructor<;>first|kernel_rfl|exact fun i hi=>by simp [tab] at hi
theorem GX:cU Tryz.prog 38 (tab 38) :=
  by constructor<;>first|kernel_rfl|exact fun i hi=>by simp [tab] at hi
theorem GY:cU Tryz.prog 39 (tab 39) :=
  by constructor<;>first|kernel_rfl|exact fun i hi=>by simp [tab] at hi
theorem GZ:cU Tryz.prog 41 (tab 41) :=
  ⟨by kernel_rfl,by kernel_rfl,by kernel_rfl,by kernel_rfl,by kernel_rfl,by kernel_rfl,by kernel_rfl,by kernel_rfl,by kernel_rfl,by kernel_rfl,by kernel_rfl,by kernel_rfl,by kernel_rfl,by kernel_rfl,by kernel_rfl,by kernel_rfl,by kernel_rfl,
    fun i hi=>by
      have hi:i<7:=hi
      match i,hi with
      |0,_=>exact ⟨by kernel_rfl,by kernel_rfl,by kernel_rfl⟩
      |1,_=>exact ⟨by kernel_rfl,by kernel_rfl,by kernel_rfl⟩
      |2,_=>exact ⟨by kernel_rfl,by kernel_rfl,by kernel_rfl⟩
      |3,_=>exact ⟨by kernel_rfl,by kernel_rfl,by kernel_rfl⟩
      |4,_=>exact ⟨by kernel_rfl,by kernel_rfl,by kernel_rfl⟩
      |5,_=>exact ⟨by kernel_rfl,by kernel_rfl,by kernel_rfl⟩
      |6,_=>exact ⟨by kernel_rfl,by kernel_rfl,by kernel_rfl⟩⟩
theorem G5:cU Tryz.prog 44 (tab 44) :=
  by constructor<;>first|kernel_rfl|exact fun i hi=>by simp [tab] at hi
theorem G6:cU Tryz.prog 45 (tab 45) :=
  by constructor<;>first|kernel_rfl|exact fun i hi=>by simp [tab] at hi
theorem G7:cU Tryz.prog 47 (tab 47) :=
  ⟨by kernel_rfl,by kernel_rfl,by kernel_rfl,by kernel_rfl,by kernel_rfl,by kernel_rfl,by kernel_rfl,by kernel_rfl,by kernel_rfl,by kernel_rfl,by kernel_rfl,by kernel_rfl,by kernel_rfl,by kernel_rfl,by kernel_rfl,by kernel_rfl,by kernel_rfl,
    fun i hi=>by
      have hi:i<5:=hi
      match i,hi with
      |0,_=>exact ⟨by kernel_rfl,by kernel_rfl,by kernel_rfl⟩
      |1,_=>exact ⟨by kernel_rfl,by kernel_rfl,by kernel_rfl⟩
      |2,_=>exact ⟨by kernel_rfl,by kernel_rfl,by kernel_rfl⟩
      |3,_=>exact ⟨by kernel_rfl,by kernel_rfl,by kernel_rfl⟩
      |4,_=>exact ⟨by kernel_rfl,by kernel_rfl,by kernel_rfl⟩⟩
theorem G8:cU Tryz.prog 63 (tab 63) :=
  by constructor<;>first|kernel_rfl|exact fun i hi=>by simp [tab] at hi
theorem G9:cU Tryz.prog 65 (tab 65) :=
  by constructor<;>first|kernel_rfl|exact fun i hi=>by simp [tab] at hi
theorem Ha:cU Tryz.prog 67 (tab 67) :=
  ⟨by kernel_rfl,by kernel_rfl,by kernel_rfl,by kernel_rfl,by kernel_rfl,by kernel_rfl,by kernel_rfl,by kernel_rfl,by kernel_rfl,by kernel_rfl,by kernel_rfl,by kernel_rfl,by kernel_rfl,by kernel_rfl,by kernel_rfl,by kernel_rfl,by kernel_rfl,
    fun i hi=>by
      have hi:i<2:=hi
      match i,hi with
      |0,_=>exact ⟨by kernel_rfl,by kernel_rfl,by kernel_rfl⟩
      |1,_=>exact ⟨by kernel_rfl,by kernel_rfl,by kernel_rfl⟩⟩
theorem Hb:cU Tryz.prog 69 (tab 69) :=
  ⟨by kernel_rfl,by kernel_rfl,by kernel_rfl,by kernel_rfl,by kernel_rfl,by kernel_rfl,by kernel_rfl,by kernel_rfl,by kernel_rfl,by kernel_rfl,by kernel_rfl,by kernel_rfl,by kernel_rfl,by kernel_rfl,by kernel_rfl,by kernel_rfl,by kernel_rfl,
    fun i hi=>by
      have hi:i<2:=hi
      match i,hi with
      |0,_=>exact ⟨by kernel_rfl,by kernel_rfl,by kernel_rfl⟩
      |1,_=>exact ⟨by kernel_rfl,by kernel_rfl,by kernel_rfl⟩⟩
theorem Hc:cU Tryz.prog 71 (tab 71) :=
  by constructor<;>first|kernel_rfl|exact fun i hi=>by simp [tab] at hi
theorem Hd:cU Tryz.prog 74 (tab 74) :=
  ⟨by kernel_rfl,by kernel_rfl,by kernel_rfl,by kernel_rfl,by kernel_rfl,by kernel_rfl,by kernel_rfl,by kernel_rfl,by kernel_rfl,by kernel_rfl,by kernel_rfl,by kernel_rfl,by kernel_rfl,by kernel_rfl,by kernel_rfl,by kernel_rfl,by kernel_rfl,
    fun i hi=>by
      have hi:i<2:=hi
      match i,hi with
      |0,_=>exact ⟨by kernel_rfl,by kernel_rfl,by kernel_rfl⟩
      |1,_=>exact ⟨by kernel_rfl,by kernel_rfl,by kernel_rfl⟩⟩
theorem He:cU Tryz.prog 76 (tab 76) :=
  by constructor<;>first|kernel_rfl|exact fun i hi=>by simp [tab] at hi
theorem Hf:cU Tryz.prog 78 (tab 78) :=
  ⟨by kernel_rfl,by kernel_rfl,by kernel_rfl,by kernel_rfl,by kernel_rfl,by kernel_rfl,by kernel_rfl,by kernel_rfl,by kernel_rfl,by kernel_rfl,by kernel_rfl,by kernel_rfl,by kernel_rfl,by kernel_rfl,by kernel_rfl,by kernel_rfl,by kernel_rfl,
    fun i hi=>by
      have hi:i<4:=hi
      match i,hi with
      |0,_=>exact ⟨by kernel_rfl,by kernel_rfl,by kernel_rfl⟩
      |1,_=>exact ⟨by kernel_rfl,by kernel_rfl,by kernel_rfl⟩
      |2,_=>exact ⟨by kernel_rfl,by kernel_rfl,by kernel_rfl⟩
      |3,_=>exact ⟨by kernel_rfl,by kernel_rfl,by kernel_rfl⟩⟩
theorem Hg:cU Tryz.prog 83 (tab 83) :=
  ⟨by kernel_rfl,by kernel_rfl,by kernel_rfl,by kernel_rfl,by kernel_rfl,by kernel_rfl,by kernel_rfl,by kernel_rfl,by kernel_rfl,by kernel_rfl,by kernel_rfl,by kernel_rfl,by kernel_rfl,by kernel_rfl,by kernel_rfl,by kernel_rfl,by kernel_rfl,
    fun i hi=>by
      have hi:i<2:=hi
      match i,hi with
      |0,_=>exact ⟨by kernel_rfl,by kernel_rfl,by kernel_rfl⟩
      |1,_=>exact ⟨by kernel_rfl,by kernel_rfl,by kernel_rfl⟩⟩
theorem Hh:cU Tryz.prog 85 (tab 85) :=
  ⟨by kernel_rfl,by kernel_rfl,by kernel_rfl,by kernel_rfl,by kernel_rfl,by kernel_rfl,by kernel_rfl,by kernel_rfl,by kernel_rfl,by kernel_rfl,by kernel_rfl,by kernel_rfl,by kernel_rfl,by kernel_rfl,by kernel_rfl,by kernel_rfl,by kernel_rfl,
    fun i hi=>by
      have hi:i<6:=hi
      match i,hi with
      |0,_=>exact ⟨by kernel_rfl,by kernel_rfl,by kernel_rfl⟩
      |1,_=>exact ⟨by kernel_rfl,by kernel_rfl,by kernel_rfl⟩
      |2,_=>exact ⟨by kernel_rfl,by kernel_rfl,by kernel_rfl⟩
      |3,_=>exact ⟨by kernel_rfl,by kernel_rfl,by kernel_rfl⟩
      |4,_=>exact ⟨by kernel_rfl,by kernel_rfl,by kernel_rfl⟩
      |5,_=>exact ⟨by kernel_rfl,by kernel_rfl,by kernel_rfl⟩⟩
theorem Hi:cU Tryz.prog 86 (tab 86) :=
  by constructor<;>first|kernel_rfl|exact fun i hi=>by simp [tab] at hi
theorem Hj:cU Tryz.prog 88 (tab 88) :=
  ⟨by kernel_rfl,by kernel_rfl,by kernel_rfl,by kernel_rfl,by kernel_rfl,by kernel_rfl,by kernel_rfl,by kernel_rfl,by kernel_rfl,by kernel_rfl,by kernel_rfl,by kernel_rfl,by kernel_rfl,by kernel_rfl,by kernel_rfl,by kernel_rfl,by kernel_rfl,
    fun i hi=>by
      have hi:i<2:=hi
      match i,hi with
      |0,_=>exact ⟨by kernel_rfl,by kernel_rfl,by kernel_rfl⟩
      |1,_=>exact ⟨by kernel_rfl,by kernel_rfl,by kernel_rfl⟩⟩
theorem Hk:cU Tryz.prog 97 (tab 97) :=
  by constructor<;>first|kernel_rfl|exact fun i hi=>by simp [tab] at hi
theorem FE:cU Tryz.prog 102 (tab 102) :=
  by constructor<;>first|kernel_rfl|exact fun i hi=>by simp [tab] at hi
theorem FF:cU Tryz.prog 104 (tab 104) :=
  by constructor<;>first|kernel_rfl|exact fun i hi=>by simp [tab] at hi
theorem FG:cU Tryz.prog 106 (tab 106) :=
  ⟨by kernel_rfl,by kernel_rfl,by kernel_rfl,by kernel_rfl,by kernel_rfl,by kernel_rfl,by kernel_rfl,by kernel_rfl,by kernel_rfl,by kernel_rfl,by kernel_rfl,by kernel_rfl,by kernel_rfl,by kernel_rfl,by kernel_rfl,by kernel_rfl,by kernel_rfl,
    fun i hi=>by
      have hi:i<3:=hi
      match i,hi with
      |0,_=>exact ⟨by kernel_rfl,by kernel_rfl,by kernel_rfl⟩
      |1,_=>exact ⟨by kernel_rfl,by kernel_rfl,by kernel_rfl⟩
      |2,_=>exact ⟨by kernel_rfl,by kernel_rfl,by kernel_rfl⟩⟩
theorem FH:cU Tryz.prog 109 (tab 109) :=
  ⟨by kernel_rfl,by kernel_rfl,by kernel_rfl,by kernel_rfl,by kernel_rfl,by kernel_rfl,by kernel_rfl,by kernel_rfl,by kernel_rfl,by kernel_rfl,by kernel_rfl,by kernel_rfl,by kernel_rfl,by kernel_rfl,by kernel_rfl,by kernel_rfl,by kernel_rfl,
    fun i hi=>by
      have hi:i<4:=hi
      match i,hi with
      |0,_=>exact ⟨by kernel_rfl,by kernel_rfl,by kernel_rfl⟩
      |1,_=>exact ⟨by kernel_rfl,by kernel_rfl,by kernel_rfl⟩
      |2,_=>exact ⟨by kernel_rfl,by kernel_rfl,by kernel_rfl⟩
      |3,_=>exact ⟨by kernel_rfl,by kernel_rfl,by kernel_rfl⟩⟩
theorem FI:cU Tryz.prog 112 (tab 112) :=
  by constructor<;>first|kernel_rfl|exact fun i hi=>by simp [tab] at hi
theorem FJ:cU Tryz.prog 116 (tab 116) :=
  by constructor<;>first|kernel_rfl|exact fun i hi=>by simp [tab] at hi
theorem FK:cU Tryz.prog 123 (tab 123) :=
  by constructor<;>first|kernel_rfl|exact fun i hi=>by simp [tab] at hi
theorem FL:cU Tryz.prog 124 (tab 124) :=
  by constructor<;>first|kernel_rfl|exact fun i hi=>by simp [tab] at hi
theorem FM:cU Tryz.prog 126 (tab 126) :=
  ⟨by kernel_rfl,by kernel_rfl,by kernel_rfl,by kernel_rfl,by kernel_rfl,by kernel_rfl,by kernel_rfl,by kernel_rfl,by kernel_rfl,by kernel_rfl,by kernel_rfl,by kernel_rfl,by kernel_rfl,by kernel_rfl,by kernel_rfl,by kernel_rfl,by kernel_rfl,
    fun i hi=>by
      have hi:i<2:=hi
      match i,hi with
      |0,_=>exact ⟨by kernel_rfl,by kernel_rfl,by kernel_rfl⟩
      |1,_=>exact ⟨by kernel_rfl,by kernel_rfl,by kernel_rfl⟩⟩
theorem FN:cU Tryz.prog 139 (tab 139) :=
  by constructor<;>first|kernel_rfl|exact fun i hi=>by simp [tab] at hi
theorem FO:cU Tryz.prog 141 (tab 141) :=
  by constructor<;>first|kernel_rfl|exact fun i hi=>by simp [tab] at hi
theorem FP:cU Tryz.prog 148 (tab 148) :=
  by constructor<;>first|kernel_rfl|exact fun i hi=>by simp [tab] at hi
theorem FQ:cU Tryz.prog 151 (tab 151) :=
  by constructor<;>first|kernel_rfl|exact fun i hi=>by simp [tab] at hi
theorem FR:cU Tryz.prog 152 (tab 152) :=
  by constructor<;>first|kernel_rfl|exact fun i hi=>by simp [tab] at hi
theorem FS:cU Tryz.prog 159 (tab 159) :=
  ⟨by kernel_rfl,by kernel_rfl,by kernel_rfl,by kernel_rfl,by kernel_rfl,by kernel_rfl,by kernel_rfl,by kernel_rfl,by kernel_rfl,by kernel_rfl,by kernel_rfl,by kernel_rfl,by kernel_rfl,by kernel_rfl,by kernel_rfl,by kernel_rfl,by kernel_rfl,
    fun i hi=>by
      have hi:i<4:=hi
      match i,hi with
      |0,_=>exact ⟨by kernel_rfl,by kernel_rfl,by kernel_rfl⟩
      |1,_=>exact ⟨by kernel_rfl,by kernel_rfl,by kernel_rfl⟩
      |2,_=>exact ⟨by kernel_rfl,by kernel_rfl,by kernel_rfl⟩
      |3,_=>exact ⟨by kernel_rfl,by kernel_rfl,by kernel_rfl⟩⟩
theorem FT:cU Tryz.prog 163 (tab 163) :=
  by constructor<;>first|kernel_rfl|exact fun i hi=>by simp [tab] at hi
theorem FU:cU Tryz.prog 165 (tab 165) :=
  by constructor<;>first|kernel_rfl|exact fun i hi=>by simp [tab] at hi
theorem FV:cU Tryz.prog 168 (tab 168) :=
  by constructor<;>first|kernel_rfl|exact fun i hi=>by simp [tab] at hi
theorem FW:cU Tryz.prog 169 (tab 169) :=
  by constructor<;>first|kernel_rfl|exact fun i hi=>by simp [tab] at hi
theorem FX:cU Tryz.prog 177 (tab 177) :=
  by constructor<;>first|kernel_rfl|exact fun i hi=>by simp [tab] at hi
theorem FY:cU Tryz.prog 178 (tab 178) :=
  by constructor<;>first|kernel_rfl|exact fun i hi=>by simp [tab] at hi
theorem FZ:cU Tryz.prog 179 (tab 179) :=
  by constructor<;>first|kernel_rfl|exact fun i hi=>by simp [tab] at hi
theorem F0:cU Tryz.prog 181 (tab 181) :=
  by constructor<;>first|kernel_rfl|exact fun i hi=>by simp [tab] at hi
theorem F1:cU Tryz.prog 182 (tab 182) :=
  by constructor<;>first|kernel_rfl|exact fun i hi=>by simp [tab] at hi
theorem F3:cU Tryz.prog 183 (tab 183) :=
  by constructor<;>first|kernel_rfl|exact fun i hi=>by simp [tab] at hi
theorem F4:cU Tryz.prog 185 (tab 185) :=
  by constructor<;>first|kernel_rfl|exact fun i hi=>by simp [tab] at hi
theorem F5:cU Tryz.prog 194 (tab 194) :=
  by constructor<;>first|kernel_rfl|exact fun i hi=>by simp [tab] at hi
theorem F6:cU Tryz.prog 195 (tab 195) :=
  by constructor<;>first|kernel_rfl|exact fun i hi=>by simp [tab] at hi
theorem F7:cU Tryz.prog 196 (tab 196) :=
  by constructor<;>first|kernel_rfl|exact fun i hi=>by simp [tab] at hi
theorem F8:cU Tryz.prog 201 (tab 201) :=
  ⟨by kernel_rfl,by kernel_rfl,by kernel_rfl,by kernel_rfl,by kernel_rfl,by kernel_rfl,by kernel_rfl,by kernel_rfl,by kernel_rfl,by kernel_rfl,by kernel_rfl,by kernel_rfl,by kernel_rfl,by kernel_rfl,by kernel_rfl,by kernel_rfl,by kernel_rfl,
    fun i hi=>by
      have hi:i<3:=hi
      match i,hi with
      |0,_=>exact ⟨by kernel_rfl,by kernel_rfl,by kernel_rfl⟩
      |1,_=>exact ⟨by kernel_rfl,by kernel_rfl,by kernel_rfl⟩
      |2,_=>exact ⟨by kernel_rfl,by kernel_rfl,by kernel_rfl⟩⟩
theorem F9:cU Tryz.prog 203 (tab 203) :=
  by constructor<;>first|kernel_rfl|exact fun i hi=>by simp [tab] at hi
theorem Ga:cU Tryz.prog 204 (tab 204) :=
  by constructor<;>first|kernel_rfl|exact fun i hi=>by simp [tab] at hi
theorem Gc:cU Tryz.prog 207 (tab 207) :=
  ⟨by kernel_rfl,by kernel_rfl,by kernel_rfl,by kernel_rfl,by kernel_rfl,by kernel_rfl,by kernel_rfl,by kernel_rfl,by kernel_rfl,by kernel_rfl,by kernel_rfl,by kernel_rfl,by kernel_rfl,by kernel_rfl,by kernel_rfl,by kernel_rfl,by kernel_rfl,
    fun i hi=>by
      have hi:i<1:=hi
      match i,hi with
      |0,_=>exact ⟨by kernel_rfl,by kernel_rfl,by kernel_rfl⟩⟩
theorem kO(T:TypeId)(h:(tab T).ok=true):cU Tryz.prog T (tab T):=by
  unfold tab at h
  split at h
  · exact HP
  · exact HQ
  · exact HS
  · exact HU
  · exact HV
  · exact GR
  · exact GS
  · exact GU
  · exact GV
  · exact GW
  · exact GX
  · exact GY
  · exact GZ
  · exact G5
  · exact G6
  · exact G7
  · exact G8
  · exact G9
  · exact Ha
  · exact Hb
  · exact Hc
  · exact Hd
  · exact He
  · exact Hf
  · exact Hg
  · exact Hh
  · exact Hi
  · exact Hj
  · exact Hk
  · exact FE
  · exact FF
  · exact FG
  · exact FH
  · exact FI
  · exact FJ
  · exact FK
  · exact FL
  · exact FM
  · exact FN
  · exact FO
  · exact FP
  · exact FQ
  · exact FR
  · exact FS
  · exact FT
  · exact FU
  · exact FV
  · exact FW
  · exact FX
  · exact FY
  · exact FZ
  · exact F0
  · exact F1
  · exact F3
  · exact F4
  · exact F5
  · exact F6
  · exact F7
  · exact F8
  · exact F9
  · exact Ga
  · exact Gc
  · cases h
theorem EM{T:TypeId}(h:(tab T).ok=true):cx Tryz.prog T=true:=(kO T h).known
theorem Hl{T:TypeId}(h:(tab T).ok=true):(Tryz.prog.underlying T).isSome=true:=(kO T h).und
theorem Gd{T:TypeId}(h:(tab T).ok=true):Tryz.prog.cellsOf T=(tab T).size:=(kO T h).size
theorem EN{T:TypeId}(h:(tab T).ok=true):Tryz.prog.bytesOf T=(tab T).bytes:=(kO T h).bytes
theorem Hm{T:TypeId}(h:(tab T).ok=true):n7 Tryz.prog T=(tab T).agg:=(kO T h).agg
theorem HX{T:TypeId}(h:(tab T).ok=true):lJ Tryz.prog T=(tab T).sl:=(kO T h).sl
theorem Hn{T:TypeId}(h:(tab T).ok=true):pt Tryz.prog T=(tab T).arr:=(kO T h).arr
theorem Ho{T:TypeId}(h:(tab T).ok=true):pV Tryz.prog T=(tab T).str:=(kO T h).str
theorem Ge{T:TypeId}(h:(tab T).ok=true):xg Tryz.prog T=(tab T).bool:=(kO T h).bool
theorem Hp{T:TypeId}(h:(tab T).ok=true):xh Tryz.prog T=(tab T).int:=(kO T h).int
theorem Hq{T:TypeId}(h:(tab T).ok=true):BY Tryz.prog T=(tab T).ptr:=(kO T h).ptr
theorem Gf{T:TypeId}(h:(tab T).ok=true):Tryz.prog.elem T=(tab T).elem:=(kO T h).elem
theorem Gg{T:TypeId}(h:(tab T).ok=true):Tryz.prog.arrayLen T=(tab T).alen:=(kO T h).alen
theorem Gi{T:TypeId}(h:(tab T).ok=true):Tryz.prog.intKind T=(tab T).kind:=(kO T h).kind
theorem HY{T:TypeId}(h:(tab T).ok=true):pw Tryz.prog T=(tab T).fk:=(kO T h).fk
theorem Gj{T:TypeId}(h:(tab T).ok=true):mG Tryz.prog T=(tab T).zero:=(kO T h).zero
theorem Gk{T:TypeId}(h:(tab T).ok=true):Aq Tryz.prog T=(tab T).flat:=(kO T h).flat
theorem Hr{T:TypeId}{i:Nat}(h:(tab T).ok=true)(hi:i<(tab T).fs.length):qQ Tryz.prog T i=true:=((kO T h).fld i hi).1
theorem Gl{T:TypeId}{i:Nat}(h:(tab T).ok=true)(hi:i<(tab T).fs.length):nn Tryz.prog T i=((tab T).fs.getD i (0,0)).1:=((kO T h).fld i hi).2.1
theorem Hs{T:TypeId}{i:Nat}(h:(tab T).ok=true)(hi:i<(tab T).fs.length):tl Tryz.prog T i=((tab T).fs.getD i (0,0)).2:=((kO T h).fld i hi).2.2
def bT:=And.intro (And.intro (And.intro (And.intro @EM @Hl) (And.intro @Gd @EN)) (And.intro (And.intro @Hm @HX) (And.intro @Hn @Ho))) (And.intro (And.intro (And.intro @Ge @Hp) (And.intro @Hq @Gf)) (And.intro (And.intro (And.intro @Gg @Gi) (And.intro @HY @Gj)) (And.intro (And.intro @Gk @Hr) (And.intro @Gl @Hs))))
end Pam
namespace Go.Proofs
open Go.Shelf
def Tryz.lays174_ren:Go.Shelf.Ren:=⟨fun|174=>106|247=>122|245=>123|287=>135|279=>136|280=>137|281=>138|282=>139|321=>146|322=>147|316=>148|171=>150|205=>149|243=>154|246=>105|283=>118|284=>119|285=>120|286=>121|129=>131|317=>130|318=>132|319=>133|320=>134|337=>144|338=>145|n=>n,fun|9=>9|3=>3|2=>2|75=>128|85=>153|4=>4|167=>187|5=>5|53=>169|175=>188|46=>185|168=>190|37=>124|0=>0|210=>201|21=>21|127=>151|145=>207|143=>205|171=>168|173=>172|212=>181|51=>182|20=>20|213=>183|232=>203|233=>204|80=>112|n=>n,fun|15=>2|16=>3|17=>1|18=>4|19=>5|n=>n⟩
theorem Tryz.lays174:Go.Proofs.LaysC.n174 Tryz.prog Tryz.lays174_ren:={
  mixed:=by kernel_rfl
  f129:=Tryz.func131.trans (congrArg some (by kernel_rfl))
  f171:=Tryz.func150.trans (congrArg some (by kernel_rfl))
  f174:=Tryz.func106.trans (congrArg some (by kernel_rfl))
  f205:=Tryz.func149.trans (congrArg some (by kernel_rfl))
  f243:=Tryz.func154.trans (congrArg some (by kernel_rfl))
  f245:=Tryz.func123.trans (congrArg some (by kernel_rfl))
  f246:=Tryz.func105.trans (congrArg some (by kernel_rfl))
  f247:=Tryz.func122.trans (congrArg some (by kernel_rfl))
  f279:=Tryz.func136.trans (congrArg some (by kernel_rfl))
  f280:=Tryz.func137.trans (congrArg some (by kernel_rfl))
  f281:=Tryz.func138.trans (congrArg some (by kernel_rfl))
  f282:=Tryz.func139.trans (congrArg some (by kernel_rfl))
  f283:=Tryz.func118.trans (congrArg some (by kernel_rfl))
  f284:=Tryz.func119.trans (congrArg some (by kernel_rfl))
  f285:=Tryz.func120.trans (congrArg some (by kernel_rfl))
  f286:=Tryz.func121.trans (congrArg some (by kernel_rfl))
  f287:=Tryz.func135.trans (congrArg some (by kernel_rfl))
  f316:=Tryz.func148.trans (congrArg some (by kernel_rfl))
  f317:=Tryz.func130.trans (congrArg some (by kernel_rfl))
  f318:=Tryz.func132.trans (congrArg some (by kernel_rfl))
  f319:=Tryz.func133.trans (congrArg some (by kernel_rfl))
  f320:=Tryz.func134.trans (congrArg some (by kernel_rfl))
  f321:=Tryz.func146.trans (congrArg some (by kernel_rfl))
  f322:=Tryz.func147.trans (congrArg some (by kernel_rfl))
  f337:=Tryz.func144.trans (congrArg some (by kernel_rfl))
  f338:=Tryz.func145.trans (congrArg some (by kernel_rfl))
  t0:=Tryz.underlying0
  a0:=Tryz.isAgg0
  z0:=Tryz.sizeOf0
  v0:=Tryz.zeroValue0
  t2:=Tryz.underlying2
  a2:=Tryz.isAgg2
  z2:=Tryz.sizeOf2
  v2:=Tryz.zeroValue2
  t3:=Tryz.underlying3
  a3:=Tryz.isAgg3
  z3:=Tryz.sizeOf3
  v3:=Tryz.zeroValue3
  t4:=Tryz.underlying4
  a4:=Tryz.isAgg4
  z4:=Tryz.sizeOf4
  v4:=Tryz.zeroValue4
  t5:=Tryz.underlying5
  a5:=Tryz.isAgg5
  z5:=Tryz.sizeOf5
  v5:=Tryz.zeroValue5
  t9:=Tryz.underlying9
  a9:=Tryz.isAgg9
  z9:=Tryz.sizeOf9
  v9:=Tryz.zeroValue9
  t20:=Tryz.underlying20
  a20:=Tryz.isAgg20
  z20:=Tryz.sizeOf20
  v20:=Tryz.zeroValue20
  t21:=Tryz.underlying21
  a21:=Tryz.isAgg21
  z21:=Tryz.sizeOf21
  v21:=Tryz.zeroValue21
  t37:=Tryz.underlying124
  a37:=Tryz.isAgg124
  z37:=Tryz.sizeOf124
  v37:=Tryz.zeroValue124
  t46:=Tryz.underlying185
  a46:=Tryz.isAgg185
  z46:=Tryz.sizeOf185
  v46:=Tryz.zeroValue185
  t51:=Tryz.underlying182
  a51:=Tryz.isAgg182
  z51:=Tryz.sizeOf182
  v51:=Tryz.zeroValue182
  t53:=Tryz.underlying169
  a53:=Tryz.isAgg169
  z53:=Tryz.sizeOf169
  v53:=Tryz.zeroValue169
  t75:=Tryz.underlying128
  a75:=Tryz.isAgg128
  z75:=Tryz.sizeOf128
  v75:=Tryz.zeroValue128
  t85:=Tryz.underlying153
  a85:=Tryz.isAgg153
  z85:=Tryz.sizeOf153
  v85:=Tryz.zeroValue153
  t127:=Tryz.underlying151
  a127:=Tryz.isAgg151
  z127:=Tryz.sizeOf151
  v127:=Tryz.zeroValue151
  t143:=Tryz.underlying205
  a143:=Tryz.isAgg205
  z143:=Tryz.sizeOf205
  v143:=Tryz.zeroValue205
  t145:=Tryz.underlying207
  a145:=Tryz.isAgg207
  z145:=Tryz.sizeOf207
  v145:=Tryz.zeroValue207
  t167:=Tryz.underlying187
  a167:=Tryz.isAgg187
  z167:=Tryz.sizeOf187
  v167:=Tryz.zeroValue187
  t168:=Tryz.underlying190
  a168:=Tryz.isAgg190
  z168:=Tryz.sizeOf190
  v168:=Tryz.zeroValue190
  t171:=Tryz.underlying168
  a171:=Tryz.isAgg168
  z171:=Tryz.sizeOf168
  v171:=Tryz.zeroValue168
  t173:=Tryz.underlying172
  a173:=Tryz.isAgg172
  z173:=Tryz.sizeOf172
  v173:=Tryz.zeroValue172
  t175:=Tryz.underlying188
  a175:=Tryz.isAgg188
  z175:=Tryz.sizeOf188
  v175:=Tryz.zeroValue188
  t210:=Tryz.underlying201
  a210:=Tryz.isAgg201
  z210:=Tryz.sizeOf201
  v210:=Tryz.zeroValue201
  t212:=Tryz.underlying181
  a212:=Tryz.isAgg181
  z212:=Tryz.sizeOf181
  v212:=Tryz.zeroValue181
  t213:=Tryz.underlying183
  a213:=Tryz.isAgg183
  z213:=Tryz.sizeOf183
  t232:=Tryz.underlying203
  a232:=Tryz.isAgg203
  z232:=Tryz.sizeOf203
  v232:=Tryz.zeroValue203
  t233:=Tryz.underlying204
  a233:=Tryz.isAgg204
  z233:=Tryz.sizeOf204
  v233:=Tryz.zeroValue204
  g15:=by kernel_rfl
  g16:=by kernel_rfl
  g17:=by kernel_rfl
  g18:=by kernel_rfl
  g19:=by kernel_rfl
  t80:=Tryz.underlying112
  a80:=Tryz.isAgg112
  z80:=Tryz.sizeOf112
  v80:=Tryz.zeroValue112
  i0:=by kernel_rfl
  i2:=by kernel_rfl
  i3:=by kernel_rfl
  i4:=by kernel_rfl
  i5:=by kernel_rfl
  i9:=by kernel_rfl
  i20:=by kernel_rfl
  i21:=by kernel_rfl
  i37:=by kernel_rfl
  i46:=by kernel_rfl
  i51:=by kernel_rfl
  i53:=by kernel_rfl
  i75:=by kernel_rfl
  i80:=by kernel_rfl
  i85:=by kernel_rfl
  i127:=by kernel_rfl
  i143:=by kernel_rfl
  i145:=by kernel_rfl
  i167:=by kernel_rfl
  i168:=by kernel_rfl
  i171:=by kernel_rfl
  i173:=by kernel_rfl
  i175:=by kernel_rfl
  i210:=by kernel_rfl
  i212:=by kernel_rfl
  i232:=by kernel_rfl
  i233:=by kernel_rfl
  m15:=by kernel_rfl
  m16:=by kernel_rfl
  m17:=by kernel_rfl
  m18:=by kernel_rfl
  m19:=by kernel_rfl
  c0:=by kernel_rfl
  c2:=by kernel_rfl
  c3:=by kernel_rfl
  c4:=by kernel_rfl
  c5:=by kernel_rfl
  c9:=by kernel_rfl
  c20:=by kernel_rfl
  c21:=by kernel_rfl
  c37:=by kernel_rfl
  c46:=by kernel_rfl
  c51:=by kernel_rfl
  c53:=by kernel_rfl
  c75:=by kernel_rfl
  c80:=by kernel_rfl
  c85:=by kernel_rfl
  c127:=by kernel_rfl
  c143:=by kernel_rfl
  c145:=by kernel_rfl
  c167:=by kernel_rfl
  c168:=by kernel_rfl
  c171:=by kernel_rfl
  c173:=by kernel_rfl
  c175:=by kernel_rfl
  c210:=by kernel_rfl
  c212:=by kernel_rfl
  c213:=by kernel_rfl
  c232:=by kernel_rfl
  c233:=by kernel_rfl }
end Go.Proofs
namespace Pam
open Go Go.Proofs
theorem BG:LaysC.n174 Tryz.prog Tryz.lays174_ren:=Tryz.lays174
end Pam
