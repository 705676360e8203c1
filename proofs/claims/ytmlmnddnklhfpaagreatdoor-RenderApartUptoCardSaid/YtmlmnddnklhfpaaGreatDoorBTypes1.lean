/- the numbers of strconv.FormatInt and strings.Join in this program: printed by the kit's own command, in plain words -/
import Derived.Shelf.LaysM
import Derived.Test.YtmlmnddnklhfpaaGreatDoorProg
import Derived.Test.YtmlmnddnklhfpaaGreatDoorBBase3
import Derived.Test.YtmlmnddnklhfpaaGreatDoorBBase1
import Derived.Shelf.LaysC
set_option linter.all false
namespace Go.Proofs
open Go.Shelf
def Tryz.lays173_ren:Go.Shelf.Ren:=⟨fun|173=>98|246=>115|283=>126|284=>127|285=>128|286=>129|129=>136|317=>135|318=>137|319=>138|320=>139|337=>140|338=>141|n=>n,fun|2=>2|3=>3|9=>9|4=>4|171=>183|0=>0|53=>164|37=>117|5=>5|173=>186|212=>195|51=>196|20=>20|213=>197|46=>167|232=>201|233=>202|n=>n,fun|17=>3|18=>4|19=>5|n=>n⟩
theorem Tryz.lays173:Go.Proofs.LaysM.n173 Tryz.prog Tryz.lays173_ren:={
  mixed:=by kernel_rfl
  f129:=Tryz.func136.trans (congrArg some (by kernel_rfl))
  f173:=Tryz.func98.trans (congrArg some (by kernel_rfl))
  f246:=Tryz.func115.trans (congrArg some (by kernel_rfl))
  f283:=Tryz.func126.trans (congrArg some (by kernel_rfl))
  f284:=Tryz.func127.trans (congrArg some (by kernel_rfl))
  f285:=Tryz.func128.trans (congrArg some (by kernel_rfl))
  f286:=Tryz.func129.trans (congrArg some (by kernel_rfl))
  f317:=Tryz.func135.trans (congrArg some (by kernel_rfl))
  f318:=Tryz.func137.trans (congrArg some (by kernel_rfl))
  f319:=Tryz.func138.trans (congrArg some (by kernel_rfl))
  f320:=Tryz.func139.trans (congrArg some (by kernel_rfl))
  f337:=Tryz.func140.trans (congrArg some (by kernel_rfl))
  f338:=Tryz.func141.trans (congrArg some (by kernel_rfl))
  t0:=Tryz.underlying0
  a0:=Tryz.isAgg0
  z0:=Tryz.sizeOf0
  v0:=Tryz.zeroValue0
  t2:=Tryz.underlying2
  a2:=Tryz.isAgg2
  z2:=Tryz.sizeOf2
  v2:=Tryz.zeroValue2
  t3:=Tryz.underlying3
  a3:=Tryz.isAgg3
  z3:=Tryz.sizeOf3
  v3:=Tryz.zeroValue3
  t4:=Tryz.underlying4
  a4:=Tryz.isAgg4
  z4:=Tryz.sizeOf4
  v4:=Tryz.zeroValue4
  t5:=Tryz.underlying5
  a5:=Tryz.isAgg5
  z5:=Tryz.sizeOf5
  v5:=Tryz.zeroValue5
  t9:=Tryz.underlying9
  a9:=Tryz.isAgg9
  z9:=Tryz.sizeOf9
  v9:=Tryz.zeroValue9
  t20:=Tryz.underlying20
  a20:=Tryz.isAgg20
  z20:=Tryz.sizeOf20
  v20:=Tryz.zeroValue20
  t37:=Tryz.underlying117
  a37:=Tryz.isAgg117
  z37:=Tryz.sizeOf117
  v37:=Tryz.zeroValue117
  t46:=Tryz.underlying167
  a46:=Tryz.isAgg167
  z46:=Tryz.sizeOf167
  v46:=Tryz.zeroValue167
  t51:=Tryz.underlying196
  a51:=Tryz.isAgg196
  z51:=Tryz.sizeOf196
  v51:=Tryz.zeroValue196
  t53:=Tryz.underlying164
  a53:=Tryz.isAgg164
  z53:=Tryz.sizeOf164
  v53:=Tryz.zeroValue164
  t171:=Tryz.underlying183
  a171:=Tryz.isAgg183
  z171:=Tryz.sizeOf183
  v171:=Tryz.zeroValue183
  t173:=Tryz.underlying186
  a173:=Tryz.isAgg186
  z173:=Tryz.sizeOf186
  v173:=Tryz.zeroValue186
  t212:=Tryz.underlying195
  a212:=Tryz.isAgg195
  z212:=Tryz.sizeOf195
  v212:=Tryz.zeroValue195
  t213:=Tryz.underlying197
  a213:=Tryz.isAgg197
  z213:=Tryz.sizeOf197
  t232:=Tryz.underlying201
  a232:=Tryz.isAgg201
  z232:=Tryz.sizeOf201
  v232:=Tryz.zeroValue201
  t233:=Tryz.underlying202
  a233:=Tryz.isAgg202
  z233:=Tryz.sizeOf202
  v233:=Tryz.zeroValue202
  g17:=by kernel_rfl
  g18:=by kernel_rfl
  g19:=by kernel_rfl
  i0:=by kernel_rfl
  i2:=by kernel_rfl
  i3:=by kernel_rfl
  i4:=by kernel_rfl
  i5:=by kernel_rfl
  i9:=by kernel_rfl
  i20:=by kernel_rfl
  i37:=by kernel_rfl
  i46:=by kernel_rfl
  i51:=by kernel_rfl
  i53:=by kernel_rfl
  i171:=by kernel_rfl
  i173:=by kernel_rfl
  i212:=by kernel_rfl
  i232:=by kernel_rfl
  i233:=by kernel_rfl
  m17:=by kernel_rfl
  m18:=by kernel_rfl
  m19:=by kernel_rfl }
def Tryz.lays156_ren:Go.Shelf.Ren:=⟨fun|156=>38|165=>63|166=>64|169=>65|240=>83|241=>84|276=>103|277=>104|n=>n,fun|31=>46|9=>9|3=>3|4=>4|0=>0|20=>20|72=>119|76=>122|70=>116|37=>117|75=>121|127=>142|164=>156|5=>5|80=>71|n=>n,fun|n=>n⟩
theorem Tryz.lays156:Go.Proofs.Lays.n156 Tryz.prog Tryz.lays156_ren:={
  mixed:=by kernel_rfl
  f156:=Tryz.func38.trans (congrArg some (by kernel_rfl))
  f165:=Tryz.func63.trans (congrArg some (by kernel_rfl))
  f166:=Tryz.func64.trans (congrArg some (by kernel_rfl))
  f169:=Tryz.func65.trans (congrArg some (by kernel_rfl))
  f240:=Tryz.func83.trans (congrArg some (by kernel_rfl))
  f241:=Tryz.func84.trans (congrArg some (by kernel_rfl))
  f276:=Tryz.func103.trans (congrArg some (by kernel_rfl))
  f277:=Tryz.func104.trans (congrArg some (by kernel_rfl))
  t0:=Tryz.underlying0
  a0:=Tryz.isAgg0
  z0:=Tryz.sizeOf0
  v0:=Tryz.zeroValue0
  t3:=Tryz.underlying3
  a3:=Tryz.isAgg3
  z3:=Tryz.sizeOf3
  v3:=Tryz.zeroValue3
  t4:=Tryz.underlying4
  a4:=Tryz.isAgg4
  z4:=Tryz.sizeOf4
  v4:=Tryz.zeroValue4
  t9:=Tryz.underlying9
  a9:=Tryz.isAgg9
  z9:=Tryz.sizeOf9
  v9:=Tryz.zeroValue9
  t20:=Tryz.underlying20
  a20:=Tryz.isAgg20
  z20:=Tryz.sizeOf20
  v20:=Tryz.zeroValue20
  t31:=Tryz.underlying46
  a31:=Tryz.isAgg46
  z31:=Tryz.sizeOf46
  v31:=Tryz.zeroValue46
  t37:=Tryz.underlying117
  a37:=Tryz.isAgg117
  z37:=Tryz.sizeOf117
  v37:=Tryz.zeroValue117
  t70:=Tryz.underlying116
  a70:=Tryz.isAgg116
  z70:=Tryz.sizeOf116
  v70:=Tryz.zeroValue116
  t72:=Tryz.underlying119
  a72:=Tryz.isAgg119
  z72:=Tryz.sizeOf119
  v72:=Tryz.zeroValue119
  t75:=Tryz.underlying121
  a75:=Tryz.isAgg121
  z75:=Tryz.sizeOf121
  v75:=Tryz.zeroValue121
  t76:=Tryz.underlying122
  a76:=Tryz.isAgg122
  z76:=Tryz.sizeOf122
  v76:=Tryz.zeroValue122
  t127:=Tryz.underlying142
  a127:=Tryz.isAgg142
  z127:=Tryz.sizeOf142
  v127:=Tryz.zeroValue142
  t164:=Tryz.underlying156
  a164:=Tryz.isAgg156
  z164:=Tryz.sizeOf156
  v164:=Tryz.zeroValue156 }
theorem Tryz.extra156:Builder.Extra Tryz.prog Tryz.lays156_ren where
  sizeBuilder:=by kernel_rfl
  liesBuilder:=by kernel_rfl
  t5:=Tryz.lays173.t5
  a5:=Tryz.lays173.a5
  z5:=Tryz.lays173.z5
  v5:=Tryz.lays173.v5
  infoByte:=by kernel_rfl
  cellsByte:=by kernel_rfl
  sizeByte:=by kernel_rfl
  neB5:=by decide
end Go.Proofs
namespace Pam
open Go Go.Proofs
theorem Ag:LaysM.n173 Tryz.prog Tryz.lays173_ren:=Tryz.lays173
theorem qn:Lays.n156 Tryz.prog Tryz.lays156_ren:=Tryz.lays156
theorem oY:Builder.Extra Tryz.prog Tryz.lays156_ren:=Tryz.extra156
theorem pJ:Tryz.prog.globalNamed "internal/strconv.uint64pow10"=some Be:=by kernel_rfl
end Pam
namespace Pam
open Go Go.Proofs
def tab:Nat→TD
  |2=>{ ok:=true,size:=1,bytes:=8,int:=true,kind:=.i64,zero:=some [.int .i64 0] }
  |3=>{ ok:=true,size:=1,bytes:=8,int:=true,kind:=.i64,zero:=some [.int .i64 0] }
  |4=>{ ok:=true,size:=1,bytes:=1,bool:=true,zero:=some [.bool false] }
  |5=>{ ok:=true,size:=1,bytes:=1,int:=true,kind:=.u8,zero:=some [.int .u8 0] }
  |9=>{ ok:=true,size:=1,bytes:=16,str:=true,zero:=some [.str []] }
  |21=>{ ok:=true,size:=1,bytes:=4,int:=true,kind:=.i32,zero:=some [.int .i32 0] }
  |23=>{ ok:=true,size:=1,bytes:=24,sl:=true,elem:=50,zero:=some [.nils] }
  |25=>{ ok:=true,size:=1,bytes:=24,agg:=true,fs:=[(0,23)],fk:=true,zero:=some [.nils] }
  |27=>{ ok:=true,size:=2,bytes:=16,agg:=true,fs:=[(0,3),(1,3)],fk:=true,flat:=some [1,1],zero:=some [.int .i64 0,.int .i64 0] }
  |36=>{ ok:=true,size:=1,bytes:=24,sl:=true,elem:=68,zero:=some [.nils] }
  |39=>{ ok:=true,size:=2,bytes:=16,agg:=true,fs:=[(0,3),(1,3)],fk:=true,flat:=some [1,1],zero:=some [.int .i64 0,.int .i64 0] }
  |41=>{ ok:=true,size:=1,bytes:=8,ptr:=true,zero:=some [.nilp] }
  |43=>{ ok:=true,size:=4,bytes:=48,agg:=true,fs:=[(0,36),(1,3),(2,3),(3,3)],fk:=true,zero:=some [.nils,.int .i64 0,.int .i64 0,.int .i64 0] }
  |46=>{ ok:=true,size:=1,bytes:=24,sl:=true,elem:=9,zero:=some [.nils] }
  |47=>{ ok:=true,size:=1,bytes:=24,sl:=true,elem:=80,zero:=some [.nils] }
  |48=>{ ok:=true,size:=1,bytes:=24,sl:=true,elem:=58,zero:=some [.nils] }
  |50=>{ ok:=true,size:=7,bytes:=144,agg:=true,fs:=[(0,9),(1,3),(2,46),(3,47),(4,47),(5,47),(6,48)],fk:=true,zero:=some [.str [],.int .i64 0,.nils,.nils,.nils,.nils,.nils] }
  |55=>{ ok:=true,size:=1,bytes:=24,sl:=true,elem:=76,zero:=some [.nils] }
  |56=>{ ok:=true,size:=1,bytes:=24,sl:=true,elem:=91,zero:=some [.nils] }
  |58=>{ ok:=true,size:=5,bytes:=96,agg:=true,fs:=[(0,3),(1,46),(2,9),(3,55),(4,56)],fk:=true,zero:=some [.int .i64 0,.nils,.str [],.nils,.nils] }
  |62=>{ ok:=true,size:=1,bytes:=8,zero:=some [.nilf] }
  |63=>{ ok:=true,size:=1,bytes:=8,ptr:=true,zero:=some [.nilp] }
  |65=>{ ok:=true,size:=3,bytes:=48,agg:=true,fs:=[(0,9),(1,3),(2,36)],fk:=true,zero:=some [.str [],.int .i64 0,.nils] }
  |68=>{ ok:=true,size:=4,bytes:=40,agg:=true,fs:=[(0,3),(1,3),(2,9),(3,2)],fk:=true,flat:=some [1,1,2,1],zero:=some [.int .i64 0,.int .i64 0,.str [],.int .i64 0] }
  |71=>{ ok:=true,size:=1,bytes:=8,zero:=some [.nilf] }
  |76=>{ ok:=true,size:=1,bytes:=24,sl:=true,elem:=89,zero:=some [.nils] }
  |78=>{ ok:=true,size:=2,bytes:=32,agg:=true,fs:=[(0,5),(1,76)],fk:=true,zero:=some [.int .u8 0,.nils] }
  |80=>{ ok:=true,size:=3,bytes:=48,agg:=true,fs:=[(0,9),(1,78)],fk:=true,zero:=some [.str [],.int .u8 0,.nils] }
  |81=>{ ok:=true,size:=1,bytes:=8,zero:=some [.nilf] }
  |89=>{ ok:=true,size:=2,bytes:=24,agg:=true,fs:=[(0,2),(1,9)],fk:=true,flat:=some [1,2],zero:=some [.int .i64 0,.str []] }
  |91=>{ ok:=true,size:=6,bytes:=88,agg:=true,fs:=[(0,3),(1,3),(2,2),(3,9),(4,55),(5,56)],fk:=true,zero:=some [.int .i64 0,.int .i64 0,.int .i64 0,.str [],.nils,.nils] }
  |92=>{ ok:=true,size:=1,bytes:=8,ptr:=true,zero:=some [.nilp] }
  |94=>{ ok:=true,size:=3,bytes:=24,agg:=true,fs:=[(0,27),(2,3)],fk:=true,zero:=some [.int .i64 0,.int .i64 0,.int .i64 0] }
  |99=>{ ok:=true,size:=1,bytes:=8,zero:=some [.nilf] }
  |101=>{ ok:=true,size:=1,bytes:=8,zero:=some [.nilf] }
  |108=>{ ok:=true,size:=1,bytes:=8,zero:=some [.nilf] }
  |110=>{ ok:=true,size:=1,bytes:=8,zero:=some [.nilf] }
  |114=>{ ok:=true,size:=1,bytes:=8,zero:=some [.nilf] }
  |116=>{ ok:=true,size:=1,bytes:=8,ptr:=true,zero:=some [.nilp] }
  |117=>{ ok:=true,size:=1,bytes:=24,sl:=true,elem:=5,zero:=some [.nils] }
  |119=>{ ok:=true,size:=2,bytes:=32,agg:=true,fs:=[(0,116),(1,117)],fk:=true,zero:=some [.nilp,.nils] }
  |129=>{ ok:=true,size:=1,bytes:=8,zero:=some [.nilf] }
  |131=>{ ok:=true,size:=1,bytes:=8,zero:=some [.nilf] }
  |138=>{ ok:=true,size:=1,bytes:=8,zero:=some [.nilf] }
  |140=>{ ok:=true,size:=1,bytes:=8,zero:=some [.nilf] }
  |142=>{ ok:=true,size:=1,bytes:=8,ptr:=true,zero:=some [.nilp] }
  |153=>{ ok:=true,size:=2,bytes:=32,agg:=true,arr:=true,elem:=9,alen:=2,zero:=some [.str [],.str []] }
  |156=>{ ok:=true,size:=1,bytes:=8,zero:=some [.nilp] }
  |160=>{ ok:=true,size:=4,bytes:=32,agg:=true,fs:=[(0,3),(1,3),(2,3),(3,3)],fk:=true,flat:=some [1,1,1,1],zero:=some [.int .i64 0,.int .i64 0,.int .i64 0,.int .i64 0] }
  |164=>{ ok:=true,size:=1,bytes:=8,int:=true,kind:=.u64,zero:=some [.int .u64 0] }
  |167=>{ ok:=true,size:=1,bytes:=8,int:=true,kind:=.u64,zero:=some [.int .u64 0] }
  |172=>{ ok:=true,size:=1,bytes:=24,sl:=true,elem:=46,zero:=some [.nils] }
  |173=>{ ok:=true,size:=1,bytes:=24,sl:=true,elem:=3,zero:=some [.nils] }
  |174=>{ ok:=true,size:=1,bytes:=24,sl:=true,elem:=173,zero:=some [.nils] }
  |175=>{ ok:=true,size:=13,bytes:=104,agg:=true,arr:=true,elem:=3,alen:=13,zero:=some [.int .i64 0,.int .i64 0,.int .i64 0,.int .i64 0,.int .i64 0,.int .i64 0,.int .i64 0,.int .i64 0,.int .i64 0,.int .i64 0,.int .i64 0,.int .i64 0,.int .i64 0] }
  |176=>{ ok:=true,size:=13,bytes:=208,agg:=true,arr:=true,elem:=9,alen:=13,zero:=some [.str [],.str [],.str [],.str [],.str [],.str [],.str [],.str [],.str [],.str [],.str [],.str [],.str []] }
  |177=>{ ok:=true,size:=9,bytes:=144,agg:=true,arr:=true,elem:=9,alen:=9,zero:=some [.str [],.str [],.str [],.str [],.str [],.str [],.str [],.str [],.str []] }
  |181=>{ ok:=true,size:=3,bytes:=48,agg:=true,fs:=[(0,9),(1,9),(2,121)],fk:=true,zero:=some [.str [],.str [],.nili] }
  |183=>{ ok:=true,size:=24,bytes:=24,agg:=true,arr:=true,elem:=5,alen:=24,zero:=some [.int .u8 0,.int .u8 0,.int .u8 0,.int .u8 0,.int .u8 0,.int .u8 0,.int .u8 0,.int .u8 0,.int .u8 0,.int .u8 0,.int .u8 0,.int .u8 0,.int .u8 0,.int .u8 0,.int .u8 0,.int .u8 0,.int .u8 0,.int .u8 0,.int .u8 0,.int .u8 0,.int .u8 0,.int .u8 0,.int .u8 0,.int .u8 0] }
  |188=>{ ok:=true,size:=15,bytes:=240,agg:=true,arr:=true,elem:=9,alen:=15,zero:=some [.str [],.str [],.str [],.str [],.str [],.str [],.str [],.str [],.str [],.str [],.str [],.str [],.str [],.str [],.str []] }
  |191=>{ ok:=true,size:=1,bytes:=16,agg:=true,fs:=[(0,9)],fk:=true,flat:=some [2],zero:=some [.str []] }
  |195=>{ ok:=true,size:=20,bytes:=160,agg:=true,arr:=true,elem:=164,alen:=20,zero:=some [.int .u64 0,.int .u64 0,.int .u64 0,.int .u64 0,.int .u64 0,.int .u64 0,.int .u64 0,.int .u64 0,.int .u64 0,.int .u64 0,.int .u64 0,.int .u64 0,.int .u64 0,.int .u64 0,.int .u64 0,.int .u64 0,.int .u64 0,.int .u64 0,.int .u64 0,.int .u64 0] }
  |196=>{ ok:=true,size:=1,bytes:=4,int:=true,kind:=.u32,zero:=some [.int .u32 0] }
  |197=>{ ok:=true,size:=65,bytes:=65,agg:=true,arr:=true,elem:=5,alen:=65,zero:=some [.int .u8 0,.int .u8 0,.int .u8 0,.int .u8 0,.int .u8 0,.int .u8 0,.int .u8 0,.int .u8 0,.int .u8 0,.int .u8 0,.int .u8 0,.int .u8 0,.int .u8 0,.int .u8 0,.int .u8 0,.int .u8 0,.int .u8 0,.int .u8 0,.int .u8 0,.int .u8 0,.int .u8 0,.int .u8 0,.int .u8 0,.int .u8 0,.int .u8 0,.int .u8 0,.int .u8 0,.int .u8 0,.int .u8 0,.int .u8 0,.int .u8 0,.int .u8 0,.int .u8 0,.int .u8 0,.int .u8 0,.int .u8 0,.int .u8 0,.int .u8 0,.int .u8 0,.int .u8 0,.int .u8 0,.int .u8 0,.int .u8 0,.int .u8 0,.int .u8 0,.int .u8 0,.int .u8 0,.int .u8 0,.int .u8 0,.int .u8 0,.int .u8 0,.int .u8 0,.int .u8 0,.int .u8 0,.int .u8 0,.int .u8 0,.int .u8 0,.int .u8 0,.int .u8 0,.int .u8 0,.int .u8 0,.int .u8 0,.int .u8 0,.int .u8 0,.int .u8 0] }
  |201=>{ ok:=true,size:=32,bytes:=32,agg:=true,arr:=true,elem:=5,alen:=32,zero:=some [.int .u8 0,.int .u8 0,.int .u8 0,.int .u8 0,.int .u8 0,.int .u8 0,.int .u8 0,.int .u8 0,.int .u8 0,.int .u8 0,.int .u8 0,.int .u8 0,.int .u8 0,.int .u8 0,.int .u8 0,.int .u8 0,.int .u8 0,.int .u8 0,.int .u8 0,.int .u8 0,.int .u8 0,.int .u8 0,.int .u8 0,.int .u8 0,.int .u8 0,.int .u8 0,.int .u8 0,.int .u8 0,.int .u8 0,.int .u8 0,.int .u8 0,.int .u8 0] }
  |202=>{ ok:=true,size:=64,bytes:=64,agg:=true,arr:=true,elem:=5,alen:=64,zero:=some [.int .u8 0,.int .u8 0,.int .u8 0,.int .u8 0,.int .u8 0,.int .u8 0,.int .u8 0,.int .u8 0,.int .u8 0,.int .u8 0,.int .u8 0,.int .u8 0,.int .u8 0,.int .u8 0,.int .u8 0,.int .u8 0,.int .u8 0,.int .u8 0,.int .u8 0,.int .u8 0,.int .u8 0,.int .u8 0,.int .u8 0,.int .u8 0,.int .u8 0,.int .u8 0,.int .u8 0,.int .u8 0,.int .u8 0,.int .u8 0,.int .u8 0,.int .u8 0,.int .u8 0,.int .u8 0,.int .u8 0,.int .u8 0,.int .u8 0,.int .u8 0,.int .u8 0,.int .u8 0,.int .u8 0,.int .u8 0,.int .u8 0,.int .u8 0,.int .u8 0,.int .u8 0,.int .u8 0,.int .u8 0,.int .u8 0,.int .u8 0,.int .u8 0,.int .u8 0,.int .u8 0,.int .u8 0,.int .u8 0,.int .u8 0,.int .u8 0,.int .u8 0,.int .u8 0,.int .u8 0,.int .u8 0,.int .u8 0,.int .u8 0,.int .u8 0] }
  |_=>{}
theorem JF:d6 Tryz.prog 2 (tab 2) :=
  by constructor<;>first|kernel_rfl|exact fun i hi=>by simp [tab] at hi
theorem JG:d6 Tryz.prog 3 (tab 3) :=
  by constructor<;>first|kernel_rfl|exact fun i hi=>by simp [tab] at hi
theorem JH:d6 Tryz.prog 4 (tab 4) :=
  by constructor<;>first|kernel_rfl|exact fun i hi=>by simp [tab] at hi
theorem JI:d6 Tryz.prog 5 (tab 5) :=
  by constructor<;>first|kernel_rfl|exact fun i hi=>by simp [tab] at hi
theorem JJ:d6 Tryz.prog 9 (tab 9) :=
  by constructor<;>first|kernel_rfl|exact fun i hi=>by simp [tab] at hi
theorem Iw:d6 Tryz.prog 21 (tab 21) :=
  by constructor<;>first|kernel_rfl|exact fun i hi=>by simp [tab] at hi
theorem Ix:d6 Tryz.prog 23 (tab 23) :=
  by constructor<;>first|kernel_rfl|exact fun i hi=>by simp [tab] at hi
theorem Iy:d6 Tryz.prog 25 (tab 25) :=
  ⟨by kernel_rfl,by kernel_rfl,by kernel_rfl,by kernel_rfl,by kernel_rfl,by kernel_rfl,by kernel_rfl,by kernel_rfl,by kernel_rfl,by kernel_rfl,by kernel_rfl,by kernel_rfl,by kernel_rfl,by kernel_rfl,by kernel_rfl,by kernel_rfl,by kernel_rfl,
    fun i hi=>by
      have hi:i<1:=hi
      match i,hi with
      |0,_=>exact ⟨by kernel_rfl,by kernel_rfl,by kernel_rfl⟩⟩
theorem Iz:d6 Tryz.prog 27 (tab 27) :=
  ⟨by kernel_rfl,by kernel_rfl,by kernel_rfl,by kernel_rfl,by kernel_rfl,by kernel_rfl,by kernel_rfl,by kernel_rfl,by kernel_rfl,by kernel_rfl,by kernel_rfl,by kernel_rfl,by kernel_rfl,by kernel_rfl,by kernel_rfl,by kernel_rfl,by kernel_rfl,
    fun i hi=>by
      have hi:i<2:=hi
      match i,hi with
      |0,_=>exact ⟨by kernel_rfl,by kernel_rfl,by kernel_rfl⟩
      |1,_=>exact ⟨by kernel_rfl,by kernel_rfl,by kernel_rfl⟩⟩
theorem IA:d6 Tryz.prog 36 (tab 36) :=
  by constructor<;>first|kernel_rfl|exact fun i hi=>by simp [tab] at hi
theorem IB:d6 Tryz.prog 39 (tab 39) :=
  ⟨by kernel_rfl,by kernel_rfl,by kernel_rfl,by kernel_rfl,by kernel_rfl,by kernel_rfl,by kernel_rfl,by kernel_rfl,by kernel_rfl,by kernel_rfl,by kernel_rfl,by kernel_rfl,by kernel_rfl,by kernel_rfl,by kernel_rfl,by kernel_rfl,by kernel_rfl,
    fun i hi=>by
      have hi:i<2:=hi
      match i,hi with
      |0,_=>exact ⟨by kernel_rfl,by kernel_rfl,by kernel_rfl⟩
      |1,_=>exact ⟨by kernel_rfl,by kernel_rfl,by kernel_rfl⟩⟩
theorem IC:d6 Tryz.prog 41 (tab 41) :=
  by constructor<;>first|kernel_rfl|exact fun i hi=>by simp [tab] at hi
theorem ID:d6 Tryz.prog 43 (tab 43) :=
  ⟨by kernel_rfl,by kernel_rfl,by kernel_rfl,by kernel_rfl,by kernel_rfl,by kernel_rfl,by kernel_rfl,by kernel_rfl,by kernel_rfl,by kernel_rfl,by kernel_rfl,by kernel_rfl,by kernel_rfl,by kernel_rfl,by kernel_rfl,by kernel_rfl,by kernel_rfl,
    fun i hi=>by
      have hi:i<4:=hi
      match i,hi with
      |0,_=>exact ⟨by kernel_rfl,by kernel_rfl,by kernel_rfl⟩
      |1,_=>exact ⟨by kernel_rfl,by kernel_rfl,by kernel_rfl⟩
      |2,_=>exact ⟨by kernel_rfl,by kernel_rfl,by kernel_rfl⟩
      |3,_=>exact ⟨by kernel_rfl,by kernel_rfl,by kernel_rfl⟩⟩
theorem IE:d6 Tryz.prog 46 (tab 46) :=
  by constructor<;>first|kernel_rfl|exact fun i hi=>by simp [tab] at hi
theorem IF:d6 Tryz.prog 47 (tab 47) :=
  by constructor<;>first|kernel_rfl|exact fun i hi=>by simp [tab] at hi
theorem IG:d6 Tryz.prog 48 (tab 48) :=
  by constructor<;>first|kernel_rfl|exact fun i hi=>by simp [tab] at hi
theorem IH:d6 Tryz.prog 50 (tab 50) :=
  ⟨by kernel_rfl,by kernel_rfl,by kernel_rfl,by kernel_rfl,by kernel_rfl,by kernel_rfl,by kernel_rfl,by kernel_rfl,by kernel_rfl,by kernel_rfl,by kernel_rfl,by kernel_rfl,by kernel_rfl,by kernel_rfl,by kernel_rfl,by kernel_rfl,by kernel_rfl,
    fun i hi=>by
      have hi:i<7:=hi
      match i,hi with
      |0,_=>exact ⟨by kernel_rfl,by kernel_rfl,by kernel_rfl⟩
      |1,_=>exact ⟨by kernel_rfl,by kernel_rfl,by kernel_rfl⟩
      |2,_=>exact ⟨by kernel_rfl,by kernel_rfl,by kernel_rfl⟩
      |3,_=>exact ⟨by kernel_rfl,by kernel_rfl,by kernel_rfl⟩
      |4,_=>exact ⟨by kernel_rfl,by kernel_rfl,by kernel_rfl⟩
      |5,_=>exact ⟨by kernel_rfl,by kernel_rfl,by kernel_rfl⟩
      |6,_=>exact ⟨by kernel_rfl,by kernel_rfl,by kernel_rfl⟩⟩
theorem II:d6 Tryz.prog 55 (tab 55) :=
  by constructor<;>first|kernel_rfl|exact fun i hi=>by simp [tab] at hi
theorem IJ:d6 Tryz.prog 56 (tab 56) :=
  by constructor<;>first|kernel_rfl|exact fun i hi=>by simp [tab] at hi
theorem IK:d6 Tryz.prog 58 (tab 58) :=
  ⟨by kernel_rfl,by kernel_rfl,by kernel_rfl,by kernel_rfl,by kernel_rfl,by kernel_rfl,by kernel_rfl,by kernel_rfl,by kernel_rfl,by kernel_rfl,by kernel_rfl,by kernel_rfl,by kernel_rfl,by kernel_rfl,by kernel_rfl,by kernel_rfl,by kernel_rfl,
    fun i hi=>by
      have hi:i<5:=hi
      match i,hi with
      |0,_=>exact ⟨by kernel_rfl,by kernel_rfl,by kernel_rfl⟩
      |1,_=>exact ⟨by kernel_rfl,by kernel_rfl,by kernel_rfl⟩
      |2,_=>exact ⟨by kernel_rfl,by kernel_rfl,by kernel_rfl⟩
      |3,_=>exact ⟨by kernel_rfl,by kernel_rfl,by kernel_rfl⟩
      |4,_=>exact ⟨by kernel_rfl,by kernel_rfl,by kernel_rfl⟩⟩
theorem IL:d6 Tryz.prog 62 (tab 62) :=
  by constructor<;>first|kernel_rfl|exact fun i hi=>by simp [tab] at hi
theorem IM:d6 Tryz.prog 63 (tab 63) :=
  by constructor<;>first|kernel_rfl|exact fun i hi=>by simp [tab] at hi
theorem IN:d6 Tryz.prog 65 (tab 65) :=
  ⟨by kernel_rfl,by kernel_rfl,by kernel_rfl,by kernel_rfl,by kernel_rfl,by kernel_rfl,by kernel_rfl,by kernel_rfl,by kernel_rfl,by kernel_rfl,by kernel_rfl,by kernel_rfl,by kernel_rfl,by kernel_rfl,by kernel_rfl,by kernel_rfl,by kernel_rfl,
    fun i hi=>by
      have hi:i<3:=hi
      match i,hi with
      |0,_=>exact ⟨by kernel_rfl,by kernel_rfl,by kernel_rfl⟩
      |1,_=>exact ⟨by kernel_rfl,by kernel_rfl,by kernel_rfl⟩
      |2,_=>exact ⟨by kernel_rfl,by kernel_rfl,by kernel_rfl⟩⟩
theorem IP:d6 Tryz.prog 68 (tab 68) :=
  ⟨by kernel_rfl,by kernel_rfl,by kernel_rfl,by kernel_rfl,by kernel_rfl,by kernel_rfl,by kernel_rfl,by kernel_rfl,by kernel_rfl,by kernel_rfl,by kernel_rfl,by kernel_rfl,by kernel_rfl,by kernel_rfl,by kernel_rfl,by kernel_rfl,by kernel_rfl,
    fun i hi=>by
      have hi:i<4:=hi
      match i,hi with
      |0,_=>exact ⟨by kernel_rfl,by kernel_rfl,by kernel_rfl⟩
      |1,_=>exact ⟨by kernel_rfl,by kernel_rfl,by kernel_rfl⟩
      |2,_=>exact ⟨by kernel_rfl,by kernel_rfl,by kernel_rfl⟩
      |3,_=>exact ⟨by kernel_rfl,by kernel_rfl,by kernel_rfl⟩⟩
theorem IQ:d6 Tryz.prog 71 (tab 71) :=
  by constructor<;>first|kernel_rfl|exact fun i hi=>by simp [tab] at hi
theorem IR:d6 Tryz.prog 76 (tab 76) :=
  by constructor<;>first|kernel_rfl|exact fun i hi=>by simp [tab] at hi
theorem IS:d6 Tryz.prog 78 (tab 78) :=
  ⟨by kernel_rfl,by kernel_rfl,by kernel_rfl,by kernel_rfl,by kernel_rfl,by kernel_rfl,by kernel_rfl,by kernel_rfl,by kernel_rfl,by kernel_rfl,by kernel_rfl,by kernel_rfl,by kernel_rfl,by kernel_rfl,by kernel_rfl,by kernel_rfl,by kernel_rfl,
    fun i hi=>by
      have hi:i<2:=hi
      match i,hi with
      |0,_=>exact ⟨by kernel_rfl,by kernel_rfl,by kernel_rfl⟩
      |1,_=>exact ⟨by kernel_rfl,by kernel_rfl,by kernel_rfl⟩⟩
theorem IT:d6 Tryz.prog 80 (tab 80) :=
  ⟨by kernel_rfl,by kernel_rfl,by kernel_rfl,by kernel_rfl,by kernel_rfl,by kernel_rfl,by kernel_rfl,by kernel_rfl,by kernel_rfl,by kernel_rfl,by kernel_rfl,by kernel_rfl,by kernel_rfl,by kernel_rfl,by kernel_rfl,by kernel_rfl,by kernel_rfl,
    fun i hi=>by
      have hi:i<2:=hi
      match i,hi with
      |0,_=>exact ⟨by kernel_rfl,by kernel_rfl,by kernel_rfl⟩
      |1,_=>exact ⟨by kernel_rfl,by kernel_rfl,by kernel_rfl⟩⟩
theorem IU:d6 Tryz.prog 81 (tab 81) :=
  by constructor<;>first|kernel_rfl|exact fun i hi=>by simp [tab] at hi
theorem IV:d6 Tryz.prog 89 (tab 89) :=
  ⟨by kernel_rfl,by kernel_rfl,by kernel_rfl,by kernel_rfl,by kernel_rfl,by kernel_rfl,by kernel_rfl,by kernel_rfl,by kernel_rfl,by kernel_rfl,by kernel_rfl,by kernel_rfl,by kernel_rfl,by kernel_rfl,by kernel_rfl,by kernel_rfl,by kernel_rfl,
    fun i hi=>by
      have hi:i<2:=hi
      match i,hi with
      |0,_=>exact ⟨by kernel_rfl,by kernel_rfl,by kernel_rfl⟩
      |1,_=>exact ⟨by kernel_rfl,by kernel_rfl,by kernel_rfl⟩⟩
theorem IW:d6 Tryz.prog 91 (tab 91) :=
  ⟨by kernel_rfl,by kernel_rfl,by kernel_rfl,by kernel_rfl,by kernel_rfl,by kernel_rfl,by kernel_rfl,by kernel_rfl,by kernel_rfl,by kernel_rfl,by kernel_rfl,by kernel_rfl,by kernel_rfl,by kernel_rfl,by kernel_rfl,by kernel_rfl,by kernel_rfl,
    fun i hi=>by
      have hi:i<6:=hi
      match i,hi with
      |0,_=>exact ⟨by kernel_rfl,by kernel_rfl,by kernel_rfl⟩
      |1,_=>exact ⟨by kernel_rfl,by kernel_rfl,by kernel_rfl⟩
      |2,_=>exact ⟨by kernel_rfl,by kernel_rfl,by kernel_rfl⟩
      |3,_=>exact ⟨by kernel_rfl,by kernel_rfl,by kernel_rfl⟩
      |4,_=>exact ⟨by kernel_rfl,by kernel_rfl,by kernel_rfl⟩
      |5,_=>exact ⟨by kernel_rfl,by kernel_rfl,by kernel_rfl⟩⟩
theorem IX:d6 Tryz.prog 92 (tab 92) :=
  by constructor<;>first|kernel_rfl|exact fun i hi=>by simp [tab] at hi
theorem IY:d6 Tryz.prog 94 (tab 94) :=
  ⟨by kernel_rfl,by kernel_rfl,by kernel_rfl,by kernel_rfl,by kernel_rfl,by kernel_rfl,by kernel_rfl,by kernel_rfl,by kernel_rfl,by kernel_rfl,by kernel_rfl,by kernel_rfl,by kernel_rfl,by kernel_rfl,by kernel_rfl,by kernel_rfl,by kernel_rfl,
    fun i hi=>by
      have hi:i<2:=hi
      match i,hi with
      |0,_=>exact ⟨by kernel_rfl,by kernel_rfl,by kernel_rfl⟩
      |1,_=>exact ⟨by kernel_rfl,by kernel_rfl,by kernel_rfl⟩⟩
theorem IZ:d6 Tryz.prog 99 (tab 99) :=
  by constructor<;>first|kernel_rfl|exact fun i hi=>by simp [tab] at hi
theorem Ha:d6 Tryz.prog 101 (tab 101) :=
  by constructor<;>first|kernel_rfl|exact fun i hi=>by simp [tab] at hi
theorem Hb:d6 Tryz.prog 108 (tab 108) :=
  by constructor<;>first|kernel_rfl|exact fun i hi=>by simp [tab] at hi
theorem Hd:d6 Tryz.prog 110 (tab 110) :=
  by constructor<;>first|kernel_rfl|exact fun i hi=>by simp [tab] at hi
theorem He:d6 Tryz.prog 114 (tab 114) :=
  by constructor<;>first|kernel_rfl|exact fun i hi=>by simp [tab] at hi
theorem Hf:d6 Tryz.prog 116 (tab 116) :=
  by constructor<;>first|kernel_rfl|exact fun i hi=>by simp [tab] at hi
theorem Hg:d6 Tryz.prog 117 (tab 117) :=
  by constructor<;>first|kernel_rfl|exact fun i hi=>by simp [tab] at hi
theorem Hh:d6 Tryz.prog 119 (tab 119) :=
  ⟨by kernel_rfl,by kernel_rfl,by kernel_rfl,by kernel_rfl,by kernel_rfl,by kernel_rfl,by kernel_rfl,by kernel_rfl,by kernel_rfl,by kernel_rfl,by kernel_rfl,by kernel_rfl,by kernel_rfl,by kernel_rfl,by kernel_rfl,by kernel_rfl,by kernel_rfl,
    fun i hi=>by
      have hi:i<2:=hi
      match i,hi with
      |0,_=>exact ⟨by kernel_rfl,by kernel_rfl,by kernel_rfl⟩
      |1,_=>exact ⟨by kernel_rfl,by kernel_rfl,by kernel_rfl⟩⟩
theorem Hi:d6 Tryz.prog 129 (tab 129) :=
  by constructor<;>first|kernel_rfl|exact fun i hi=>by simp [tab] at hi
theorem Hj:d6 Tryz.prog 131 (tab 131) :=
  by constructor<;>first|kernel_rfl|exact fun i hi=>by simp [tab] at hi
theorem Hk:d6 Tryz.prog 138 (tab 138) :=
  by constructor<;>first|kernel_rfl|exact fun i hi=>by simp [tab] at hi
theorem Hl:d6 Tryz.prog 140 (tab 140) :=
  by constructor<;>first|kernel_rfl|exact fun i hi=>by simp [tab] at hi
theorem Hm:d6 Tryz.prog 142 (tab 142) :=
  by constructor<;>first|kernel_rfl|exact fun i hi=>by simp [tab] at hi
theorem Ho:d6 Tryz.prog 153 (tab 153) :=
  by constructor<;>first|kernel_rfl|exact fun i hi=>by simp [tab] at hi
theorem Hp:d6 Tryz.prog 156 (tab 156) :=
  by constructor<;>first|kernel_rfl|exact fun i hi=>by simp [tab] at hi
theorem Hq:d6 Tryz.prog 160 (tab 160) :=
  ⟨by kernel_rfl,by kernel_rfl,by kernel_rfl,by kernel_rfl,by kernel_rfl,by kernel_rfl,by kernel_rfl,by kernel_rfl,by kernel_rfl,by kernel_rfl,by kernel_rfl,by kernel_rfl,by kernel_rfl,by kernel_rfl,by kernel_rfl,by kernel_rfl,by kernel_rfl,
    fun i hi=>by
      have hi:i<4:=hi
      match i,hi with
      |0,_=>exact ⟨by kernel_rfl,by kernel_rfl,by kernel_rfl⟩
      |1,_=>exact ⟨by kernel_rfl,by kernel_rfl,by kernel_rfl⟩
      |2,_=>exact ⟨by kernel_rfl,by kernel_rfl,by kernel_rfl⟩
      |3,_=>exact ⟨by kernel_rfl,by kernel_rfl,by kernel_rfl⟩⟩
theorem Hr:d6 Tryz.prog 164 (tab 164) :=
  by constructor<;>first|kernel_rfl|exact fun i hi=>by simp [tab] at hi
theorem Hs:d6 Tryz.prog 167 (tab 167) :=
  by constructor<;>first|kernel_rfl|exact fun i hi=>by simp [tab] at hi
theorem Ht:d6 Tryz.prog 172 (tab 172) :=
  by constructor<;>first|kernel_rfl|exact fun i hi=>by simp [tab] at hi
theorem Hu:d6 Tryz.prog 173 (tab 173) :=
  by constructor<;>first|kernel_rfl|exact fun i hi=>by simp [tab] at hi
theorem Hv:d6 Tryz.prog 174 (tab 174) :=
  by constructor<;>first|kernel_rfl|exact fun i hi=>by simp [tab] at hi
theorem Hw:d6 Tryz.prog 175 (tab 175) :=
  by constructor<;>first|kernel_rfl|exact fun i hi=>by simp [tab] at hi
theorem Hy:d6 Tryz.prog 176 (tab 176) :=
  by constructor<;>first|kernel_rfl|exact fun i hi=>by simp [tab] at hi
theorem Hz:d6 Tryz.prog 177 (tab 177) :=
  by constructor<;>first|kernel_rfl|exact fun i hi=>by simp [tab] at hi
theorem HA:d6 Tryz.prog 181 (tab 181) :=
  ⟨by kernel_rfl,by kernel_rfl,by kernel_rfl,by kernel_rfl,by kernel_rfl,by kernel_rfl,by kernel_rfl,by kernel_rfl,by kernel_rfl,by kernel_rfl,by kernel_rfl,by kernel_rfl,by kernel_rfl,by kernel_rfl,by kernel_rfl,by kernel_rfl,by kernel_rfl,
    fun i hi=>by
      have hi:i<3:=hi
      match i,hi with
      |0,_=>exact ⟨by kernel_rfl,by kernel_rfl,by kernel_rfl⟩
      |1,_=>exact ⟨by kernel_rfl,by kernel_rfl,by kernel_rfl⟩
      |2,_=>exact ⟨by kernel_rfl,by kernel_rfl,by kernel_rfl⟩⟩
theorem HD:d6 Tryz.prog 183 (tab 183) :=
  by constructor<;>first|kernel_rfl|exact fun i hi=>by simp [tab] at hi
theorem HE:d6 Tryz.prog 188 (tab 188) :=
  by constructor<;>first|kernel_rfl|exact fun i hi=>by simp [tab] at hi
theorem HG:d6 Tryz.prog 191 (tab 191) :=
  ⟨by kernel_rfl,by kernel_rfl,by kernel_rfl,by kernel_rfl,by kernel_rfl,by kernel_rfl,by kernel_rfl,by kernel_rfl,by kernel_rfl,by kernel_rfl,by kernel_rfl,by kernel_rfl,by kernel_rfl,by kernel_rfl,by kernel_rfl,by kernel_rfl,by kernel_rfl,
    fun i hi=>by
      have hi:i<1:=hi
      match i,hi with
      |0,_=>exact ⟨by kernel_rfl,by kernel_rfl,by kernel_rfl⟩⟩
theorem HH:d6 Tryz.prog 195 (tab 195) :=
  by constructor<;>first|kernel_rfl|exact fun i hi=>by simp [tab] at hi
theorem HI:d6 Tryz.prog 196 (tab 196) :=
  by constructor<;>first|kernel_rfl|exact fun i hi=>by simp [tab] at hi
theorem HJ:d6 Tryz.prog 197 (tab 197) :=
  by constructor<;>first|kernel_rfl|exact fun i hi=>by simp [tab] at hi
theorem HK:d6 Tryz.prog 201 (tab 201) :=
  by constructor<;>first|kernel_rfl|exact fun i hi=>by simp [tab] at hi
theorem HM:d6 Tryz.prog 202 (tab 202) :=
  by constructor<;>first|kernel_rfl|exact fun i hi=>by simp [tab] at hi
theorem km(T:TypeId)(h:(tab T).ok=true):d6 Tryz.prog T (tab T):=by
  unfold tab at h
  split at h
  · exact JF
  · exact JG
  · exact JH
  · exact JI
  · exact JJ
  · exact Iw
  · exact Ix
  · exact Iy
  · exact Iz
  · exact IA
  · exact IB
  · exact IC
  · exact ID
  · exact IE
  · exact IF
  · exact IG
  · exact IH
  · exact II
  · exact IJ
  · exact IK
  · exact IL
  · exact IM
  · exact IN
  · exact IP
  · exact IQ
  · exact IR
  · exact IS
  · exact IT
  · exact IU
  · exact IV
  · exact IW
  · exact IX
  · exact IY
  · exact IZ
  · exact Ha
  · exact Hb
  · exact Hd
  · exact He
  · exact Hf
  · exact Hg
  · exact Hh
  · exact Hi
  · exact Hj
  · exact Hk
  · exact Hl
  · exact Hm
  · exact Ho
  · exact Hp
  · exact Hq
  · exact Hr
  · exact Hs
  · exact Ht
  · exact Hu
  · exact Hv
  · exact Hw
  · exact Hy
  · exact Hz
  · exact HA
  · exact HD
  · exact HE
  · exact HG
  · exact HH
  · exact HI
  · exact HJ
  · exact HK
  · exact HM
  · cases h
theorem FZ{T:TypeId}(h:(tab T).ok=true):dA Tryz.prog T=true:=(km T h).known
theorem I0{T:TypeId}(h:(tab T).ok=true):(Tryz.prog.underlying T).isSome=true:=(km T h).und
theorem HN{T:TypeId}(h:(tab T).ok=true):Tryz.prog.cellsOf T=(tab T).size:=(km T h).size
theorem F0{T:TypeId}(h:(tab T).ok=true):Tryz.prog.bytesOf T=(tab T).bytes:=(km T h).bytes
theorem I1{T:TypeId}(h:(tab T).ok=true):me Tryz.prog T=(tab T).agg:=(km T h).agg
theorem JK{T:TypeId}(h:(tab T).ok=true):kH Tryz.prog T=(tab T).sl:=(km T h).sl
theorem I2{T:TypeId}(h:(tab T).ok=true):nR Tryz.prog T=(tab T).arr:=(km T h).arr
theorem I3{T:TypeId}(h:(tab T).ok=true):ox Tryz.prog T=(tab T).str:=(km T h).str
theorem HO{T:TypeId}(h:(tab T).ok=true):wa Tryz.prog T=(tab T).bool:=(km T h).bool
theorem I4{T:TypeId}(h:(tab T).ok=true):wb Tryz.prog T=(tab T).int:=(km T h).int
theorem I5{T:TypeId}(h:(tab T).ok=true):B5 Tryz.prog T=(tab T).ptr:=(km T h).ptr
theorem HP{T:TypeId}(h:(tab T).ok=true):Tryz.prog.elem T=(tab T).elem:=(km T h).elem
theorem HQ{T:TypeId}(h:(tab T).ok=true):Tryz.prog.arrayLen T=(tab T).alen:=(km T h).alen
theorem HS{T:TypeId}(h:(tab T).ok=true):Tryz.prog.intKind T=(tab T).kind:=(km T h).kind
theorem JL{T:TypeId}(h:(tab T).ok=true):nT Tryz.prog T=(tab T).fk:=(km T h).fk
theorem HU{T:TypeId}(h:(tab T).ok=true):no Tryz.prog T=(tab T).zero:=(km T h).zero
theorem HV{T:TypeId}(h:(tab T).ok=true):zM Tryz.prog T=(tab T).flat:=(km T h).flat
theorem I6{T:TypeId}{i:Nat}(h:(tab T).ok=true)(hi:i<(tab T).fs.length):pE Tryz.prog T i=true:=((km T h).fld i hi).1
theorem HX{T:TypeId}{i:Nat}(h:(tab T).ok=true)(hi:i<(tab T).fs.length):lW Tryz.prog T i=((tab T).fs.getD i (0,0)).1:=((km T h).fld i hi).2.1
theorem I7{T:TypeId}{i:Nat}(h:(tab T).ok=true)(hi:i<(tab T).fs.length):rM Tryz.prog T i=((tab T).fs.getD i (0,0)).2:=((km T h).fld i hi).2.2
def bT:=And.intro (And.intro (And.intro (And.intro @FZ @I0) (And.intro @HN @F0)) (And.intro (And.intro @I1 @JK) (And.intro @I2 @I3))) (And.intro (And.intro (And.intro @HO @I4) (And.intro @I5 @HP)) (And.intro (And.intro (And.intro @HQ @HS) (And.intro @JL @HU)) (And.intro (And.intro @HV @I6) (And.intro @HX @I7))))
end Pam
namespace Go.Proofs
open Go.Shelf
def Tryz.lays174_ren:Go.Shelf.Ren:=⟨fun|174=>74|247=>91|245=>92|287=>106|279=>107|280=>108|281=>109|282=>110|321=>118|322=>119|316=>120|171=>122|205=>121|243=>130|246=>115|283=>126|284=>127|285=>128|286=>129|129=>136|317=>135|318=>137|319=>138|320=>139|337=>140|338=>141|n=>n,fun|9=>9|3=>3|2=>2|75=>121|85=>132|4=>4|167=>163|5=>5|53=>164|175=>165|46=>167|168=>168|37=>117|0=>0|210=>181|21=>21|127=>142|145=>191|143=>189|171=>183|173=>186|212=>195|51=>196|20=>20|213=>197|232=>201|233=>202|80=>71|n=>n,fun|15=>1|16=>2|17=>3|18=>4|19=>5|n=>n⟩
theorem Tryz.lays174:Go.Proofs.LaysC.n174 Tryz.prog Tryz.lays174_ren:={
  mixed:=by kernel_rfl
  f129:=Tryz.func136.trans (congrArg some (by kernel_rfl))
  f171:=Tryz.func122.trans (congrArg some (by kernel_rfl))
  f174:=Tryz.func74.trans (congrArg some (by kernel_rfl))
  f205:=Tryz.func121.trans (congrArg some (by kernel_rfl))
  f243:=Tryz.func130.trans (congrArg some (by kernel_rfl))
  f245:=Tryz.func92.trans (congrArg some (by kernel_rfl))
  f246:=Tryz.func115.trans (congrArg some (by kernel_rfl))
  f247:=Tryz.func91.trans (congrArg some (by kernel_rfl))
  f279:=Tryz.func107.trans (congrArg some (by kernel_rfl))
  f280:=Tryz.func108.trans (congrArg some (by kernel_rfl))
  f281:=Tryz.func109.trans (congrArg some (by kernel_rfl))
  f282:=Tryz.func110.trans (congrArg some (by kernel_rfl))
  f283:=Tryz.func126.trans (congrArg some (by kernel_rfl))
  f284:=Tryz.func127.trans (congrArg some (by kernel_rfl))
  f285:=Tryz.func128.trans (congrArg some (by kernel_rfl))
  f286:=Tryz.func129.trans (congrArg some (by kernel_rfl))
  f287:=Tryz.func106.trans (congrArg some (by kernel_rfl))
  f316:=Tryz.func120.trans (congrArg some (by kernel_rfl))
  f317:=Tryz.func135.trans (congrArg some (by kernel_rfl))
  f318:=Tryz.func137.trans (congrArg some (by kernel_rfl))
  f319:=Tryz.func138.trans (congrArg some (by kernel_rfl))
  f320:=Tryz.func139.trans (congrArg some (by kernel_rfl))
  f321:=Tryz.func118.trans (congrArg some (by kernel_rfl))
  f322:=Tryz.func119.trans (congrArg some (by kernel_rfl))
  f337:=Tryz.func140.trans (congrArg some (by kernel_rfl))
  f338:=Tryz.func141.trans (congrArg some (by kernel_rfl))
  t0:=Tryz.underlying0
  a0:=Tryz.isAgg0
  z0:=Tryz.sizeOf0
  v0:=Tryz.zeroValue0
  t2:=Tryz.underlying2
  a2:=Tryz.isAgg2
  z2:=Tryz.sizeOf2
  v2:=Tryz.zeroValue2
  t3:=Tryz.underlying3
  a3:=Tryz.isAgg3
  z3:=Tryz.sizeOf3
  v3:=Tryz.zeroValue3
  t4:=Tryz.underlying4
  a4:=Tryz.isAgg4
  z4:=Tryz.sizeOf4
  v4:=Tryz.zeroValue4
  t5:=Tryz.underlying5
  a5:=Tryz.isAgg5
  z5:=Tryz.sizeOf5
  v5:=Tryz.zeroValue5
  t9:=Tryz.underlying9
  a9:=Tryz.isAgg9
  z9:=Tryz.sizeOf9
  v9:=Tryz.zeroValue9
  t20:=Tryz.underlying20
  a20:=Tryz.isAgg20
  z20:=Tryz.sizeOf20
  v20:=Tryz.zeroValue20
  t21:=Tryz.underlying21
  a21:=Tryz.isAgg21
  z21:=Tryz.sizeOf21
  v21:=Tryz.zeroValue21
  t37:=Tryz.underlying117
  a37:=Tryz.isAgg117
  z37:=Tryz.sizeOf117
  v37:=Tryz.zeroValue117
  t46:=Tryz.underlying167
  a46:=Tryz.isAgg167
  z46:=Tryz.sizeOf167
  v46:=Tryz.zeroValue167
  t51:=Tryz.underlying196
  a51:=Tryz.isAgg196
  z51:=Tryz.sizeOf196
  v51:=Tryz.zeroValue196
  t53:=Tryz.underlying164
  a53:=Tryz.isAgg164
  z53:=Tryz.sizeOf164
  v53:=Tryz.zeroValue164
  t75:=Tryz.underlying121
  a75:=Tryz.isAgg121
  z75:=Tryz.sizeOf121
  v75:=Tryz.zeroValue121
  t85:=Tryz.underlying132
  a85:=Tryz.isAgg132
  z85:=Tryz.sizeOf132
  v85:=Tryz.zeroValue132
  t127:=Tryz.underlying142
  a127:=Tryz.isAgg142
  z127:=Tryz.sizeOf142
  v127:=Tryz.zeroValue142
  t143:=Tryz.underlying189
  a143:=Tryz.isAgg189
  z143:=Tryz.sizeOf189
  v143:=Tryz.zeroValue189
  t145:=Tryz.underlying191
  a145:=Tryz.isAgg191
  z145:=Tryz.sizeOf191
  v145:=Tryz.zeroValue191
  t167:=Tryz.underlying163
  a167:=Tryz.isAgg163
  z167:=Tryz.sizeOf163
  v167:=Tryz.zeroValue163
  t168:=Tryz.underlying168
  a168:=Tryz.isAgg168
  z168:=Tryz.sizeOf168
  v168:=Tryz.zeroValue168
  t171:=Tryz.underlying183
  a171:=Tryz.isAgg183
  z171:=Tryz.sizeOf183
  v171:=Tryz.zeroValue183
  t173:=Tryz.underlying186
  a173:=Tryz.isAgg186
  z173:=Tryz.sizeOf186
  v173:=Tryz.zeroValue186
  t175:=Tryz.underlying165
  a175:=Tryz.isAgg165
  z175:=Tryz.sizeOf165
  v175:=Tryz.zeroValue165
  t210:=Tryz.underlying181
  a210:=Tryz.isAgg181
  z210:=Tryz.sizeOf181
  v210:=Tryz.zeroValue181
  t212:=Tryz.underlying195
  a212:=Tryz.isAgg195
  z212:=Tryz.sizeOf195
  v212:=Tryz.zeroValue195
  t213:=Tryz.underlying197
  a213:=Tryz.isAgg197
  z213:=Tryz.sizeOf197
  t232:=Tryz.underlying201
  a232:=Tryz.isAgg201
  z232:=Tryz.sizeOf201
  v232:=Tryz.zeroValue201
  t233:=Tryz.underlying202
  a233:=Tryz.isAgg202
  z233:=Tryz.sizeOf202
  v233:=Tryz.zeroValue202
  g15:=by kernel_rfl
  g16:=by kernel_rfl
  g17:=by kernel_rfl
  g18:=by kernel_rfl
  g19:=by kernel_rfl
  t80:=Tryz.underlying71
  a80:=Tryz.isAgg71
  z80:=Tryz.sizeOf71
  v80:=Tryz.zeroValue71
  i0:=by kernel_rfl
  i2:=by kernel_rfl
  i3:=by kernel_rfl
  i4:=by kernel_rfl
  i5:=by kernel_rfl
  i9:=by kernel_rfl
  i20:=by kernel_rfl
  i21:=by kernel_rfl
  i37:=by kernel_rfl
  i46:=by kernel_rfl
  i51:=by kernel_rfl
  i53:=by kernel_rfl
  i75:=by kernel_rfl
  i80:=by kernel_rfl
  i85:=by kernel_rfl
  i127:=by kernel_rfl
  i143:=by kernel_rfl
  i145:=by kernel_rfl
  i167:=by kernel_rfl
  i168:=by kernel_rfl
  i171:=by kernel_rfl
  i173:=by kernel_rfl
  i175:=by kernel_rfl
  i210:=by kernel_rfl
  i212:=by kernel_rfl
  i232:=by kernel_rfl
  i233:=by kernel_rfl
  m15:=by kernel_rfl
  m16:=by kernel_rfl
  m17:=by kernel_rfl
  m18:=by kernel_rfl
  m19:=by kernel_rfl
  c0:=by kernel_rfl
  c2:=by kernel_rfl
  c3:=by kernel_rfl
  c4:=by kernel_rfl
  c5:=by kernel_rfl
  c9:=by kernel_rfl
  c20:=by kernel_rfl
  c21:=by kernel_rfl
  c37:=by kernel_rfl
  c46:=by kernel_rfl
  c51:=by kernel_rfl
  c53:=by kernel_rfl
  c75:=by kernel_rfl
  c80:=by kernel_rfl
  c85:=by kernel_rfl
  c127:=by kernel_rfl
  c143:=by kernel_rfl
  c145:=by kernel_rfl
  c167:=by kernel_rfl
  c168:=by kernel_rfl
  c171:=by kernel_rfl
  c173:=by kernel_rfl
  c175:=by kernel_rfl
  c210:=by kernel_rfl
  c212:=by kernel_rfl
  c213:=by kernel_rfl
  c232:=by kernel_rfl
  c233:=by kernel_rfl }
end Go.Proofs
namespace Pam
open Go Go.Proofs
theorem BB:LaysC.n174 Tryz.prog Tryz.lays174_ren:=Tryz.lays174
end Pam
