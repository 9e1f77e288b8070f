/- A function of the library, walked -/
import Derived.Shelf.LaysM
import Derived.Shelf.Strconv.Itoa4
import Derived.Test.YtoopijohnkgagaaDoorProg
import Derived.KernelRfl
import Derived.Test.YtoopijohnkgagaaDoorDxd
set_option linter.unusedVariables false
set_option linter.unusedSimpArgs false
namespace Go.Proofs
open Go.Shelf
def Tryd.layFmt_ren:Go.Shelf.Ren:=⟨fun | 173=>71 | 246=>86 | 283=>97 | 284=>98 | 285=>99 | 286=>100 | 129=>113 | 317=>112 | 318=>114 | 319=>115 | 320=>116 | 337=>121 | 338=>122 | n=>n,fun | 2=>2 | 3=>3 | 9=>9 | 4=>4 | 171=>126 | 0=>0 | 53=>127 | 37=>39 | 5=>5 | 173=>130 | 212=>147 | 51=>148 | 20=>20 | 213=>149 | 46=>145 | 232=>163 | 233=>164 | n=>n,fun | 17=>1 | 18=>4 | 19=>5 | n=>n⟩
theorem Tryd.layFmt:Go.Proofs.LaysM.n173 Tryd.prog Tryd.layFmt_ren:={
 mixed:=by kernel_rfl
 f129:=Tryd.func113.trans (congrArg some (by kernel_rfl))
 f173:=Tryd.func71.trans (congrArg some (by kernel_rfl))
 f246:=Tryd.func86.trans (congrArg some (by kernel_rfl))
 f283:=Tryd.func97.trans (congrArg some (by kernel_rfl))
 f284:=Tryd.func98.trans (congrArg some (by kernel_rfl))
 f285:=Tryd.func99.trans (congrArg some (by kernel_rfl))
 f286:=Tryd.func100.trans (congrArg some (by kernel_rfl))
 f317:=Tryd.func112.trans (congrArg some (by kernel_rfl))
 f318:=Tryd.func114.trans (congrArg some (by kernel_rfl))
 f319:=Tryd.func115.trans (congrArg some (by kernel_rfl))
 f320:=Tryd.func116.trans (congrArg some (by kernel_rfl))
 f337:=Tryd.func121.trans (congrArg some (by kernel_rfl))
 f338:=Tryd.func122.trans (congrArg some (by kernel_rfl))
 t0:=Tryd.underlying0
 a0:=Tryd.isAgg0
 z0:=Tryd.sizeOf0
 v0:=Tryd.zeroValue0
 t2:=Tryd.underlying2
 a2:=Tryd.isAgg2
 z2:=Tryd.sizeOf2
 v2:=Tryd.zeroValue2
 t3:=Tryd.underlying3
 a3:=Tryd.isAgg3
 z3:=Tryd.sizeOf3
 v3:=Tryd.zeroValue3
 t4:=Tryd.underlying4
 a4:=Tryd.isAgg4
 z4:=Tryd.sizeOf4
 v4:=Tryd.zeroValue4
 t5:=Tryd.underlying5
 a5:=Tryd.isAgg5
 z5:=Tryd.sizeOf5
 v5:=Tryd.zeroValue5
 t9:=Tryd.underlying9
 a9:=Tryd.isAgg9
 z9:=Tryd.sizeOf9
 v9:=Tryd.zeroValue9
 t20:=Tryd.underlying20
 a20:=Tryd.isAgg20
 z20:=Tryd.sizeOf20
 v20:=Tryd.zeroValue20
 t37:=Tryd.underlying39
 a37:=Tryd.isAgg39
 z37:=Tryd.sizeOf39
 v37:=Tryd.zeroValue39
 t46:=Tryd.underlying145
 a46:=Tryd.isAgg145
 z46:=Tryd.sizeOf145
 v46:=Tryd.zeroValue145
 t51:=Tryd.underlying148
 a51:=Tryd.isAgg148
 z51:=Tryd.sizeOf148
 v51:=Tryd.zeroValue148
 t53:=Tryd.underlying127
 a53:=Tryd.isAgg127
 z53:=Tryd.sizeOf127
 v53:=Tryd.zeroValue127
 t171:=Tryd.underlying126
 a171:=Tryd.isAgg126
 z171:=Tryd.sizeOf126
 v171:=Tryd.zeroValue126
 t173:=Tryd.underlying130
 a173:=Tryd.isAgg130
 z173:=Tryd.sizeOf130
 v173:=Tryd.zeroValue130
 t212:=Tryd.underlying147
 a212:=Tryd.isAgg147
 z212:=Tryd.sizeOf147
 v212:=Tryd.zeroValue147
 t213:=Tryd.underlying149
 a213:=Tryd.isAgg149
 z213:=Tryd.sizeOf149
 t232:=Tryd.underlying163
 a232:=Tryd.isAgg163
 z232:=Tryd.sizeOf163
 v232:=Tryd.zeroValue163
 t233:=Tryd.underlying164
 a233:=Tryd.isAgg164
 z233:=Tryd.sizeOf164
 v233:=Tryd.zeroValue164
 g17:=by kernel_rfl
 g18:=by kernel_rfl
 g19:=by kernel_rfl
 i0:=by kernel_rfl
 i2:=by kernel_rfl
 i3:=by kernel_rfl
 i4:=by kernel_rfl
 i5:=by kernel_rfl
 i9:=by kernel_rfl
 i20:=by kernel_rfl
 i37:=by kernel_rfl
 i46:=by kernel_rfl
 i51:=by kernel_rfl
 i53:=by kernel_rfl
 i171:=by kernel_rfl
 i173:=by kernel_rfl
 i212:=by kernel_rfl
 i232:=by kernel_rfl
 i233:=by kernel_rfl
 m17:=by kernel_rfl
 m18:=by kernel_rfl
 m19:=by kernel_rfl }
end Go.Proofs
namespace Go.Dx
open Go.Proofs
theorem fmtok71 {W0:World} (hE:Enters Tryd.prog 71) (hT:Lib.TabIs Tryd.prog W0 "internal/strconv.uint64pow10" .u64 Lib.pow10Tab):Contract Tryd.prog W0 71 { ins:=[.v (.int .i64) .z,.v (.int .i64) .z],outs:=[(.str,.z)],F:=fun t=>fmtS t.1 t.2.1 }:=
 fmt_contract hE (fun n h0 h1 w htab=>Any.strconv_FormatInt_10 Tryd.layFmt n h0 h1 w htab) hT
end Go.Dx
