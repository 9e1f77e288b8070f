/- A function of the library, walked -/
import Derived.Shelf.LaysM
import Derived.Shelf.Strconv.Itoa4
import Derived.Test.YtamhnaplipcapaaGreatDoorProg
import Derived.KernelRfl
import Derived.Test.YtamhnaplipcapaaGreatDoorDxd
set_option linter.unusedVariables false
set_option linter.unusedSimpArgs false
namespace Go.Proofs
open Go.Shelf
def Tryz.layFmt_ren:Go.Shelf.Ren:=⟨fun | 173=>281 | 246=>326 | 283=>358 | 284=>359 | 285=>360 | 286=>361 | 129=>375 | 317=>379 | 318=>380 | 319=>381 | 320=>382 | 337=>391 | 338=>392 | n=>n,fun | 2=>2 | 3=>3 | 9=>9 | 4=>4 | 171=>392 | 0=>0 | 53=>361 | 37=>253 | 5=>5 | 173=>395 | 212=>417 | 51=>406 | 20=>20 | 213=>418 | 46=>232 | 232=>432 | 233=>433 | n=>n,fun | 17=>5 | 18=>6 | 19=>7 | n=>n⟩
theorem Tryz.layFmt:Go.Proofs.LaysM.n173 Tryz.prog Tryz.layFmt_ren:={
 mixed:=by kernel_rfl
 f129:=Tryz.func375.trans (congrArg some (by kernel_rfl))
 f173:=Tryz.func281.trans (congrArg some (by kernel_rfl))
 f246:=Tryz.func326.trans (congrArg some (by kernel_rfl))
 f283:=Tryz.func358.trans (congrArg some (by kernel_rfl))
 f284:=Tryz.func359.trans (congrArg some (by kernel_rfl))
 f285:=Tryz.func360.trans (congrArg some (by kernel_rfl))
 f286:=Tryz.func361.trans (congrArg some (by kernel_rfl))
 f317:=Tryz.func379.trans (congrArg some (by kernel_rfl))
 f318:=Tryz.func380.trans (congrArg some (by kernel_rfl))
 f319:=Tryz.func381.trans (congrArg some (by kernel_rfl))
 f320:=Tryz.func382.trans (congrArg some (by kernel_rfl))
 f337:=Tryz.func391.trans (congrArg some (by kernel_rfl))
 f338:=Tryz.func392.trans (congrArg some (by kernel_rfl))
 t0:=Tryz.underlying0
 a0:=Tryz.isAgg0
 z0:=Tryz.sizeOf0
 v0:=Tryz.zeroValue0
 t2:=Tryz.underlying2
 a2:=Tryz.isAgg2
 z2:=Tryz.sizeOf2
 v2:=Tryz.zeroValue2
 t3:=Tryz.underlying3
 a3:=Tryz.isAgg3
 z3:=Tryz.sizeOf3
 v3:=Tryz.zeroValue3
 t4:=Tryz.underlying4
 a4:=Tryz.isAgg4
 z4:=Tryz.sizeOf4
 v4:=Tryz.zeroValue4
 t5:=Tryz.underlying5
 a5:=Tryz.isAgg5
 z5:=Tryz.sizeOf5
 v5:=Tryz.zeroValue5
 t9:=Tryz.underlying9
 a9:=Tryz.isAgg9
 z9:=Tryz.sizeOf9
 v9:=Tryz.zeroValue9
 t20:=Tryz.underlying20
 a20:=Tryz.isAgg20
 z20:=Tryz.sizeOf20
 v20:=Tryz.zeroValue20
 t37:=Tryz.underlying253
 a37:=Tryz.isAgg253
 z37:=Tryz.sizeOf253
 v37:=Tryz.zeroValue253
 t46:=Tryz.underlying232
 a46:=Tryz.isAgg232
 z46:=Tryz.sizeOf232
 v46:=Tryz.zeroValue232
 t51:=Tryz.underlying406
 a51:=Tryz.isAgg406
 z51:=Tryz.sizeOf406
 v51:=Tryz.zeroValue406
 t53:=Tryz.underlying361
 a53:=Tryz.isAgg361
 z53:=Tryz.sizeOf361
 v53:=Tryz.zeroValue361
 t171:=Tryz.underlying392
 a171:=Tryz.isAgg392
 z171:=Tryz.sizeOf392
 v171:=Tryz.zeroValue392
 t173:=Tryz.underlying395
 a173:=Tryz.isAgg395
 z173:=Tryz.sizeOf395
 v173:=Tryz.zeroValue395
 t212:=Tryz.underlying417
 a212:=Tryz.isAgg417
 z212:=Tryz.sizeOf417
 v212:=Tryz.zeroValue417
 t213:=Tryz.underlying418
 a213:=Tryz.isAgg418
 z213:=Tryz.sizeOf418
 t232:=Tryz.underlying432
 a232:=Tryz.isAgg432
 z232:=Tryz.sizeOf432
 v232:=Tryz.zeroValue432
 t233:=Tryz.underlying433
 a233:=Tryz.isAgg433
 z233:=Tryz.sizeOf433
 v233:=Tryz.zeroValue433
 g17:=by kernel_rfl
 g18:=by kernel_rfl
 g19:=by kernel_rfl
 i0:=by kernel_rfl
 i2:=by kernel_rfl
 i3:=by kernel_rfl
 i4:=by kernel_rfl
 i5:=by kernel_rfl
 i9:=by kernel_rfl
 i20:=by kernel_rfl
 i37:=by kernel_rfl
 i46:=by kernel_rfl
 i51:=by kernel_rfl
 i53:=by kernel_rfl
 i171:=by kernel_rfl
 i173:=by kernel_rfl
 i212:=by kernel_rfl
 i232:=by kernel_rfl
 i233:=by kernel_rfl
 m17:=by kernel_rfl
 m18:=by kernel_rfl
 m19:=by kernel_rfl }
end Go.Proofs
namespace Go.Dx
open Go.Proofs
theorem QuI {W0:World} (hE:Enters Tryz.prog 281) (hT:Lib.TabIs Tryz.prog W0 "internal/strconv.uint64pow10" .u64 Lib.pow10Tab):Contract Tryz.prog W0 281 { ins:=[.v (.int .i64) .z,.v (.int .i64) .z],outs:=[(.str,.z)],F:=fun t=>fmtS t.1 t.2.1 }:=
 Qp0 hE (fun n h0 h1 w htab=>Any.strconv_FormatInt_10 Tryz.layFmt n h0 h1 w htab) hT
end Go.Dx
