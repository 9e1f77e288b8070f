/- A function of the library, walked -/
import Derived.Shelf.LaysM
import Derived.Shelf.Strconv.Itoa4
import Derived.Test.YtjipmcikidfhiaaGreatDoorProg
import Derived.KernelRfl
import Derived.Test.YtjipmcikidfhiaaGreatDoorDxd
set_option linter.unusedVariables false
set_option linter.unusedSimpArgs false
namespace Go.Proofs
open Go.Shelf
def Tryz.layFmt_ren:Go.Shelf.Ren:=⟨fun | 173=>200 | 246=>247 | 283=>288 | 284=>289 | 285=>290 | 286=>291 | 129=>310 | 317=>314 | 318=>315 | 319=>316 | 320=>317 | 337=>326 | 338=>327 | n=>n,fun | 2=>2 | 3=>3 | 9=>9 | 4=>4 | 171=>354 | 0=>0 | 53=>307 | 37=>314 | 5=>5 | 173=>357 | 212=>382 | 51=>370 | 20=>20 | 213=>383 | 46=>226 | 232=>397 | 233=>398 | n=>n,fun | 17=>5 | 18=>6 | 19=>7 | n=>n⟩
theorem Tryz.layFmt:Go.Proofs.LaysM.n173 Tryz.prog Tryz.layFmt_ren:={
 mixed:=by kernel_rfl
 f129:=Tryz.func310.trans (congrArg some (by kernel_rfl))
 f173:=Tryz.func200.trans (congrArg some (by kernel_rfl))
 f246:=Tryz.func247.trans (congrArg some (by kernel_rfl))
 f283:=Tryz.func288.trans (congrArg some (by kernel_rfl))
 f284:=Tryz.func289.trans (congrArg some (by kernel_rfl))
 f285:=Tryz.func290.trans (congrArg some (by kernel_rfl))
 f286:=Tryz.func291.trans (congrArg some (by kernel_rfl))
 f317:=Tryz.func314.trans (congrArg some (by kernel_rfl))
 f318:=Tryz.func315.trans (congrArg some (by kernel_rfl))
 f319:=Tryz.func316.trans (congrArg some (by kernel_rfl))
 f320:=Tryz.func317.trans (congrArg some (by kernel_rfl))
 f337:=Tryz.func326.trans (congrArg some (by kernel_rfl))
 f338:=Tryz.func327.trans (congrArg some (by kernel_rfl))
 t0:=Tryz.underlying0
 a0:=Tryz.isAgg0
 z0:=Tryz.sizeOf0
 v0:=Tryz.zeroValue0
 t2:=Tryz.underlying2
 a2:=Tryz.isAgg2
 z2:=Tryz.sizeOf2
 v2:=Tryz.zeroValue2
 t3:=Tryz.underlying3
 a3:=Tryz.isAgg3
 z3:=Tryz.sizeOf3
 v3:=Tryz.zeroValue3
 t4:=Tryz.underlying4
 a4:=Tryz.isAgg4
 z4:=Tryz.sizeOf4
 v4:=Tryz.zeroValue4
 t5:=Tryz.underlying5
 a5:=Tryz.isAgg5
 z5:=Tryz.sizeOf5
 v5:=Tryz.zeroValue5
 t9:=Tryz.underlying9
 a9:=Tryz.isAgg9
 z9:=Tryz.sizeOf9
 v9:=Tryz.zeroValue9
 t20:=Tryz.underlying20
 a20:=Tryz.isAgg20
 z20:=Tryz.sizeOf20
 v20:=Tryz.zeroValue20
 t37:=Tryz.underlying314
 a37:=Tryz.isAgg314
 z37:=Tryz.sizeOf314
 v37:=Tryz.zeroValue314
 t46:=Tryz.underlying226
 a46:=Tryz.isAgg226
 z46:=Tryz.sizeOf226
 v46:=Tryz.zeroValue226
 t51:=Tryz.underlying370
 a51:=Tryz.isAgg370
 z51:=Tryz.sizeOf370
 v51:=Tryz.zeroValue370
 t53:=Tryz.underlying307
 a53:=Tryz.isAgg307
 z53:=Tryz.sizeOf307
 v53:=Tryz.zeroValue307
 t171:=Tryz.underlying354
 a171:=Tryz.isAgg354
 z171:=Tryz.sizeOf354
 v171:=Tryz.zeroValue354
 t173:=Tryz.underlying357
 a173:=Tryz.isAgg357
 z173:=Tryz.sizeOf357
 v173:=Tryz.zeroValue357
 t212:=Tryz.underlying382
 a212:=Tryz.isAgg382
 z212:=Tryz.sizeOf382
 v212:=Tryz.zeroValue382
 t213:=Tryz.underlying383
 a213:=Tryz.isAgg383
 z213:=Tryz.sizeOf383
 t232:=Tryz.underlying397
 a232:=Tryz.isAgg397
 z232:=Tryz.sizeOf397
 v232:=Tryz.zeroValue397
 t233:=Tryz.underlying398
 a233:=Tryz.isAgg398
 z233:=Tryz.sizeOf398
 v233:=Tryz.zeroValue398
 g17:=by kernel_rfl
 g18:=by kernel_rfl
 g19:=by kernel_rfl
 i0:=by kernel_rfl
 i2:=by kernel_rfl
 i3:=by kernel_rfl
 i4:=by kernel_rfl
 i5:=by kernel_rfl
 i9:=by kernel_rfl
 i20:=by kernel_rfl
 i37:=by kernel_rfl
 i46:=by kernel_rfl
 i51:=by kernel_rfl
 i53:=by kernel_rfl
 i171:=by kernel_rfl
 i173:=by kernel_rfl
 i212:=by kernel_rfl
 i232:=by kernel_rfl
 i233:=by kernel_rfl
 m17:=by kernel_rfl
 m18:=by kernel_rfl
 m19:=by kernel_rfl }
end Go.Proofs
namespace Go.Dx
open Go.Proofs
theorem QrJ {W0:World} (hE:Enters Tryz.prog 200) (hT:Lib.TabIs Tryz.prog W0 "internal/strconv.uint64pow10" .u64 Lib.pow10Tab):Contract Tryz.prog W0 200 { ins:=[.v (.int .i64) .z,.v (.int .i64) .z],outs:=[(.str,.z)],F:=fun t=>fmtS t.1 t.2.1 }:=
 Qnt hE (fun n h0 h1 w htab=>Any.strconv_FormatInt_10 Tryz.layFmt n h0 h1 w htab) hT
end Go.Dx
