/- A function of the library, walked -/
import Derived.Shelf.Strings.OnBuilder
import Derived.Test.YtmklfdnhndakcaaGreatDoorProg
import Derived.KernelRfl
import Derived.Test.YtmklfdnhndakcaaGreatDoorDxd
set_option linter.unusedVariables false
set_option linter.unusedSimpArgs false
namespace Go.Proofs
open Go.Shelf
def Tryz.layJoin_ren:Go.Shelf.Ren:=⟨fun | 156=>273 | 165=>315 | 166=>316 | 169=>317 | 240=>356 | 241=>357 | 276=>384 | 277=>385 | n=>n,fun | 31=>22 | 9=>9 | 3=>3 | 4=>4 | 0=>0 | 20=>20 | 72=>356 | 76=>358 | 70=>354 | 37=>252 | 75=>296 | 127=>394 | 164=>419 | 5=>5 | 80=>360 | n=>n,fun | n=>n⟩
theorem Tryz.layJoin:Go.Proofs.Lays.n156 Tryz.prog Tryz.layJoin_ren:={
 mixed:=by kernel_rfl
 f156:=Tryz.func273.trans (congrArg some (by kernel_rfl))
 f165:=Tryz.func315.trans (congrArg some (by kernel_rfl))
 f166:=Tryz.func316.trans (congrArg some (by kernel_rfl))
 f169:=Tryz.func317.trans (congrArg some (by kernel_rfl))
 f240:=Tryz.func356.trans (congrArg some (by kernel_rfl))
 f241:=Tryz.func357.trans (congrArg some (by kernel_rfl))
 f276:=Tryz.func384.trans (congrArg some (by kernel_rfl))
 f277:=Tryz.func385.trans (congrArg some (by kernel_rfl))
 t0:=Tryz.underlying0
 a0:=Tryz.isAgg0
 z0:=Tryz.sizeOf0
 v0:=Tryz.zeroValue0
 t3:=Tryz.underlying3
 a3:=Tryz.isAgg3
 z3:=Tryz.sizeOf3
 v3:=Tryz.zeroValue3
 t4:=Tryz.underlying4
 a4:=Tryz.isAgg4
 z4:=Tryz.sizeOf4
 v4:=Tryz.zeroValue4
 t9:=Tryz.underlying9
 a9:=Tryz.isAgg9
 z9:=Tryz.sizeOf9
 v9:=Tryz.zeroValue9
 t20:=Tryz.underlying20
 a20:=Tryz.isAgg20
 z20:=Tryz.sizeOf20
 v20:=Tryz.zeroValue20
 t31:=Tryz.underlying22
 a31:=Tryz.isAgg22
 z31:=Tryz.sizeOf22
 v31:=Tryz.zeroValue22
 t37:=Tryz.underlying252
 a37:=Tryz.isAgg252
 z37:=Tryz.sizeOf252
 v37:=Tryz.zeroValue252
 t70:=Tryz.underlying354
 a70:=Tryz.isAgg354
 z70:=Tryz.sizeOf354
 v70:=Tryz.zeroValue354
 t72:=Tryz.underlying356
 a72:=Tryz.isAgg356
 z72:=Tryz.sizeOf356
 v72:=Tryz.zeroValue356
 t75:=Tryz.underlying296
 a75:=Tryz.isAgg296
 z75:=Tryz.sizeOf296
 v75:=Tryz.zeroValue296
 t76:=Tryz.underlying358
 a76:=Tryz.isAgg358
 z76:=Tryz.sizeOf358
 v76:=Tryz.zeroValue358
 t127:=Tryz.underlying394
 a127:=Tryz.isAgg394
 z127:=Tryz.sizeOf394
 v127:=Tryz.zeroValue394
 t164:=Tryz.underlying419
 a164:=Tryz.isAgg419
 z164:=Tryz.sizeOf419
 v164:=Tryz.zeroValue419 }
end Go.Proofs
namespace Go.Proofs
open Go.Shelf
theorem Tryz.layJoinX:Builder.Extra Tryz.prog Tryz.layJoin_ren where
 sizeBuilder:=by kernel_rfl
 liesBuilder:=by kernel_rfl
 t5:=Tryz.underlying5
 a5:=Tryz.isAgg5
 z5:=Tryz.sizeOf5
 v5:=Tryz.zeroValue5
 infoByte:=by kernel_rfl
 cellsByte:=by kernel_rfl
 sizeByte:=by kernel_rfl
 neB5:=by decide
end Go.Proofs
namespace Go.Dx
open Go.Proofs
theorem Qte {W0:World} (hE:Enters Tryz.prog 273):Contract Tryz.prog W0 273 { ins:=[.v (.list .str) .z,.v .str .z],outs:=[(.str,.z)],F:=fun t=>Qih t.1 t.2.1,dm:=false }:=
 QoR hE (fun a c sep w=>Any.strings_Join_none Tryz.layJoin Tryz.layJoinX a c sep w) (fun bk o c xs sep w hcells hbk hN hcap hlen=>Any.strings_Join Tryz.layJoin Tryz.layJoinX bk o c xs sep w hcells hbk hN hcap hlen)
end Go.Dx
