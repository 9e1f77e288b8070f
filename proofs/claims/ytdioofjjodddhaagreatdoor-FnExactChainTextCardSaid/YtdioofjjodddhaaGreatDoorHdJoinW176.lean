/- A function of the library, walked -/
import Derived.Shelf.Strings.OnBuilder
import Derived.Test.YtdioofjjodddhaaGreatDoorProg
import Derived.KernelRfl
import Derived.Test.YtdioofjjodddhaaGreatDoorDxd
set_option linter.unusedVariables false
set_option linter.unusedSimpArgs false
namespace Go.Proofs
open Go.Shelf
def Tryz.layJoin_ren:Go.Shelf.Ren:=⟨fun | 156=>176 | 165=>215 | 166=>216 | 169=>217 | 240=>264 | 241=>265 | 276=>301 | 277=>302 | n=>n,fun | 31=>22 | 9=>9 | 3=>3 | 4=>4 | 0=>0 | 20=>20 | 72=>291 | 76=>293 | 70=>289 | 37=>192 | 75=>270 | 127=>333 | 164=>368 | 5=>5 | 80=>295 | n=>n,fun | n=>n⟩
theorem Tryz.layJoin:Go.Proofs.Lays.n156 Tryz.prog Tryz.layJoin_ren:={
 mixed:=by kernel_rfl
 f156:=Tryz.func176.trans (congrArg some (by kernel_rfl))
 f165:=Tryz.func215.trans (congrArg some (by kernel_rfl))
 f166:=Tryz.func216.trans (congrArg some (by kernel_rfl))
 f169:=Tryz.func217.trans (congrArg some (by kernel_rfl))
 f240:=Tryz.func264.trans (congrArg some (by kernel_rfl))
 f241:=Tryz.func265.trans (congrArg some (by kernel_rfl))
 f276:=Tryz.func301.trans (congrArg some (by kernel_rfl))
 f277:=Tryz.func302.trans (congrArg some (by kernel_rfl))
 t0:=Tryz.underlying0
 a0:=Tryz.isAgg0
 z0:=Tryz.sizeOf0
 v0:=Tryz.zeroValue0
 t3:=Tryz.underlying3
 a3:=Tryz.isAgg3
 z3:=Tryz.sizeOf3
 v3:=Tryz.zeroValue3
 t4:=Tryz.underlying4
 a4:=Tryz.isAgg4
 z4:=Tryz.sizeOf4
 v4:=Tryz.zeroValue4
 t9:=Tryz.underlying9
 a9:=Tryz.isAgg9
 z9:=Tryz.sizeOf9
 v9:=Tryz.zeroValue9
 t20:=Tryz.underlying20
 a20:=Tryz.isAgg20
 z20:=Tryz.sizeOf20
 v20:=Tryz.zeroValue20
 t31:=Tryz.underlying22
 a31:=Tryz.isAgg22
 z31:=Tryz.sizeOf22
 v31:=Tryz.zeroValue22
 t37:=Tryz.underlying192
 a37:=Tryz.isAgg192
 z37:=Tryz.sizeOf192
 v37:=Tryz.zeroValue192
 t70:=Tryz.underlying289
 a70:=Tryz.isAgg289
 z70:=Tryz.sizeOf289
 v70:=Tryz.zeroValue289
 t72:=Tryz.underlying291
 a72:=Tryz.isAgg291
 z72:=Tryz.sizeOf291
 v72:=Tryz.zeroValue291
 t75:=Tryz.underlying270
 a75:=Tryz.isAgg270
 z75:=Tryz.sizeOf270
 v75:=Tryz.zeroValue270
 t76:=Tryz.underlying293
 a76:=Tryz.isAgg293
 z76:=Tryz.sizeOf293
 v76:=Tryz.zeroValue293
 t127:=Tryz.underlying333
 a127:=Tryz.isAgg333
 z127:=Tryz.sizeOf333
 v127:=Tryz.zeroValue333
 t164:=Tryz.underlying368
 a164:=Tryz.isAgg368
 z164:=Tryz.sizeOf368
 v164:=Tryz.zeroValue368 }
end Go.Proofs
namespace Go.Proofs
open Go.Shelf
theorem Tryz.layJoinX:Builder.Extra Tryz.prog Tryz.layJoin_ren where
 sizeBuilder:=by kernel_rfl
 liesBuilder:=by kernel_rfl
 t5:=Tryz.underlying5
 a5:=Tryz.isAgg5
 z5:=Tryz.sizeOf5
 v5:=Tryz.zeroValue5
 infoByte:=by kernel_rfl
 cellsByte:=by kernel_rfl
 sizeByte:=by kernel_rfl
 neB5:=by decide
end Go.Proofs
namespace Go.Dx
open Go.Proofs
theorem Qq6 {W0:World} (hE:Enters Tryz.prog 176):Contract Tryz.prog W0 176 { ins:=[.v (.list .str) .z,.v .str .z],outs:=[(.str,.z)],F:=fun t=>Qgs t.1 t.2.1,dm:=false }:=
 Qmy hE (fun a c sep w=>Any.strings_Join_none Tryz.layJoin Tryz.layJoinX a c sep w) (fun bk o c xs sep w hcells hbk hN hcap hlen=>Any.strings_Join Tryz.layJoin Tryz.layJoinX bk o c xs sep w hcells hbk hN hcap hlen)
end Go.Dx
