/- A function of the library, walked -/
import Derived.Shelf.Strings.OnBuilder
import Derived.Test.YtoopijohnkgagaaDoorProg
import Derived.KernelRfl
import Derived.Test.YtoopijohnkgagaaDoorDxd
set_option linter.unusedVariables false
set_option linter.unusedSimpArgs false
namespace Go.Proofs
open Go.Shelf
def Tryd.layJoin_ren:Go.Shelf.Ren:=⟨fun | 156=>87 | 165=>101 | 166=>102 | 169=>103 | 240=>117 | 241=>118 | 276=>123 | 277=>124 | n=>n,fun | 31=>22 | 9=>9 | 3=>3 | 4=>4 | 0=>0 | 20=>20 | 72=>134 | 76=>138 | 70=>132 | 37=>39 | 75=>137 | 127=>152 | 164=>160 | 5=>5 | 80=>140 | n=>n,fun | n=>n⟩
theorem Tryd.layJoin:Go.Proofs.Lays.n156 Tryd.prog Tryd.layJoin_ren:={
 mixed:=by kernel_rfl
 f156:=Tryd.func87.trans (congrArg some (by kernel_rfl))
 f165:=Tryd.func101.trans (congrArg some (by kernel_rfl))
 f166:=Tryd.func102.trans (congrArg some (by kernel_rfl))
 f169:=Tryd.func103.trans (congrArg some (by kernel_rfl))
 f240:=Tryd.func117.trans (congrArg some (by kernel_rfl))
 f241:=Tryd.func118.trans (congrArg some (by kernel_rfl))
 f276:=Tryd.func123.trans (congrArg some (by kernel_rfl))
 f277:=Tryd.func124.trans (congrArg some (by kernel_rfl))
 t0:=Tryd.underlying0
 a0:=Tryd.isAgg0
 z0:=Tryd.sizeOf0
 v0:=Tryd.zeroValue0
 t3:=Tryd.underlying3
 a3:=Tryd.isAgg3
 z3:=Tryd.sizeOf3
 v3:=Tryd.zeroValue3
 t4:=Tryd.underlying4
 a4:=Tryd.isAgg4
 z4:=Tryd.sizeOf4
 v4:=Tryd.zeroValue4
 t9:=Tryd.underlying9
 a9:=Tryd.isAgg9
 z9:=Tryd.sizeOf9
 v9:=Tryd.zeroValue9
 t20:=Tryd.underlying20
 a20:=Tryd.isAgg20
 z20:=Tryd.sizeOf20
 v20:=Tryd.zeroValue20
 t31:=Tryd.underlying22
 a31:=Tryd.isAgg22
 z31:=Tryd.sizeOf22
 v31:=Tryd.zeroValue22
 t37:=Tryd.underlying39
 a37:=Tryd.isAgg39
 z37:=Tryd.sizeOf39
 v37:=Tryd.zeroValue39
 t70:=Tryd.underlying132
 a70:=Tryd.isAgg132
 z70:=Tryd.sizeOf132
 v70:=Tryd.zeroValue132
 t72:=Tryd.underlying134
 a72:=Tryd.isAgg134
 z72:=Tryd.sizeOf134
 v72:=Tryd.zeroValue134
 t75:=Tryd.underlying137
 a75:=Tryd.isAgg137
 z75:=Tryd.sizeOf137
 v75:=Tryd.zeroValue137
 t76:=Tryd.underlying138
 a76:=Tryd.isAgg138
 z76:=Tryd.sizeOf138
 v76:=Tryd.zeroValue138
 t127:=Tryd.underlying152
 a127:=Tryd.isAgg152
 z127:=Tryd.sizeOf152
 v127:=Tryd.zeroValue152
 t164:=Tryd.underlying160
 a164:=Tryd.isAgg160
 z164:=Tryd.sizeOf160
 v164:=Tryd.zeroValue160 }
end Go.Proofs
namespace Go.Proofs
open Go.Shelf
theorem Tryd.layJoinX:Builder.Extra Tryd.prog Tryd.layJoin_ren where
 sizeBuilder:=by kernel_rfl
 liesBuilder:=by kernel_rfl
 t5:=Tryd.underlying5
 a5:=Tryd.isAgg5
 z5:=Tryd.sizeOf5
 v5:=Tryd.zeroValue5
 infoByte:=by kernel_rfl
 cellsByte:=by kernel_rfl
 sizeByte:=by kernel_rfl
 neB5:=by decide
end Go.Proofs
namespace Go.Dx
open Go.Proofs
theorem joinok87 {W0:World} (hE:Enters Tryd.prog 87):Contract Tryd.prog W0 87 { ins:=[.v (.list .str) .z,.v .str .z],outs:=[(.str,.z)],F:=fun t=>joinS t.1 t.2.1,dm:=false }:=
 join_contract hE (fun a c sep w=>Any.strings_Join_none Tryd.layJoin Tryd.layJoinX a c sep w) (fun bk o c xs sep w hcells hbk hN hcap hlen=>Any.strings_Join Tryd.layJoin Tryd.layJoinX bk o c xs sep w hcells hbk hN hcap hlen)
end Go.Dx
