/- A function of the library, walked -/
import Derived.Shelf.LaysM
import Derived.Shelf.Strings.Split
import Derived.Test.YtoopijohnkgagaaDoorProg
import Derived.KernelRfl
import Derived.Test.YtoopijohnkgagaaDoorDxd
set_option linter.unusedVariables false
set_option linter.unusedSimpArgs false
namespace Go.Proofs
open Go.Shelf
def Tryd.laySplit_ren:Go.Shelf.Ren:=⟨fun | 146=>35 | 221=>61 | 268=>76 | 138=>77 | 143=>78 | 195=>92 | 197=>93 | 218=>94 | 219=>95 | 260=>107 | 217=>108 | 225=>109 | 224=>110 | 267=>111 | 266=>119 | 314=>120 | n=>n,fun | 9=>9 | 31=>22 | 3=>3 | 4=>4 | 0=>0 | 105=>122 | 21=>21 | 5=>5 | 46=>145 | 119=>153 | 139=>156 | 138=>155 | 146=>157 | 51=>148 | n=>n,fun | 1=>0 | 3=>2 | 4=>3 | n=>n⟩
theorem Tryd.laySplit:Go.Proofs.LaysM.n146 Tryd.prog Tryd.laySplit_ren:={
 mixed:=by kernel_rfl
 f138:=Tryd.func77.trans (congrArg some (by kernel_rfl))
 f143:=Tryd.func78.trans (congrArg some (by kernel_rfl))
 f146:=Tryd.func35.trans (congrArg some (by kernel_rfl))
 f195:=Tryd.func92.trans (congrArg some (by kernel_rfl))
 f197:=Tryd.func93.trans (congrArg some (by kernel_rfl))
 f217:=Tryd.func108.trans (congrArg some (by kernel_rfl))
 f218:=Tryd.func94.trans (congrArg some (by kernel_rfl))
 f219:=Tryd.func95.trans (congrArg some (by kernel_rfl))
 f221:=Tryd.func61.trans (congrArg some (by kernel_rfl))
 f224:=Tryd.func110.trans (congrArg some (by kernel_rfl))
 f225:=Tryd.func109.trans (congrArg some (by kernel_rfl))
 f260:=Tryd.func107.trans (congrArg some (by kernel_rfl))
 f266:=Tryd.func119.trans (congrArg some (by kernel_rfl))
 f267:=Tryd.func111.trans (congrArg some (by kernel_rfl))
 f268:=Tryd.func76.trans (congrArg some (by kernel_rfl))
 f314:=Tryd.func120.trans (congrArg some (by kernel_rfl))
 t0:=Tryd.underlying0
 a0:=Tryd.isAgg0
 z0:=Tryd.sizeOf0
 v0:=Tryd.zeroValue0
 t3:=Tryd.underlying3
 a3:=Tryd.isAgg3
 z3:=Tryd.sizeOf3
 v3:=Tryd.zeroValue3
 t4:=Tryd.underlying4
 a4:=Tryd.isAgg4
 z4:=Tryd.sizeOf4
 v4:=Tryd.zeroValue4
 t5:=Tryd.underlying5
 a5:=Tryd.isAgg5
 z5:=Tryd.sizeOf5
 v5:=Tryd.zeroValue5
 t9:=Tryd.underlying9
 a9:=Tryd.isAgg9
 z9:=Tryd.sizeOf9
 v9:=Tryd.zeroValue9
 t21:=Tryd.underlying21
 a21:=Tryd.isAgg21
 z21:=Tryd.sizeOf21
 v21:=Tryd.zeroValue21
 t31:=Tryd.underlying22
 a31:=Tryd.isAgg22
 z31:=Tryd.sizeOf22
 v31:=Tryd.zeroValue22
 t46:=Tryd.underlying145
 a46:=Tryd.isAgg145
 z46:=Tryd.sizeOf145
 v46:=Tryd.zeroValue145
 t51:=Tryd.underlying148
 a51:=Tryd.isAgg148
 z51:=Tryd.sizeOf148
 v51:=Tryd.zeroValue148
 t105:=Tryd.underlying122
 a105:=Tryd.isAgg122
 z105:=Tryd.sizeOf122
 v105:=Tryd.zeroValue122
 t119:=Tryd.underlying153
 a119:=Tryd.isAgg153
 z119:=Tryd.sizeOf153
 t138:=Tryd.underlying155
 a138:=Tryd.isAgg155
 z138:=Tryd.sizeOf155
 v138:=Tryd.zeroValue155
 t139:=Tryd.underlying156
 a139:=Tryd.isAgg156
 z139:=Tryd.sizeOf156
 v139:=Tryd.zeroValue156
 t146:=Tryd.underlying157
 a146:=Tryd.isAgg157
 z146:=Tryd.sizeOf157
 v146:=Tryd.zeroValue157
 g1:=by kernel_rfl
 g3:=by kernel_rfl
 g4:=by kernel_rfl
 i0:=by kernel_rfl
 i3:=by kernel_rfl
 i4:=by kernel_rfl
 i5:=by kernel_rfl
 i9:=by kernel_rfl
 i21:=by kernel_rfl
 i31:=by kernel_rfl
 i46:=by kernel_rfl
 i51:=by kernel_rfl
 i105:=by kernel_rfl
 i138:=by kernel_rfl
 i139:=by kernel_rfl
 i146:=by kernel_rfl
 m1:=by kernel_rfl
 s1_3:=fun w h=>Go.Proofs.cell_of_shapedOpen_int (zero:=#[.int .i64 0]) (t:=3) h (of_decide_eq_true (by kernel_rfl)) (by kernel_rfl) rfl (by kernel_rfl) (by kernel_rfl) Tryd.underlying3
 m3:=by kernel_rfl
 m4:=by kernel_rfl }
end Go.Proofs
namespace Go.Dx
open Go.Proofs
theorem splitok35 {W0:World} (hE:Enters Tryd.prog 35) (hM:∃m,W0.cell? ⟨0,0,none⟩=some (.int .i64 m)):Contract Tryd.prog W0 35 { ins:=[.v .str .z,.v .str .z],outs:=[(.list .str,.o .z)],F:=fun t=>splitS t.1 t.2.1 }:=
 split_contract hE (fun s sep m w hs hm h1=>Any.strings_Split { Tryd.laySplit with } Tryd.laySplit.i9 s sep m w hs hm h1) hM
end Go.Dx
