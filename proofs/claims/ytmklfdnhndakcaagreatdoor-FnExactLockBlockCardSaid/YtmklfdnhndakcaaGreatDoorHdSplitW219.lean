/- A function of the library, walked -/
import Derived.Shelf.LaysM
import Derived.Shelf.Strings.Split
import Derived.Test.YtmklfdnhndakcaaGreatDoorProg
import Derived.KernelRfl
import Derived.Test.YtmklfdnhndakcaaGreatDoorDxd
set_option linter.unusedVariables false
set_option linter.unusedSimpArgs false
namespace Go.Proofs
open Go.Shelf
def Tryz.laySplit_ren:Go.Shelf.Ren:=⟨fun | 146=>219 | 221=>243 | 268=>267 | 138=>268 | 143=>269 | 195=>305 | 197=>306 | 218=>307 | 219=>308 | 260=>342 | 217=>343 | 225=>344 | 224=>345 | 267=>346 | 266=>377 | 314=>378 | n=>n,fun | 9=>9 | 31=>22 | 3=>3 | 4=>4 | 0=>0 | 105=>344 | 21=>21 | 5=>5 | 46=>229 | 119=>407 | 139=>410 | 138=>409 | 146=>411 | 51=>404 | n=>n,fun | 1=>0 | 3=>3 | 4=>4 | n=>n⟩
theorem Tryz.laySplit:Go.Proofs.LaysM.n146 Tryz.prog Tryz.laySplit_ren:={
 mixed:=by kernel_rfl
 f138:=Tryz.func268.trans (congrArg some (by kernel_rfl))
 f143:=Tryz.func269.trans (congrArg some (by kernel_rfl))
 f146:=Tryz.func219.trans (congrArg some (by kernel_rfl))
 f195:=Tryz.func305.trans (congrArg some (by kernel_rfl))
 f197:=Tryz.func306.trans (congrArg some (by kernel_rfl))
 f217:=Tryz.func343.trans (congrArg some (by kernel_rfl))
 f218:=Tryz.func307.trans (congrArg some (by kernel_rfl))
 f219:=Tryz.func308.trans (congrArg some (by kernel_rfl))
 f221:=Tryz.func243.trans (congrArg some (by kernel_rfl))
 f224:=Tryz.func345.trans (congrArg some (by kernel_rfl))
 f225:=Tryz.func344.trans (congrArg some (by kernel_rfl))
 f260:=Tryz.func342.trans (congrArg some (by kernel_rfl))
 f266:=Tryz.func377.trans (congrArg some (by kernel_rfl))
 f267:=Tryz.func346.trans (congrArg some (by kernel_rfl))
 f268:=Tryz.func267.trans (congrArg some (by kernel_rfl))
 f314:=Tryz.func378.trans (congrArg some (by kernel_rfl))
 t0:=Tryz.underlying0
 a0:=Tryz.isAgg0
 z0:=Tryz.sizeOf0
 v0:=Tryz.zeroValue0
 t3:=Tryz.underlying3
 a3:=Tryz.isAgg3
 z3:=Tryz.sizeOf3
 v3:=Tryz.zeroValue3
 t4:=Tryz.underlying4
 a4:=Tryz.isAgg4
 z4:=Tryz.sizeOf4
 v4:=Tryz.zeroValue4
 t5:=Tryz.underlying5
 a5:=Tryz.isAgg5
 z5:=Tryz.sizeOf5
 v5:=Tryz.zeroValue5
 t9:=Tryz.underlying9
 a9:=Tryz.isAgg9
 z9:=Tryz.sizeOf9
 v9:=Tryz.zeroValue9
 t21:=Tryz.underlying21
 a21:=Tryz.isAgg21
 z21:=Tryz.sizeOf21
 v21:=Tryz.zeroValue21
 t31:=Tryz.underlying22
 a31:=Tryz.isAgg22
 z31:=Tryz.sizeOf22
 v31:=Tryz.zeroValue22
 t46:=Tryz.underlying229
 a46:=Tryz.isAgg229
 z46:=Tryz.sizeOf229
 v46:=Tryz.zeroValue229
 t51:=Tryz.underlying404
 a51:=Tryz.isAgg404
 z51:=Tryz.sizeOf404
 v51:=Tryz.zeroValue404
 t105:=Tryz.underlying344
 a105:=Tryz.isAgg344
 z105:=Tryz.sizeOf344
 v105:=Tryz.zeroValue344
 t119:=Tryz.underlying407
 a119:=Tryz.isAgg407
 z119:=Tryz.sizeOf407
 t138:=Tryz.underlying409
 a138:=Tryz.isAgg409
 z138:=Tryz.sizeOf409
 v138:=Tryz.zeroValue409
 t139:=Tryz.underlying410
 a139:=Tryz.isAgg410
 z139:=Tryz.sizeOf410
 v139:=Tryz.zeroValue410
 t146:=Tryz.underlying411
 a146:=Tryz.isAgg411
 z146:=Tryz.sizeOf411
 v146:=Tryz.zeroValue411
 g1:=by kernel_rfl
 g3:=by kernel_rfl
 g4:=by kernel_rfl
 i0:=by kernel_rfl
 i3:=by kernel_rfl
 i4:=by kernel_rfl
 i5:=by kernel_rfl
 i9:=by kernel_rfl
 i21:=by kernel_rfl
 i31:=by kernel_rfl
 i46:=by kernel_rfl
 i51:=by kernel_rfl
 i105:=by kernel_rfl
 i138:=by kernel_rfl
 i139:=by kernel_rfl
 i146:=by kernel_rfl
 m1:=by kernel_rfl
 s1_3:=fun w h=>Go.Proofs.cell_of_shapedOpen_int (zero:=#[.int .i64 0]) (t:=3) h (of_decide_eq_true (by kernel_rfl)) (by kernel_rfl) rfl (by kernel_rfl) (by kernel_rfl) Tryz.underlying3
 m3:=by kernel_rfl
 m4:=by kernel_rfl }
end Go.Proofs
namespace Go.Dx
open Go.Proofs
theorem QrY {W0:World} (hE:Enters Tryz.prog 219) (hM:∃m,W0.cell? ⟨0,0,none⟩=some (.int .i64 m)):Contract Tryz.prog W0 219 { ins:=[.v .str .z,.v .str .z],outs:=[(.list .str,.o .z)],F:=fun t=>QgD t.1 t.2.1 }:=
 QnD hE (fun s sep m w hs hm h1=>Any.strings_Split { Tryz.laySplit with } Tryz.laySplit.i9 s sep m w hs hm h1) hM
end Go.Dx
