/- A function of the library, walked -/
import Derived.Shelf.LaysM
import Derived.Shelf.Strings.Cut
import Derived.Test.YtmklfdnhndakcaaGreatDoorProg
import Derived.KernelRfl
import Derived.Test.YtmklfdnhndakcaaGreatDoorDxd
set_option linter.unusedVariables false
set_option linter.unusedSimpArgs false
namespace Go.Proofs
open Go.Shelf
def Tryz.layCut_ren:Go.Shelf.Ren:=⟨fun | 145=>319 | 220=>358 | 219=>308 | 217=>343 | 225=>344 | 224=>345 | 267=>346 | 266=>377 | 314=>378 | n=>n,fun | 9=>9 | 4=>4 | 59=>362 | 3=>3 | 5=>5 | 46=>229 | 146=>411 | 51=>404 | n=>n,fun | 1=>0 | n=>n⟩
theorem Tryz.layCut:Go.Proofs.LaysM.n145 Tryz.prog Tryz.layCut_ren:={
 mixed:=by kernel_rfl
 f145:=Tryz.func319.trans (congrArg some (by kernel_rfl))
 f217:=Tryz.func343.trans (congrArg some (by kernel_rfl))
 f219:=Tryz.func308.trans (congrArg some (by kernel_rfl))
 f220:=Tryz.func358.trans (congrArg some (by kernel_rfl))
 f224:=Tryz.func345.trans (congrArg some (by kernel_rfl))
 f225:=Tryz.func344.trans (congrArg some (by kernel_rfl))
 f266:=Tryz.func377.trans (congrArg some (by kernel_rfl))
 f267:=Tryz.func346.trans (congrArg some (by kernel_rfl))
 f314:=Tryz.func378.trans (congrArg some (by kernel_rfl))
 t3:=Tryz.underlying3
 a3:=Tryz.isAgg3
 z3:=Tryz.sizeOf3
 v3:=Tryz.zeroValue3
 t4:=Tryz.underlying4
 a4:=Tryz.isAgg4
 z4:=Tryz.sizeOf4
 v4:=Tryz.zeroValue4
 t5:=Tryz.underlying5
 a5:=Tryz.isAgg5
 z5:=Tryz.sizeOf5
 v5:=Tryz.zeroValue5
 t9:=Tryz.underlying9
 a9:=Tryz.isAgg9
 z9:=Tryz.sizeOf9
 v9:=Tryz.zeroValue9
 t46:=Tryz.underlying229
 a46:=Tryz.isAgg229
 z46:=Tryz.sizeOf229
 v46:=Tryz.zeroValue229
 t51:=Tryz.underlying404
 a51:=Tryz.isAgg404
 z51:=Tryz.sizeOf404
 v51:=Tryz.zeroValue404
 t59:=Tryz.underlying362
 a59:=Tryz.isAgg362
 z59:=Tryz.sizeOf362
 v59:=Tryz.zeroValue362
 t146:=Tryz.underlying411
 a146:=Tryz.isAgg411
 z146:=Tryz.sizeOf411
 v146:=Tryz.zeroValue411
 g1:=by kernel_rfl
 i3:=by kernel_rfl
 i4:=by kernel_rfl
 i5:=by kernel_rfl
 i9:=by kernel_rfl
 i46:=by kernel_rfl
 i51:=by kernel_rfl
 i59:=by kernel_rfl
 i146:=by kernel_rfl
 m1:=by kernel_rfl
 s1_3:=fun w h=>Go.Proofs.cell_of_shapedOpen_int (zero:=#[.int .i64 0]) (t:=3) h (of_decide_eq_true (by kernel_rfl)) (by kernel_rfl) rfl (by kernel_rfl) (by kernel_rfl) Tryz.underlying3 }
end Go.Proofs
namespace Go.Dx
open Go.Proofs
theorem Qu4 {W0:World} (hE:Enters Tryz.prog 319) (hM:∃m,W0.cell? ⟨0,0,none⟩=some (.int .i64 m)):Contract Tryz.prog W0 319 { ins:=[.v .str .z,.v .str .z],outs:=[(.str,.z),(.str,.z),(.bool,.z)],F:=fun t=>cutS t.1 t.2.1 }:=
 QpJ hE (fun s sep m w hs hm=>Any.strings_Cut { Tryz.layCut with } s sep m w hs hm) hM
end Go.Dx
