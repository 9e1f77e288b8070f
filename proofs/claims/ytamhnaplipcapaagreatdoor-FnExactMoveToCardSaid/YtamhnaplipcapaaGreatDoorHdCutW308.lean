/- A function of the library, walked -/
import Derived.Shelf.LaysM
import Derived.Shelf.Strings.Cut
import Derived.Test.YtamhnaplipcapaaGreatDoorProg
import Derived.KernelRfl
import Derived.Test.YtamhnaplipcapaaGreatDoorDxd
set_option linter.unusedVariables false
set_option linter.unusedSimpArgs false
namespace Go.Proofs
open Go.Shelf
def Tryz.layCut_ren:Go.Shelf.Ren:=⟨fun | 145=>308 | 220=>342 | 219=>320 | 217=>349 | 225=>350 | 224=>351 | 267=>352 | 266=>376 | 314=>377 | n=>n,fun | 9=>9 | 4=>4 | 59=>347 | 3=>3 | 5=>5 | 46=>232 | 146=>411 | 51=>406 | n=>n,fun | 1=>0 | n=>n⟩
theorem Tryz.layCut:Go.Proofs.LaysM.n145 Tryz.prog Tryz.layCut_ren:={
 mixed:=by kernel_rfl
 f145:=Tryz.func308.trans (congrArg some (by kernel_rfl))
 f217:=Tryz.func349.trans (congrArg some (by kernel_rfl))
 f219:=Tryz.func320.trans (congrArg some (by kernel_rfl))
 f220:=Tryz.func342.trans (congrArg some (by kernel_rfl))
 f224:=Tryz.func351.trans (congrArg some (by kernel_rfl))
 f225:=Tryz.func350.trans (congrArg some (by kernel_rfl))
 f266:=Tryz.func376.trans (congrArg some (by kernel_rfl))
 f267:=Tryz.func352.trans (congrArg some (by kernel_rfl))
 f314:=Tryz.func377.trans (congrArg some (by kernel_rfl))
 t3:=Tryz.underlying3
 a3:=Tryz.isAgg3
 z3:=Tryz.sizeOf3
 v3:=Tryz.zeroValue3
 t4:=Tryz.underlying4
 a4:=Tryz.isAgg4
 z4:=Tryz.sizeOf4
 v4:=Tryz.zeroValue4
 t5:=Tryz.underlying5
 a5:=Tryz.isAgg5
 z5:=Tryz.sizeOf5
 v5:=Tryz.zeroValue5
 t9:=Tryz.underlying9
 a9:=Tryz.isAgg9
 z9:=Tryz.sizeOf9
 v9:=Tryz.zeroValue9
 t46:=Tryz.underlying232
 a46:=Tryz.isAgg232
 z46:=Tryz.sizeOf232
 v46:=Tryz.zeroValue232
 t51:=Tryz.underlying406
 a51:=Tryz.isAgg406
 z51:=Tryz.sizeOf406
 v51:=Tryz.zeroValue406
 t59:=Tryz.underlying347
 a59:=Tryz.isAgg347
 z59:=Tryz.sizeOf347
 v59:=Tryz.zeroValue347
 t146:=Tryz.underlying411
 a146:=Tryz.isAgg411
 z146:=Tryz.sizeOf411
 v146:=Tryz.zeroValue411
 g1:=by kernel_rfl
 i3:=by kernel_rfl
 i4:=by kernel_rfl
 i5:=by kernel_rfl
 i9:=by kernel_rfl
 i46:=by kernel_rfl
 i51:=by kernel_rfl
 i59:=by kernel_rfl
 i146:=by kernel_rfl
 m1:=by kernel_rfl
 s1_3:=fun w h=>Go.Proofs.cell_of_shapedOpen_int (zero:=#[.int .i64 0]) (t:=3) h (of_decide_eq_true (by kernel_rfl)) (by kernel_rfl) rfl (by kernel_rfl) (by kernel_rfl) Tryz.underlying3 }
end Go.Proofs
namespace Go.Dx
open Go.Proofs
theorem QuW {W0:World} (hE:Enters Tryz.prog 308) (hM:∃m,W0.cell? ⟨0,0,none⟩=some (.int .i64 m)):Contract Tryz.prog W0 308 { ins:=[.v .str .z,.v .str .z],outs:=[(.str,.z),(.str,.z),(.bool,.z)],F:=fun t=>cutS t.1 t.2.1 }:=
 Qpv hE (fun s sep m w hs hm=>Any.strings_Cut { Tryz.layCut with } s sep m w hs hm) hM
end Go.Dx
