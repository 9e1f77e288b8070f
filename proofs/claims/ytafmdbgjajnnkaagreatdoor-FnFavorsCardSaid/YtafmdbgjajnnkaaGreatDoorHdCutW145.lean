/- A function of the library, walked -/
import Derived.Shelf.LaysM
import Derived.Shelf.Strings.Cut
import Derived.Test.YtafmdbgjajnnkaaGreatDoorProg
import Derived.KernelRfl
import Derived.Test.YtafmdbgjajnnkaaGreatDoorDxd
set_option linter.unusedVariables false
set_option linter.unusedSimpArgs false
namespace Go.Proofs
open Go.Shelf
def Tryz.layCut_ren:Go.Shelf.Ren:=⟨fun | 145=>145 | 220=>195 | 219=>232 | 217=>254 | 225=>255 | 224=>256 | 267=>257 | 266=>284 | 314=>285 | n=>n,fun | 9=>9 | 4=>4 | 59=>198 | 3=>3 | 5=>5 | 46=>280 | 146=>333 | 51=>324 | n=>n,fun | 1=>0 | n=>n⟩
theorem Tryz.layCut:Go.Proofs.LaysM.n145 Tryz.prog Tryz.layCut_ren:={
 mixed:=by kernel_rfl
 f145:=Tryz.func145.trans (congrArg some (by kernel_rfl))
 f217:=Tryz.func254.trans (congrArg some (by kernel_rfl))
 f219:=Tryz.func232.trans (congrArg some (by kernel_rfl))
 f220:=Tryz.func195.trans (congrArg some (by kernel_rfl))
 f224:=Tryz.func256.trans (congrArg some (by kernel_rfl))
 f225:=Tryz.func255.trans (congrArg some (by kernel_rfl))
 f266:=Tryz.func284.trans (congrArg some (by kernel_rfl))
 f267:=Tryz.func257.trans (congrArg some (by kernel_rfl))
 f314:=Tryz.func285.trans (congrArg some (by kernel_rfl))
 t3:=Tryz.underlying3
 a3:=Tryz.isAgg3
 z3:=Tryz.sizeOf3
 v3:=Tryz.zeroValue3
 t4:=Tryz.underlying4
 a4:=Tryz.isAgg4
 z4:=Tryz.sizeOf4
 v4:=Tryz.zeroValue4
 t5:=Tryz.underlying5
 a5:=Tryz.isAgg5
 z5:=Tryz.sizeOf5
 v5:=Tryz.zeroValue5
 t9:=Tryz.underlying9
 a9:=Tryz.isAgg9
 z9:=Tryz.sizeOf9
 v9:=Tryz.zeroValue9
 t46:=Tryz.underlying280
 a46:=Tryz.isAgg280
 z46:=Tryz.sizeOf280
 v46:=Tryz.zeroValue280
 t51:=Tryz.underlying324
 a51:=Tryz.isAgg324
 z51:=Tryz.sizeOf324
 v51:=Tryz.zeroValue324
 t59:=Tryz.underlying198
 a59:=Tryz.isAgg198
 z59:=Tryz.sizeOf198
 v59:=Tryz.zeroValue198
 t146:=Tryz.underlying333
 a146:=Tryz.isAgg333
 z146:=Tryz.sizeOf333
 v146:=Tryz.zeroValue333
 g1:=by kernel_rfl
 i3:=by kernel_rfl
 i4:=by kernel_rfl
 i5:=by kernel_rfl
 i9:=by kernel_rfl
 i46:=by kernel_rfl
 i51:=by kernel_rfl
 i59:=by kernel_rfl
 i146:=by kernel_rfl
 m1:=by kernel_rfl
 s1_3:=fun w h=>Go.Proofs.cell_of_shapedOpen_int (zero:=#[.int .i64 0]) (t:=3) h (of_decide_eq_true (by kernel_rfl)) (by kernel_rfl) rfl (by kernel_rfl) (by kernel_rfl) Tryz.underlying3 }
end Go.Proofs
namespace Go.Dx
open Go.Proofs
theorem QDe {W0:World} (hE:Enters Tryz.prog 145) (hM:∃m,W0.cell? ⟨0,0,none⟩=some (.int .i64 m)):Contract Tryz.prog W0 145 { ins:=[.v .str .z,.v .str .z],outs:=[(.str,.z),(.str,.z),(.bool,.z)],F:=fun t=>cutS t.1 t.2.1 }:=
 QxX hE (fun s sep m w hs hm=>Any.strings_Cut { Tryz.layCut with } s sep m w hs hm) hM
end Go.Dx
