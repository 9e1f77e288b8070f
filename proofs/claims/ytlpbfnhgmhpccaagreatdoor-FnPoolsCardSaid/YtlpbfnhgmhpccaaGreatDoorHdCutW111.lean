/- A function of the library, walked -/
import Derived.Shelf.LaysM
import Derived.Shelf.Strings.Cut
import Derived.Test.YtlpbfnhgmhpccaaGreatDoorProg
import Derived.KernelRfl
import Derived.Test.YtlpbfnhgmhpccaaGreatDoorDxd
set_option linter.unusedVariables false
set_option linter.unusedSimpArgs false
namespace Go.Proofs
open Go.Shelf
def Tryz.layCut_ren:Go.Shelf.Ren:=⟨fun | 145=>111 | 220=>161 | 219=>210 | 217=>239 | 225=>240 | 224=>241 | 267=>242 | 266=>269 | 314=>270 | n=>n,fun | 9=>9 | 4=>4 | 59=>174 | 3=>3 | 5=>5 | 46=>276 | 146=>324 | 51=>316 | n=>n,fun | 1=>0 | n=>n⟩
theorem Tryz.layCut:Go.Proofs.LaysM.n145 Tryz.prog Tryz.layCut_ren:={
 mixed:=by kernel_rfl
 f145:=Tryz.func111.trans (congrArg some (by kernel_rfl))
 f217:=Tryz.func239.trans (congrArg some (by kernel_rfl))
 f219:=Tryz.func210.trans (congrArg some (by kernel_rfl))
 f220:=Tryz.func161.trans (congrArg some (by kernel_rfl))
 f224:=Tryz.func241.trans (congrArg some (by kernel_rfl))
 f225:=Tryz.func240.trans (congrArg some (by kernel_rfl))
 f266:=Tryz.func269.trans (congrArg some (by kernel_rfl))
 f267:=Tryz.func242.trans (congrArg some (by kernel_rfl))
 f314:=Tryz.func270.trans (congrArg some (by kernel_rfl))
 t3:=Tryz.underlying3
 a3:=Tryz.isAgg3
 z3:=Tryz.sizeOf3
 v3:=Tryz.zeroValue3
 t4:=Tryz.underlying4
 a4:=Tryz.isAgg4
 z4:=Tryz.sizeOf4
 v4:=Tryz.zeroValue4
 t5:=Tryz.underlying5
 a5:=Tryz.isAgg5
 z5:=Tryz.sizeOf5
 v5:=Tryz.zeroValue5
 t9:=Tryz.underlying9
 a9:=Tryz.isAgg9
 z9:=Tryz.sizeOf9
 v9:=Tryz.zeroValue9
 t46:=Tryz.underlying276
 a46:=Tryz.isAgg276
 z46:=Tryz.sizeOf276
 v46:=Tryz.zeroValue276
 t51:=Tryz.underlying316
 a51:=Tryz.isAgg316
 z51:=Tryz.sizeOf316
 v51:=Tryz.zeroValue316
 t59:=Tryz.underlying174
 a59:=Tryz.isAgg174
 z59:=Tryz.sizeOf174
 v59:=Tryz.zeroValue174
 t146:=Tryz.underlying324
 a146:=Tryz.isAgg324
 z146:=Tryz.sizeOf324
 v146:=Tryz.zeroValue324
 g1:=by kernel_rfl
 i3:=by kernel_rfl
 i4:=by kernel_rfl
 i5:=by kernel_rfl
 i9:=by kernel_rfl
 i46:=by kernel_rfl
 i51:=by kernel_rfl
 i59:=by kernel_rfl
 i146:=by kernel_rfl
 m1:=by kernel_rfl
 s1_3:=fun w h=>Go.Proofs.cell_of_shapedOpen_int (zero:=#[.int .i64 0]) (t:=3) h (of_decide_eq_true (by kernel_rfl)) (by kernel_rfl) rfl (by kernel_rfl) (by kernel_rfl) Tryz.underlying3 }
end Go.Proofs
namespace Go.Dx
open Go.Proofs
theorem QDe {W0:World} (hE:Enters Tryz.prog 111) (hM:∃m,W0.cell? ⟨0,0,none⟩=some (.int .i64 m)):Contract Tryz.prog W0 111 { ins:=[.v .str .z,.v .str .z],outs:=[(.str,.z),(.str,.z),(.bool,.z)],F:=fun t=>cutS t.1 t.2.1 }:=
 Qyc hE (fun s sep m w hs hm=>Any.strings_Cut { Tryz.layCut with } s sep m w hs hm) hM
end Go.Dx
