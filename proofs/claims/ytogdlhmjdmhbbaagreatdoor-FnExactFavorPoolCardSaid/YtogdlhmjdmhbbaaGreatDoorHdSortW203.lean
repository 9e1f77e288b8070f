/- A function of the library, walked -/
import Derived.Test.YtogdlhmjdmhbbaaGreatDoorProg
import Derived.KernelRfl
import Derived.Test.YtogdlhmjdmhbbaaGreatDoorDxs
set_option linter.unusedVariables false
set_option linter.unusedSimpArgs false
namespace Go.Proofs
open Go.Shelf
def Tryz.sort203_ren:Go.Shelf.Ren:=⟨fun | 6=>203 | 15=>229 | 14=>228 | 28=>255 | 29=>256 | 20=>247 | 21=>248 | 22=>249 | 23=>250 | 24=>251 | 25=>252 | 26=>253 | 27=>254 | 46=>275 | 47=>276 | 48=>277 | 49=>278 | 50=>279 | 57=>290 | n=>n,fun | 22=>38 | 24=>137 | 25=>258 | 3=>3 | 39=>277 | 0=>0 | 53=>305 | 55=>289 | 4=>4 | 46=>299 | 45=>298 | 50=>194 | 5=>5 | 9=>9 | 66=>322 | 70=>326 | 76=>335 | 77=>336 | n=>n,fun | n=>n⟩
theorem Tryz.sort203:Go.Proofs.SlLaysF0.n6 Tryz.prog Tryz.sort203_ren:={
 mixed:=by kernel_rfl
 f6:=⟨Tryz.f203.name,by decide,Tryz.func203.trans (congrArg some (by kernel_rfl))⟩
 f14:=⟨Tryz.f228.name,by decide,Tryz.func228.trans (congrArg some (by kernel_rfl))⟩
 f15:=Tryz.func229.trans (congrArg some (by kernel_rfl))
 f20:=⟨Tryz.f247.name,by decide,Tryz.func247.trans (congrArg some (by kernel_rfl))⟩
 f21:=⟨Tryz.f248.name,by decide,Tryz.func248.trans (congrArg some (by kernel_rfl))⟩
 f22:=⟨Tryz.f249.name,by decide,Tryz.func249.trans (congrArg some (by kernel_rfl))⟩
 f23:=⟨Tryz.f250.name,by decide,Tryz.func250.trans (congrArg some (by kernel_rfl))⟩
 f24:=⟨Tryz.f251.name,by decide,Tryz.func251.trans (congrArg some (by kernel_rfl))⟩
 f25:=⟨Tryz.f252.name,by decide,Tryz.func252.trans (congrArg some (by kernel_rfl))⟩
 f26:=⟨Tryz.f253.name,by decide,Tryz.func253.trans (congrArg some (by kernel_rfl))⟩
 f27:=⟨Tryz.f254.name,by decide,Tryz.func254.trans (congrArg some (by kernel_rfl))⟩
 f28:=Tryz.func255.trans (congrArg some (by kernel_rfl))
 f29:=Tryz.func256.trans (congrArg some (by kernel_rfl))
 f46:=⟨Tryz.f275.name,by decide,Tryz.func275.trans (congrArg some (by kernel_rfl))⟩
 f47:=Tryz.func276.trans (congrArg some (by kernel_rfl))
 f48:=Tryz.func277.trans (congrArg some (by kernel_rfl))
 f49:=⟨Tryz.f278.name,by decide,Tryz.func278.trans (congrArg some (by kernel_rfl))⟩
 f50:=⟨Tryz.f279.name,by decide,Tryz.func279.trans (congrArg some (by kernel_rfl))⟩
 f57:=⟨Tryz.f290.name,by decide,Tryz.func290.trans (congrArg some (by kernel_rfl))⟩
 t0:=Tryz.underlying0
 a0:=Tryz.isAgg0
 z0:=Tryz.sizeOf0
 v0:=Tryz.zeroValue0
 t3:=Tryz.underlying3
 a3:=Tryz.isAgg3
 z3:=Tryz.sizeOf3
 v3:=Tryz.zeroValue3
 t4:=Tryz.underlying4
 a4:=Tryz.isAgg4
 z4:=Tryz.sizeOf4
 v4:=Tryz.zeroValue4
 t5:=Tryz.underlying5
 a5:=Tryz.isAgg5
 z5:=Tryz.sizeOf5
 v5:=Tryz.zeroValue5
 t9:=Tryz.underlying9
 a9:=Tryz.isAgg9
 z9:=Tryz.sizeOf9
 v9:=Tryz.zeroValue9
 t22:=Tryz.underlying38
 a22:=Tryz.isAgg38
 z22:=Tryz.sizeOf38
 v22:=Tryz.zeroValue38
 t25:=Tryz.underlying258
 a25:=Tryz.isAgg258
 z25:=Tryz.sizeOf258
 v25:=Tryz.zeroValue258
 t39:=Tryz.underlying277
 a39:=Tryz.isAgg277
 z39:=Tryz.sizeOf277
 v39:=Tryz.zeroValue277
 t45:=Tryz.underlying298
 a45:=Tryz.isAgg298
 z45:=Tryz.sizeOf298
 v45:=Tryz.zeroValue298
 t46:=Tryz.underlying299
 a46:=Tryz.isAgg299
 z46:=Tryz.sizeOf299
 v46:=Tryz.zeroValue299
 t50:=Tryz.underlying194
 a50:=Tryz.isAgg194
 z50:=Tryz.sizeOf194
 v50:=Tryz.zeroValue194
 t53:=Tryz.underlying305
 a53:=Tryz.isAgg305
 z53:=Tryz.sizeOf305
 v53:=Tryz.zeroValue305
 t55:=Tryz.underlying289
 a55:=Tryz.isAgg289
 z55:=Tryz.sizeOf289
 v55:=Tryz.zeroValue289
 t66:=Tryz.underlying322
 a66:=Tryz.isAgg322
 z66:=Tryz.sizeOf322
 v66:=Tryz.zeroValue322
 t70:=Tryz.underlying326
 a70:=Tryz.isAgg326
 z70:=Tryz.sizeOf326
 v70:=Tryz.zeroValue326
 t76:=Tryz.underlying335
 a76:=Tryz.isAgg335
 z76:=Tryz.sizeOf335
 v76:=Tryz.zeroValue335
 t77:=Tryz.underlying336
 a77:=Tryz.isAgg336
 z77:=Tryz.sizeOf336
 v77:=Tryz.zeroValue336 }
end Go.Proofs
namespace Go.Dx
open Go.Proofs
theorem QEi {W0:World} (hE:Enters Tryz.prog 203):Contract Tryz.prog W0 203 { ins:=[.mu (.list (.prod (.prod (.int .i64) (.int .i64)) (.prod (.prod (.int .i64) (.prod (.list (.int .i64)) (.prod (.int .i64) (.int .i64)))) (.prod (.int .i64) .bool)))) (.o (.p .z (.p (.p .z (.p (.o .z) .z)) .z))) (.o (.p .z (.p (.p .z (.p (.o .z) .z)) .z))),.v (.fn2 (.prod (.prod (.int .i64) (.int .i64)) (.prod (.prod (.int .i64) (.prod (.list (.int .i64)) (.prod (.int .i64) (.int .i64)))) (.prod (.int .i64) .bool))) (.prod (.prod (.int .i64) (.int .i64)) (.prod (.prod (.int .i64) (.prod (.list (.int .i64)) (.prod (.int .i64) (.int .i64)))) (.prod (.int .i64) .bool))) (.int .i64)) .z],outs:=[],F:=fun t=>Qkh t.1 t.2.1 }:=
 Qw3 (f:=(.p .z (.p (.p .z (.p (.o .z) .z)) .z))) rfl hE (fun p cap fv w=>AnyF.slices_SortFunc_none { Tryz.sort203 with } p cap fv w)
  (fun α _ enc hk h1 cf hO g cb blk off cap d w eg hcmp hH hblk hsz=>AnyQ.slices_SortFunc Tryz.sort203 8 Tryz.isAgg137 Tryz.sizeOf137 enc hk h1 cf hO g cb blk off cap d w eg hcmp hH hblk hsz)
end Go.Dx
