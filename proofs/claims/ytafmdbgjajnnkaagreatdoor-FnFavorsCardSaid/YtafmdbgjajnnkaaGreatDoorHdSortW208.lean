/- A function of the library, walked -/
import Derived.Test.YtafmdbgjajnnkaaGreatDoorProg
import Derived.KernelRfl
import Derived.Test.YtafmdbgjajnnkaaGreatDoorDxs
set_option linter.unusedVariables false
set_option linter.unusedSimpArgs false
namespace Go.Proofs
open Go.Shelf
def Tryz.sort208_ren:Go.Shelf.Ren:=⟨fun | 6=>208 | 15=>239 | 14=>238 | 28=>272 | 29=>273 | 20=>264 | 21=>265 | 22=>266 | 23=>267 | 24=>268 | 25=>269 | 26=>270 | 27=>271 | 46=>290 | 47=>291 | 48=>292 | 49=>293 | 50=>294 | 57=>300 | n=>n,fun | 22=>28 | 24=>121 | 25=>268 | 3=>3 | 39=>280 | 0=>0 | 53=>324 | 55=>300 | 4=>4 | 46=>318 | 45=>317 | 50=>189 | 5=>5 | 9=>9 | 66=>338 | 70=>342 | 76=>353 | 77=>354 | n=>n,fun | n=>n⟩
theorem Tryz.sort208:Go.Proofs.SlLaysF0.n6 Tryz.prog Tryz.sort208_ren:={
 mixed:=by kernel_rfl
 f6:=⟨Tryz.f208.name,by decide,Tryz.func208.trans (congrArg some (by kernel_rfl))⟩
 f14:=⟨Tryz.f238.name,by decide,Tryz.func238.trans (congrArg some (by kernel_rfl))⟩
 f15:=Tryz.func239.trans (congrArg some (by kernel_rfl))
 f20:=⟨Tryz.f264.name,by decide,Tryz.func264.trans (congrArg some (by kernel_rfl))⟩
 f21:=⟨Tryz.f265.name,by decide,Tryz.func265.trans (congrArg some (by kernel_rfl))⟩
 f22:=⟨Tryz.f266.name,by decide,Tryz.func266.trans (congrArg some (by kernel_rfl))⟩
 f23:=⟨Tryz.f267.name,by decide,Tryz.func267.trans (congrArg some (by kernel_rfl))⟩
 f24:=⟨Tryz.f268.name,by decide,Tryz.func268.trans (congrArg some (by kernel_rfl))⟩
 f25:=⟨Tryz.f269.name,by decide,Tryz.func269.trans (congrArg some (by kernel_rfl))⟩
 f26:=⟨Tryz.f270.name,by decide,Tryz.func270.trans (congrArg some (by kernel_rfl))⟩
 f27:=⟨Tryz.f271.name,by decide,Tryz.func271.trans (congrArg some (by kernel_rfl))⟩
 f28:=Tryz.func272.trans (congrArg some (by kernel_rfl))
 f29:=Tryz.func273.trans (congrArg some (by kernel_rfl))
 f46:=⟨Tryz.f290.name,by decide,Tryz.func290.trans (congrArg some (by kernel_rfl))⟩
 f47:=Tryz.func291.trans (congrArg some (by kernel_rfl))
 f48:=Tryz.func292.trans (congrArg some (by kernel_rfl))
 f49:=⟨Tryz.f293.name,by decide,Tryz.func293.trans (congrArg some (by kernel_rfl))⟩
 f50:=⟨Tryz.f294.name,by decide,Tryz.func294.trans (congrArg some (by kernel_rfl))⟩
 f57:=⟨Tryz.f300.name,by decide,Tryz.func300.trans (congrArg some (by kernel_rfl))⟩
 t0:=Tryz.underlying0
 a0:=Tryz.isAgg0
 z0:=Tryz.sizeOf0
 v0:=Tryz.zeroValue0
 t3:=Tryz.underlying3
 a3:=Tryz.isAgg3
 z3:=Tryz.sizeOf3
 v3:=Tryz.zeroValue3
 t4:=Tryz.underlying4
 a4:=Tryz.isAgg4
 z4:=Tryz.sizeOf4
 v4:=Tryz.zeroValue4
 t5:=Tryz.underlying5
 a5:=Tryz.isAgg5
 z5:=Tryz.sizeOf5
 v5:=Tryz.zeroValue5
 t9:=Tryz.underlying9
 a9:=Tryz.isAgg9
 z9:=Tryz.sizeOf9
 v9:=Tryz.zeroValue9
 t22:=Tryz.underlying28
 a22:=Tryz.isAgg28
 z22:=Tryz.sizeOf28
 v22:=Tryz.zeroValue28
 t25:=Tryz.underlying268
 a25:=Tryz.isAgg268
 z25:=Tryz.sizeOf268
 v25:=Tryz.zeroValue268
 t39:=Tryz.underlying280
 a39:=Tryz.isAgg280
 z39:=Tryz.sizeOf280
 v39:=Tryz.zeroValue280
 t45:=Tryz.underlying317
 a45:=Tryz.isAgg317
 z45:=Tryz.sizeOf317
 v45:=Tryz.zeroValue317
 t46:=Tryz.underlying318
 a46:=Tryz.isAgg318
 z46:=Tryz.sizeOf318
 v46:=Tryz.zeroValue318
 t50:=Tryz.underlying189
 a50:=Tryz.isAgg189
 z50:=Tryz.sizeOf189
 v50:=Tryz.zeroValue189
 t53:=Tryz.underlying324
 a53:=Tryz.isAgg324
 z53:=Tryz.sizeOf324
 v53:=Tryz.zeroValue324
 t55:=Tryz.underlying300
 a55:=Tryz.isAgg300
 z55:=Tryz.sizeOf300
 v55:=Tryz.zeroValue300
 t66:=Tryz.underlying338
 a66:=Tryz.isAgg338
 z66:=Tryz.sizeOf338
 v66:=Tryz.zeroValue338
 t70:=Tryz.underlying342
 a70:=Tryz.isAgg342
 z70:=Tryz.sizeOf342
 v70:=Tryz.zeroValue342
 t76:=Tryz.underlying353
 a76:=Tryz.isAgg353
 z76:=Tryz.sizeOf353
 v76:=Tryz.zeroValue353
 t77:=Tryz.underlying354
 a77:=Tryz.isAgg354
 z77:=Tryz.sizeOf354
 v77:=Tryz.zeroValue354 }
end Go.Proofs
namespace Go.Dx
open Go.Proofs
theorem QBm {W0:World} (hE:Enters Tryz.prog 208):Contract Tryz.prog W0 208 { ins:=[.mu (.list (.prod (.prod (.int .i64) (.int .i64)) (.prod (.prod (.int .i64) (.prod (.list (.int .i64)) (.prod (.int .i64) (.int .i64)))) (.prod (.int .i64) .bool)))) (.o (.p .z (.p (.p .z (.p (.o .z) .z)) .z))) (.o (.p .z (.p (.p .z (.p (.o .z) .z)) .z))),.v (.fn2 (.prod (.prod (.int .i64) (.int .i64)) (.prod (.prod (.int .i64) (.prod (.list (.int .i64)) (.prod (.int .i64) (.int .i64)))) (.prod (.int .i64) .bool))) (.prod (.prod (.int .i64) (.int .i64)) (.prod (.prod (.int .i64) (.prod (.list (.int .i64)) (.prod (.int .i64) (.int .i64)))) (.prod (.int .i64) .bool))) (.int .i64)) .z],outs:=[],F:=fun t=>Qk8 t.1 t.2.1 }:=
 QwB (f:=(.p .z (.p (.p .z (.p (.o .z) .z)) .z))) rfl hE (fun p cap fv w=>AnyF.slices_SortFunc_none { Tryz.sort208 with } p cap fv w)
  (fun α _ enc hk h1 cf hO g cb blk off cap d w eg hcmp hH hblk hsz=>AnyQ.slices_SortFunc Tryz.sort208 8 Tryz.isAgg121 Tryz.sizeOf121 enc hk h1 cf hO g cb blk off cap d w eg hcmp hH hblk hsz)
end Go.Dx
