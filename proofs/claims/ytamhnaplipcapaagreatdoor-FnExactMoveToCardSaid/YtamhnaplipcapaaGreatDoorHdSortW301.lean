/- A function of the library, walked -/
import Derived.Test.YtamhnaplipcapaaGreatDoorProg
import Derived.KernelRfl
import Derived.Test.YtamhnaplipcapaaGreatDoorDxs
set_option linter.unusedVariables false
set_option linter.unusedSimpArgs false
namespace Go.Proofs
open Go.Shelf
def Tryz.sort301_ren:Go.Shelf.Ren:=⟨fun | 6=>301 | 15=>340 | 14=>339 | 28=>374 | 29=>375 | 20=>366 | 21=>367 | 22=>368 | 23=>369 | 24=>370 | 25=>371 | 26=>372 | 27=>373 | 46=>386 | 47=>387 | 48=>388 | 49=>389 | 50=>390 | 57=>393 | n=>n,fun | 22=>40 | 24=>182 | 25=>342 | 3=>3 | 39=>232 | 0=>0 | 53=>406 | 55=>361 | 4=>4 | 46=>400 | 45=>399 | 50=>281 | 5=>5 | 9=>9 | 66=>423 | 70=>427 | 76=>429 | 77=>430 | n=>n,fun | n=>n⟩
theorem Tryz.sort301:Go.Proofs.SlLaysF0.n6 Tryz.prog Tryz.sort301_ren:={
 mixed:=by kernel_rfl
 f6:=⟨Tryz.f301.name,by decide,Tryz.func301.trans (congrArg some (by kernel_rfl))⟩
 f14:=⟨Tryz.f339.name,by decide,Tryz.func339.trans (congrArg some (by kernel_rfl))⟩
 f15:=Tryz.func340.trans (congrArg some (by kernel_rfl))
 f20:=⟨Tryz.f366.name,by decide,Tryz.func366.trans (congrArg some (by kernel_rfl))⟩
 f21:=⟨Tryz.f367.name,by decide,Tryz.func367.trans (congrArg some (by kernel_rfl))⟩
 f22:=⟨Tryz.f368.name,by decide,Tryz.func368.trans (congrArg some (by kernel_rfl))⟩
 f23:=⟨Tryz.f369.name,by decide,Tryz.func369.trans (congrArg some (by kernel_rfl))⟩
 f24:=⟨Tryz.f370.name,by decide,Tryz.func370.trans (congrArg some (by kernel_rfl))⟩
 f25:=⟨Tryz.f371.name,by decide,Tryz.func371.trans (congrArg some (by kernel_rfl))⟩
 f26:=⟨Tryz.f372.name,by decide,Tryz.func372.trans (congrArg some (by kernel_rfl))⟩
 f27:=⟨Tryz.f373.name,by decide,Tryz.func373.trans (congrArg some (by kernel_rfl))⟩
 f28:=Tryz.func374.trans (congrArg some (by kernel_rfl))
 f29:=Tryz.func375.trans (congrArg some (by kernel_rfl))
 f46:=⟨Tryz.f386.name,by decide,Tryz.func386.trans (congrArg some (by kernel_rfl))⟩
 f47:=Tryz.func387.trans (congrArg some (by kernel_rfl))
 f48:=Tryz.func388.trans (congrArg some (by kernel_rfl))
 f49:=⟨Tryz.f389.name,by decide,Tryz.func389.trans (congrArg some (by kernel_rfl))⟩
 f50:=⟨Tryz.f390.name,by decide,Tryz.func390.trans (congrArg some (by kernel_rfl))⟩
 f57:=⟨Tryz.f393.name,by decide,Tryz.func393.trans (congrArg some (by kernel_rfl))⟩
 t0:=Tryz.underlying0
 a0:=Tryz.isAgg0
 z0:=Tryz.sizeOf0
 v0:=Tryz.zeroValue0
 t3:=Tryz.underlying3
 a3:=Tryz.isAgg3
 z3:=Tryz.sizeOf3
 v3:=Tryz.zeroValue3
 t4:=Tryz.underlying4
 a4:=Tryz.isAgg4
 z4:=Tryz.sizeOf4
 v4:=Tryz.zeroValue4
 t5:=Tryz.underlying5
 a5:=Tryz.isAgg5
 z5:=Tryz.sizeOf5
 v5:=Tryz.zeroValue5
 t9:=Tryz.underlying9
 a9:=Tryz.isAgg9
 z9:=Tryz.sizeOf9
 v9:=Tryz.zeroValue9
 t22:=Tryz.underlying40
 a22:=Tryz.isAgg40
 z22:=Tryz.sizeOf40
 v22:=Tryz.zeroValue40
 t25:=Tryz.underlying342
 a25:=Tryz.isAgg342
 z25:=Tryz.sizeOf342
 v25:=Tryz.zeroValue342
 t39:=Tryz.underlying232
 a39:=Tryz.isAgg232
 z39:=Tryz.sizeOf232
 v39:=Tryz.zeroValue232
 t45:=Tryz.underlying399
 a45:=Tryz.isAgg399
 z45:=Tryz.sizeOf399
 v45:=Tryz.zeroValue399
 t46:=Tryz.underlying400
 a46:=Tryz.isAgg400
 z46:=Tryz.sizeOf400
 v46:=Tryz.zeroValue400
 t50:=Tryz.underlying281
 a50:=Tryz.isAgg281
 z50:=Tryz.sizeOf281
 v50:=Tryz.zeroValue281
 t53:=Tryz.underlying406
 a53:=Tryz.isAgg406
 z53:=Tryz.sizeOf406
 v53:=Tryz.zeroValue406
 t55:=Tryz.underlying361
 a55:=Tryz.isAgg361
 z55:=Tryz.sizeOf361
 v55:=Tryz.zeroValue361
 t66:=Tryz.underlying423
 a66:=Tryz.isAgg423
 z66:=Tryz.sizeOf423
 v66:=Tryz.zeroValue423
 t70:=Tryz.underlying427
 a70:=Tryz.isAgg427
 z70:=Tryz.sizeOf427
 v70:=Tryz.zeroValue427
 t76:=Tryz.underlying429
 a76:=Tryz.isAgg429
 z76:=Tryz.sizeOf429
 v76:=Tryz.zeroValue429
 t77:=Tryz.underlying430
 a77:=Tryz.isAgg430
 z77:=Tryz.sizeOf430
 v77:=Tryz.zeroValue430 }
end Go.Proofs
namespace Go.Dx
open Go.Proofs
theorem Qtz {W0:World} (hE:Enters Tryz.prog 301):Contract Tryz.prog W0 301 { ins:=[.mu (.list (.prod (.prod (.int .i64) (.int .i64)) (.prod (.prod (.int .i64) (.prod (.list (.int .i64)) (.prod (.int .i64) (.int .i64)))) (.prod (.int .i64) .bool)))) (.o .z) (.o .z),.v (.fn2 (.prod (.prod (.int .i64) (.int .i64)) (.prod (.prod (.int .i64) (.prod (.list (.int .i64)) (.prod (.int .i64) (.int .i64)))) (.prod (.int .i64) .bool))) (.prod (.prod (.int .i64) (.int .i64)) (.prod (.prod (.int .i64) (.prod (.list (.int .i64)) (.prod (.int .i64) (.int .i64)))) (.prod (.int .i64) .bool))) (.int .i64)) .z],outs:=[],F:=fun t=>Qie t.1 t.2.1 }:=
 QoP (f:=.z) rfl hE (fun p cap fv w=>AnyF.slices_SortFunc_none { Tryz.sort301 with } p cap fv w)
  (fun α _ enc hk h1 cf hO g cb blk off cap d w eg hcmp hH hblk hsz=>AnyQ.slices_SortFunc Tryz.sort301 8 Tryz.isAgg182 Tryz.sizeOf182 enc hk h1 cf hO g cb blk off cap d w eg hcmp hH hblk hsz)
end Go.Dx
