/- A function of the library, walked -/
import Derived.Test.YtmklfdnhndakcaaGreatDoorProg
import Derived.KernelRfl
import Derived.Test.YtmklfdnhndakcaaGreatDoorDxs
set_option linter.unusedVariables false
set_option linter.unusedSimpArgs false
namespace Go.Proofs
open Go.Shelf
def Tryz.sort294_ren:Go.Shelf.Ren:=⟨fun | 6=>294 | 15=>333 | 14=>332 | 28=>371 | 29=>372 | 20=>363 | 21=>364 | 22=>365 | 23=>366 | 24=>367 | 25=>368 | 26=>369 | 27=>370 | 46=>387 | 47=>388 | 48=>389 | 49=>390 | 50=>391 | 57=>394 | n=>n,fun | 22=>40 | 24=>182 | 25=>339 | 3=>3 | 39=>229 | 0=>0 | 53=>404 | 55=>348 | 4=>4 | 46=>398 | 45=>397 | 50=>308 | 5=>5 | 9=>9 | 66=>423 | 70=>427 | 76=>429 | 77=>430 | n=>n,fun | n=>n⟩
theorem Tryz.sort294:Go.Proofs.SlLaysF0.n6 Tryz.prog Tryz.sort294_ren:={
 mixed:=by kernel_rfl
 f6:=⟨Tryz.f294.name,by decide,Tryz.func294.trans (congrArg some (by kernel_rfl))⟩
 f14:=⟨Tryz.f332.name,by decide,Tryz.func332.trans (congrArg some (by kernel_rfl))⟩
 f15:=Tryz.func333.trans (congrArg some (by kernel_rfl))
 f20:=⟨Tryz.f363.name,by decide,Tryz.func363.trans (congrArg some (by kernel_rfl))⟩
 f21:=⟨Tryz.f364.name,by decide,Tryz.func364.trans (congrArg some (by kernel_rfl))⟩
 f22:=⟨Tryz.f365.name,by decide,Tryz.func365.trans (congrArg some (by kernel_rfl))⟩
 f23:=⟨Tryz.f366.name,by decide,Tryz.func366.trans (congrArg some (by kernel_rfl))⟩
 f24:=⟨Tryz.f367.name,by decide,Tryz.func367.trans (congrArg some (by kernel_rfl))⟩
 f25:=⟨Tryz.f368.name,by decide,Tryz.func368.trans (congrArg some (by kernel_rfl))⟩
 f26:=⟨Tryz.f369.name,by decide,Tryz.func369.trans (congrArg some (by kernel_rfl))⟩
 f27:=⟨Tryz.f370.name,by decide,Tryz.func370.trans (congrArg some (by kernel_rfl))⟩
 f28:=Tryz.func371.trans (congrArg some (by kernel_rfl))
 f29:=Tryz.func372.trans (congrArg some (by kernel_rfl))
 f46:=⟨Tryz.f387.name,by decide,Tryz.func387.trans (congrArg some (by kernel_rfl))⟩
 f47:=Tryz.func388.trans (congrArg some (by kernel_rfl))
 f48:=Tryz.func389.trans (congrArg some (by kernel_rfl))
 f49:=⟨Tryz.f390.name,by decide,Tryz.func390.trans (congrArg some (by kernel_rfl))⟩
 f50:=⟨Tryz.f391.name,by decide,Tryz.func391.trans (congrArg some (by kernel_rfl))⟩
 f57:=⟨Tryz.f394.name,by decide,Tryz.func394.trans (congrArg some (by kernel_rfl))⟩
 t0:=Tryz.underlying0
 a0:=Tryz.isAgg0
 z0:=Tryz.sizeOf0
 v0:=Tryz.zeroValue0
 t3:=Tryz.underlying3
 a3:=Tryz.isAgg3
 z3:=Tryz.sizeOf3
 v3:=Tryz.zeroValue3
 t4:=Tryz.underlying4
 a4:=Tryz.isAgg4
 z4:=Tryz.sizeOf4
 v4:=Tryz.zeroValue4
 t5:=Tryz.underlying5
 a5:=Tryz.isAgg5
 z5:=Tryz.sizeOf5
 v5:=Tryz.zeroValue5
 t9:=Tryz.underlying9
 a9:=Tryz.isAgg9
 z9:=Tryz.sizeOf9
 v9:=Tryz.zeroValue9
 t22:=Tryz.underlying40
 a22:=Tryz.isAgg40
 z22:=Tryz.sizeOf40
 v22:=Tryz.zeroValue40
 t25:=Tryz.underlying339
 a25:=Tryz.isAgg339
 z25:=Tryz.sizeOf339
 v25:=Tryz.zeroValue339
 t39:=Tryz.underlying229
 a39:=Tryz.isAgg229
 z39:=Tryz.sizeOf229
 v39:=Tryz.zeroValue229
 t45:=Tryz.underlying397
 a45:=Tryz.isAgg397
 z45:=Tryz.sizeOf397
 v45:=Tryz.zeroValue397
 t46:=Tryz.underlying398
 a46:=Tryz.isAgg398
 z46:=Tryz.sizeOf398
 v46:=Tryz.zeroValue398
 t50:=Tryz.underlying308
 a50:=Tryz.isAgg308
 z50:=Tryz.sizeOf308
 v50:=Tryz.zeroValue308
 t53:=Tryz.underlying404
 a53:=Tryz.isAgg404
 z53:=Tryz.sizeOf404
 v53:=Tryz.zeroValue404
 t55:=Tryz.underlying348
 a55:=Tryz.isAgg348
 z55:=Tryz.sizeOf348
 v55:=Tryz.zeroValue348
 t66:=Tryz.underlying423
 a66:=Tryz.isAgg423
 z66:=Tryz.sizeOf423
 v66:=Tryz.zeroValue423
 t70:=Tryz.underlying427
 a70:=Tryz.isAgg427
 z70:=Tryz.sizeOf427
 v70:=Tryz.zeroValue427
 t76:=Tryz.underlying429
 a76:=Tryz.isAgg429
 z76:=Tryz.sizeOf429
 v76:=Tryz.zeroValue429
 t77:=Tryz.underlying430
 a77:=Tryz.isAgg430
 z77:=Tryz.sizeOf430
 v77:=Tryz.zeroValue430 }
end Go.Proofs
namespace Go.Dx
open Go.Proofs
theorem Qs2 {W0:World} (hE:Enters Tryz.prog 294):Contract Tryz.prog W0 294 { ins:=[.mu (.list (.prod (.prod (.int .i64) (.int .i64)) (.prod (.prod (.int .i64) (.prod (.list (.int .i64)) (.prod (.int .i64) (.int .i64)))) (.prod (.int .i64) .bool)))) (.o .z) (.o .z),.v (.fn2 (.prod (.prod (.int .i64) (.int .i64)) (.prod (.prod (.int .i64) (.prod (.list (.int .i64)) (.prod (.int .i64) (.int .i64)))) (.prod (.int .i64) .bool))) (.prod (.prod (.int .i64) (.int .i64)) (.prod (.prod (.int .i64) (.prod (.list (.int .i64)) (.prod (.int .i64) (.int .i64)))) (.prod (.int .i64) .bool))) (.int .i64)) .z],outs:=[],F:=fun t=>QhY t.1 t.2.1 }:=
 QoY (f:=.z) rfl hE (fun p cap fv w=>AnyF.slices_SortFunc_none { Tryz.sort294 with } p cap fv w)
  (fun α _ enc hk h1 cf hO g cb blk off cap d w eg hcmp hH hblk hsz=>AnyQ.slices_SortFunc Tryz.sort294 8 Tryz.isAgg182 Tryz.sizeOf182 enc hk h1 cf hO g cb blk off cap d w eg hcmp hH hblk hsz)
end Go.Dx
