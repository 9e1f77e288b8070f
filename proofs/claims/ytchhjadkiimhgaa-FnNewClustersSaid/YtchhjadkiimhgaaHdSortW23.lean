/- A function of the library, walked -/
import Derived.Test.YtchhjadkiimhgaaProg
import Derived.KernelRfl
import Derived.Test.YtchhjadkiimhgaaDxs
set_option linter.unusedVariables false
set_option linter.unusedSimpArgs false
namespace Go.Proofs
open Go.Shelf
def Try.sort23_ren:Go.Shelf.Ren:=⟨fun | 6=>23 | 15=>49 | 14=>48 | 28=>77 | 29=>78 | 20=>69 | 21=>70 | 22=>71 | 23=>72 | 24=>73 | 25=>74 | 26=>75 | 27=>76 | 46=>88 | 47=>89 | 48=>90 | 49=>91 | 50=>92 | 57=>99 | n=>n,fun | 22=>30 | 24=>41 | 25=>60 | 3=>3 | 39=>86 | 0=>0 | 53=>113 | 55=>115 | 4=>4 | 46=>106 | 45=>105 | 50=>110 | 5=>5 | 9=>9 | 66=>123 | 70=>127 | 76=>134 | 77=>135 | n=>n,fun | n=>n⟩
theorem Try.sort23:Go.Proofs.SlLaysF0.n6 Try.prog Try.sort23_ren:={
 mixed:=by kernel_rfl
 f6:=⟨Try.f23.name,by decide,Try.func23.trans (congrArg some (by kernel_rfl))⟩
 f14:=⟨Try.f48.name,by decide,Try.func48.trans (congrArg some (by kernel_rfl))⟩
 f15:=Try.func49.trans (congrArg some (by kernel_rfl))
 f20:=⟨Try.f69.name,by decide,Try.func69.trans (congrArg some (by kernel_rfl))⟩
 f21:=⟨Try.f70.name,by decide,Try.func70.trans (congrArg some (by kernel_rfl))⟩
 f22:=⟨Try.f71.name,by decide,Try.func71.trans (congrArg some (by kernel_rfl))⟩
 f23:=⟨Try.f72.name,by decide,Try.func72.trans (congrArg some (by kernel_rfl))⟩
 f24:=⟨Try.f73.name,by decide,Try.func73.trans (congrArg some (by kernel_rfl))⟩
 f25:=⟨Try.f74.name,by decide,Try.func74.trans (congrArg some (by kernel_rfl))⟩
 f26:=⟨Try.f75.name,by decide,Try.func75.trans (congrArg some (by kernel_rfl))⟩
 f27:=⟨Try.f76.name,by decide,Try.func76.trans (congrArg some (by kernel_rfl))⟩
 f28:=Try.func77.trans (congrArg some (by kernel_rfl))
 f29:=Try.func78.trans (congrArg some (by kernel_rfl))
 f46:=⟨Try.f88.name,by decide,Try.func88.trans (congrArg some (by kernel_rfl))⟩
 f47:=Try.func89.trans (congrArg some (by kernel_rfl))
 f48:=Try.func90.trans (congrArg some (by kernel_rfl))
 f49:=⟨Try.f91.name,by decide,Try.func91.trans (congrArg some (by kernel_rfl))⟩
 f50:=⟨Try.f92.name,by decide,Try.func92.trans (congrArg some (by kernel_rfl))⟩
 f57:=⟨Try.f99.name,by decide,Try.func99.trans (congrArg some (by kernel_rfl))⟩
 t0:=Try.underlying0
 a0:=Try.isAgg0
 z0:=Try.sizeOf0
 v0:=Try.zeroValue0
 t3:=Try.underlying3
 a3:=Try.isAgg3
 z3:=Try.sizeOf3
 v3:=Try.zeroValue3
 t4:=Try.underlying4
 a4:=Try.isAgg4
 z4:=Try.sizeOf4
 v4:=Try.zeroValue4
 t5:=Try.underlying5
 a5:=Try.isAgg5
 z5:=Try.sizeOf5
 v5:=Try.zeroValue5
 t9:=Try.underlying9
 a9:=Try.isAgg9
 z9:=Try.sizeOf9
 v9:=Try.zeroValue9
 t22:=Try.underlying30
 a22:=Try.isAgg30
 z22:=Try.sizeOf30
 v22:=Try.zeroValue30
 t25:=Try.underlying60
 a25:=Try.isAgg60
 z25:=Try.sizeOf60
 v25:=Try.zeroValue60
 t39:=Try.underlying86
 a39:=Try.isAgg86
 z39:=Try.sizeOf86
 v39:=Try.zeroValue86
 t45:=Try.underlying105
 a45:=Try.isAgg105
 z45:=Try.sizeOf105
 v45:=Try.zeroValue105
 t46:=Try.underlying106
 a46:=Try.isAgg106
 z46:=Try.sizeOf106
 v46:=Try.zeroValue106
 t50:=Try.underlying110
 a50:=Try.isAgg110
 z50:=Try.sizeOf110
 v50:=Try.zeroValue110
 t53:=Try.underlying113
 a53:=Try.isAgg113
 z53:=Try.sizeOf113
 v53:=Try.zeroValue113
 t55:=Try.underlying115
 a55:=Try.isAgg115
 z55:=Try.sizeOf115
 v55:=Try.zeroValue115
 t66:=Try.underlying123
 a66:=Try.isAgg123
 z66:=Try.sizeOf123
 v66:=Try.zeroValue123
 t70:=Try.underlying127
 a70:=Try.isAgg127
 z70:=Try.sizeOf127
 v70:=Try.zeroValue127
 t76:=Try.underlying134
 a76:=Try.isAgg134
 z76:=Try.sizeOf134
 v76:=Try.zeroValue134
 t77:=Try.underlying135
 a77:=Try.isAgg135
 z77:=Try.sizeOf135
 v77:=Try.zeroValue135 }
end Go.Proofs
namespace Go.Dx
open Go.Proofs
theorem sortok23 (hE:Enters Try.prog 23):Contract Try.prog 23 { ins:=[.mu (.list (.prod (.int .i64) (.prod (.int .i64) (.list (.prod (.prod (.int .i64) (.int .i64)) (.int .i64)))))) (.o (.p .z (.p .z (.o .z)))) (.o (.p .z (.p .z (.o .z)))),.v (.fn2 (.prod (.int .i64) (.prod (.int .i64) (.list (.prod (.prod (.int .i64) (.int .i64)) (.int .i64))))) (.prod (.int .i64) (.prod (.int .i64) (.list (.prod (.prod (.int .i64) (.int .i64)) (.int .i64))))) (.int .i64)) .z],outs:=[],F:=fun t=>sortO t.1 t.2.1 }:=
 sort_contract (f:=(.p .z (.p .z (.o .z)))) rfl hE (fun p cap fv w=>AnyF.slices_SortFunc_none { Try.sort23 with } p cap fv w)
  (fun α _ enc hk h1 cf hO g cb blk off cap d w eg hcmp hH hblk hsz=>AnyQ.slices_SortFunc Try.sort23 3 Try.isAgg41 Try.sizeOf41 enc hk h1 cf hO g cb blk off cap d w eg hcmp hH hblk hsz)
end Go.Dx
