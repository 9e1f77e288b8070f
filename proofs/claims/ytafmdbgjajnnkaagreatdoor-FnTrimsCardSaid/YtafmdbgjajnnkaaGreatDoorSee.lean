/- The executor finds what each function computes: by computation -/
import Derived.Test.YtafmdbgjajnnkaaGreatDoorSca
set_option linter.unusedVariables false
set_option linter.unusedSimpArgs false
set_option maxRecDepth 100000
set_option maxHeartbeats 0
namespace Go.Dx
open Go.Proofs
namespace GL

theorem Qs4:EQ Qkd Tryz.f162 QbZ:=fun t=>by kernel_rfl
theorem QwZ:EQ QoZ Tryz.f117 JU:=fun t=>by kernel_rfl
theorem Qwh:EQ Qo1 Tryz.f34 Qa5:=fun t=>by kernel_rfl
theorem Qvp:EQ Qnf Tryz.f172 Qah:=fun t=>by kernel_rfl
theorem Qto:EQ QlJ Tryz.f9 Qcy:=fun t=>by kernel_rfl
theorem Qwz:EQ Qo6 Tryz.f213 Qeo:=fun t=>by kernel_rfl
theorem Qxb:EQ Qow Tryz.f163 Qev:=fun t=>by kernel_rfl
theorem QjP:EQ Qe6 Tryz.f35 ZO:=fun t=>by kernel_rfl
theorem QwN:EQ Qoo Tryz.f11 Qez:=fun t=>by kernel_rfl
theorem Qwj:EQ Qpo Tryz.f276 Qeh:=fun t=>by kernel_rfl
theorem QpQ:EQ Qii Tryz.f7 J5:=fun t=>by kernel_rfl
theorem Qte:EQ Qk6 Tryz.f170 Jx:=fun t=>by kernel_rfl
theorem Qws:EQ Qoq Tryz.f173 Qew:=fun t=>by kernel_rfl
theorem QrQ:EQ QjG Tryz.f240 Qbl:=fun t=>by kernel_rfl
theorem Qwp:EQ Qpd Tryz.f118 Qce:=fun t=>by kernel_rfl
theorem QgC:EQ Qbu Tryz.f137 Zx:=fun t=>by kernel_rfl
theorem QrH:EQ QjH Tryz.f56 Qbf:=fun t=>by kernel_rfl
theorem QeX:EQ J3 Tryz.f89 QQ:=fun t=>by kernel_rfl
theorem Qxc:EQ QoQ Tryz.f55 QeD:=fun t=>by kernel_rfl
theorem Qh1:EQ QcC Tryz.f73 ZK:=fun t=>by kernel_rfl
theorem QiV:EQ QdZ Tryz.f134 Z6:=fun t=>by kernel_rfl
theorem QpR:EQ Qio Tryz.f186 YU:=fun t=>by kernel_rfl
theorem Qwr:EQ QpK Tryz.f47 JT:=fun t=>by kernel_rfl
theorem QzK:EQ Qr5 Tryz.f127 Qbw:=fun t=>by kernel_rfl
theorem QuC:EQ Qnq Tryz.f241 Qde:=fun t=>by kernel_rfl
theorem Qjb:EQ QdM Tryz.f132 Z5:=fun t=>by kernel_rfl
theorem Qzn:EQ Qsq Tryz.f219 QeP:=fun t=>by kernel_rfl
theorem QqK:EQ Qjg Tryz.f53 QaN:=fun t=>by kernel_rfl
theorem QuY:EQ Qml Tryz.f191 Qc9:=fun t=>by kernel_rfl
theorem Qza:EQ Qrh Tryz.f164 Qfq:=fun t=>by kernel_rfl
theorem QsV:EQ Qkq Tryz.f209 QbQ:=fun t=>by kernel_rfl
end GL
end Go.Dx

