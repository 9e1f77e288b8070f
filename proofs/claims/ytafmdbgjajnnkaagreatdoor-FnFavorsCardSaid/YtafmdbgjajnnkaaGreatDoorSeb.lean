/- The executor finds what each function computes: by computation -/
import Derived.Test.YtafmdbgjajnnkaaGreatDoorSca
set_option linter.unusedVariables false
set_option linter.unusedSimpArgs false
set_option maxRecDepth 100000
set_option maxHeartbeats 0
namespace Go.Dx
open Go.Proofs
namespace GL

theorem Qwt:EQ Qpu Tryz.f161 Qex:=fun t=>by kernel_rfl
theorem QtD:EQ QlP Tryz.f71 Qck:=fun t=>by kernel_rfl
theorem QuP:EQ Qmy Tryz.f190 Qdr:=fun t=>by kernel_rfl
theorem Qvv:EQ Qm4 Tryz.f295 QdK:=fun t=>by kernel_rfl
theorem Qwz:EQ Qo6 Tryz.f213 Qeo:=fun t=>by kernel_rfl
theorem Qxb:EQ Qow Tryz.f163 Qev:=fun t=>by kernel_rfl
theorem QjP:EQ Qe6 Tryz.f35 ZO:=fun t=>by kernel_rfl
theorem Qt3:EQ QlL Tryz.f188 YQ:=fun t=>by kernel_rfl
theorem Qp1:EQ Qi5 Tryz.f131 QaG:=fun t=>by kernel_rfl
theorem Qte:EQ Qk6 Tryz.f170 Jx:=fun t=>by kernel_rfl
theorem Qvh:EQ Qnh Tryz.f123 Qby:=fun t=>by kernel_rfl
theorem Qwi:EQ QpB Tryz.f77 Qcc:=fun t=>by kernel_rfl
theorem Qtv:EQ Qlq Tryz.f116 QaP:=fun t=>by kernel_rfl
theorem QzC:EQ QsC Tryz.f135 QeS:=fun t=>by kernel_rfl
theorem Qwn:EQ Qo3 Tryz.f108 QeC:=fun t=>by kernel_rfl
theorem Qui:EQ QmY Tryz.f146 QdB:=fun t=>by kernel_rfl
theorem QyQ:EQ Qqz Tryz.f50 QfK:=fun t=>by kernel_rfl
theorem Qxc:EQ QoQ Tryz.f55 QeD:=fun t=>by kernel_rfl
theorem QtP:EQ Qk9 Tryz.f29 Z3:=fun t=>by kernel_rfl
theorem QGl:EQ QGm Tryz.f17 QFO:=fun t=>by kernel_rfl
theorem QrK:EQ QjC Tryz.f133 JQ:=fun t=>by kernel_rfl
theorem QzK:EQ Qr5 Tryz.f127 Qbw:=fun t=>by kernel_rfl
theorem Qg6:EQ QbV Tryz.f88 Zz:=fun t=>by kernel_rfl
theorem QrE:EQ QjI Tryz.f80 Qbn:=fun t=>by kernel_rfl
theorem Qzn:EQ Qsq Tryz.f219 QeP:=fun t=>by kernel_rfl
theorem Qxh:EQ QoY Tryz.f81 Ze:=fun t=>by kernel_rfl
theorem Qd0:EQ JF Tryz.f86 Q3:=fun t=>by kernel_rfl
theorem QuK:EQ Qmr Tryz.f212 QbB:=fun t=>by kernel_rfl
theorem Qyw:EQ Qp3 Tryz.f49 YV:=fun t=>by kernel_rfl
theorem QvA:EQ QnK Tryz.f207 Qds:=fun t=>by kernel_rfl
end GL
end Go.Dx

