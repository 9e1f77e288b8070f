/- The executor finds what each function computes: by computation -/
import Derived.Test.YtafmdbgjajnnkaaGreatDoorSca
set_option linter.unusedVariables false
set_option linter.unusedSimpArgs false
set_option maxRecDepth 100000
set_option maxHeartbeats 0
namespace Go.Dx
open Go.Proofs
namespace GL

theorem QuL:EQ QmV Tryz.f136 Qc7:=fun t=>by kernel_rfl
theorem QzH:EQ QrX Tryz.f217 Qgt:=fun t=>by kernel_rfl
theorem Qvg:EQ Qm5 Tryz.f67 Jj:=fun t=>by kernel_rfl
theorem Qu0:EQ Qm1 Tryz.f274 Qdl:=fun t=>by kernel_rfl
theorem QyU:EQ Qqe Tryz.f243 QfC:=fun t=>by kernel_rfl
theorem Qu1:EQ QnF Tryz.f33 Qbz:=fun t=>by kernel_rfl
theorem QxQ:EQ QqF Tryz.f220 QfD:=fun t=>by kernel_rfl
theorem QtY:EQ Qlr Tryz.f196 Qcv:=fun t=>by kernel_rfl
theorem Qqr:EQ QiZ Tryz.f150 Yx:=fun t=>by kernel_rfl
theorem Qtr:EQ QlM Tryz.f192 Qcz:=fun t=>by kernel_rfl
theorem QtX:EQ Qle Tryz.f66 JJ:=fun t=>by kernel_rfl
theorem Qwm:EQ Qpf Tryz.f38 Qel:=fun t=>by kernel_rfl
theorem QGb:EQ QGi Tryz.f15 QFL:=fun t=>by kernel_rfl
theorem QgC:EQ Qbu Tryz.f137 Zx:=fun t=>by kernel_rfl
theorem QyG:EQ QqD Tryz.f122 Qdi:=fun t=>by kernel_rfl
theorem QeX:EQ J3 Tryz.f89 QQ:=fun t=>by kernel_rfl
theorem Qtq:EQ Qlz Tryz.f160 QcJ:=fun t=>by kernel_rfl
theorem Qx0:EQ Qqa Tryz.f110 Qfx:=fun t=>by kernel_rfl
theorem QwJ:EQ Qpt Tryz.f114 Qa9:=fun t=>by kernel_rfl
theorem QyJ:EQ Qq4 Tryz.f6 QfB:=fun t=>by kernel_rfl
theorem QhC:EQ Qb6 Tryz.f245 ZF:=fun t=>by kernel_rfl
theorem Qyf:EQ QqX Tryz.f178 Qfw:=fun t=>by kernel_rfl
theorem QxT:EQ Qrf Tryz.f201 QfI:=fun t=>by kernel_rfl
theorem QeV:EQ Qab Tryz.f74 QP:=fun t=>by kernel_rfl
theorem Qjb:EQ QdM Tryz.f132 Z5:=fun t=>by kernel_rfl
theorem Qen:EQ JX Tryz.f102 Q5:=fun t=>by kernel_rfl
theorem QqK:EQ Qjg Tryz.f53 QaN:=fun t=>by kernel_rfl
theorem QuY:EQ Qml Tryz.f191 Qc9:=fun t=>by kernel_rfl
theorem QF2:EQ QFY Tryz.f13 QFH:=fun t=>by kernel_rfl
theorem Qi3:EQ QdQ Tryz.f92 ZB:=fun t=>by kernel_rfl
end GL
end Go.Dx

