/- The executor finds what each function computes: by computation -/
import Derived.Test.YtafmdbgjajnnkaaGreatDoorSca
set_option linter.unusedVariables false
set_option linter.unusedSimpArgs false
set_option maxRecDepth 100000
set_option maxHeartbeats 0
namespace Go.Dx
open Go.Proofs
namespace GL

theorem Qwt:EQ Qpu Tryz.f161 Qex:=fun t=>by kernel_rfl
theorem Qu3:EQ QmQ Tryz.f124 Jg:=fun t=>by kernel_rfl
theorem QuP:EQ Qmy Tryz.f190 Qdr:=fun t=>by kernel_rfl
theorem Qvv:EQ Qm4 Tryz.f295 QdK:=fun t=>by kernel_rfl
theorem QpP:EQ Qip Tryz.f99 Qaa:=fun t=>by kernel_rfl
theorem QwD:EQ Qpx Tryz.f169 QeH:=fun t=>by kernel_rfl
theorem Qnx:EQ Qho Tryz.f59 Jo:=fun t=>by kernel_rfl
theorem QxQ:EQ QqF Tryz.f220 QfD:=fun t=>by kernel_rfl
theorem Quz:EQ Qmp Tryz.f28 Qdj:=fun t=>by kernel_rfl
theorem Qp1:EQ Qi5 Tryz.f131 QaG:=fun t=>by kernel_rfl
theorem Qxs:EQ Qq2 Tryz.f187 QaE:=fun t=>by kernel_rfl
theorem Qvh:EQ Qnh Tryz.f123 Qby:=fun t=>by kernel_rfl
theorem Qih:EQ QcW Tryz.f95 Q7:=fun t=>by kernel_rfl
theorem QxS:EQ Qp8 Tryz.f82 QaJ:=fun t=>by kernel_rfl
theorem Qs6:EQ QkH Tryz.f138 Ja:=fun t=>by kernel_rfl
theorem QyG:EQ QqD Tryz.f122 Qdi:=fun t=>by kernel_rfl
theorem QnU:EQ QhL Tryz.f90 JG:=fun t=>by kernel_rfl
theorem Qx2:EQ Qrc Tryz.f83 QbS:=fun t=>by kernel_rfl
theorem Qtu:EQ QlF Tryz.f8 QcE:=fun t=>by kernel_rfl
theorem QcY:EQ Y8 Tryz.f202 QF:=fun t=>by kernel_rfl
theorem QvE:EQ QmC Tryz.f107 Qdf:=fun t=>by kernel_rfl
theorem Qy6:EQ QqR Tryz.f43 QfF:=fun t=>by kernel_rfl
theorem Qb8:EQ YJ Tryz.f151 QA:=fun t=>by kernel_rfl
theorem QrE:EQ QjI Tryz.f80 Qbn:=fun t=>by kernel_rfl
theorem QeV:EQ Qab Tryz.f74 QP:=fun t=>by kernel_rfl
theorem QtM:EQ QlQ Tryz.f149 Jv:=fun t=>by kernel_rfl
theorem Qjc:EQ QdU Tryz.f129 Z8:=fun t=>by kernel_rfl
theorem QrB:EQ Qjz Tryz.f226 Qbi:=fun t=>by kernel_rfl
theorem Quv:EQ QmU Tryz.f203 QdH:=fun t=>by kernel_rfl
theorem Qtx:EQ Qlp Tryz.f87 Qco:=fun t=>by kernel_rfl
end GL
end Go.Dx

