/- The executor finds what each function computes: by computation -/
import Derived.Test.YtafmdbgjajnnkaaGreatDoorSca
set_option linter.unusedVariables false
set_option linter.unusedSimpArgs false
set_option maxRecDepth 100000
set_option maxHeartbeats 0
namespace Go.Dx
open Go.Proofs
namespace GL

theorem Qti:EQ QkV Tryz.f61 Qcn:=fun t=>by kernel_rfl
theorem QwH:EQ QoF Tryz.f72 Qca:=fun t=>by kernel_rfl
theorem Qwh:EQ Qo1 Tryz.f34 Qa5:=fun t=>by kernel_rfl
theorem QwP:EQ QpJ Tryz.f106 Qcg:=fun t=>by kernel_rfl
theorem QpP:EQ Qip Tryz.f99 Qaa:=fun t=>by kernel_rfl
theorem Qnx:EQ Qho Tryz.f59 Jo:=fun t=>by kernel_rfl
theorem QGa:EQ QGd Tryz.f36 QFK:=fun t=>by kernel_rfl
theorem Quh:EQ Qm2 Tryz.f40 Qdh:=fun t=>by kernel_rfl
theorem Qs3:EQ QkI Tryz.f10 QbL:=fun t=>by kernel_rfl
theorem QyZ:EQ Qre Tryz.f189 Qfi:=fun t=>by kernel_rfl
theorem QfU:EQ QaY Tryz.f140 Zn:=fun t=>by kernel_rfl
theorem Qaf:EQ ZV Tryz.f184 Qt:=fun t=>by kernel_rfl
theorem QcU:EQ YZ Tryz.f180 QU:=fun t=>by kernel_rfl
theorem Qwp:EQ Qpd Tryz.f118 Qce:=fun t=>by kernel_rfl
theorem Qy5:EQ QqY Tryz.f175 Qfl:=fun t=>by kernel_rfl
theorem QnU:EQ QhL Tryz.f90 JG:=fun t=>by kernel_rfl
theorem Qx2:EQ Qrc Tryz.f83 QbS:=fun t=>by kernel_rfl
theorem QsZ:EQ QkE Tryz.f30 Qam:=fun t=>by kernel_rfl
theorem QiV:EQ QdZ Tryz.f134 Z6:=fun t=>by kernel_rfl
theorem QvE:EQ QmC Tryz.f107 Qdf:=fun t=>by kernel_rfl
theorem Qm9:EQ Qhg Tryz.f46 Jd:=fun t=>by kernel_rfl
theorem Qzh:EQ Qsd Tryz.f64 QcQ:=fun t=>by kernel_rfl
theorem Quc:EQ Qlx Tryz.f85 Qcp:=fun t=>by kernel_rfl
theorem QuC:EQ Qnq Tryz.f241 Qde:=fun t=>by kernel_rfl
theorem Qwu:EQ Qot Tryz.f94 Qep:=fun t=>by kernel_rfl
theorem Qjc:EQ QdU Tryz.f129 Z8:=fun t=>by kernel_rfl
theorem QrB:EQ Qjz Tryz.f226 Qbi:=fun t=>by kernel_rfl
theorem Quv:EQ QmU Tryz.f203 QdH:=fun t=>by kernel_rfl
theorem QwO:EQ Qpm Tryz.f158 Qem:=fun t=>by kernel_rfl
theorem Qye:EQ Qq7 Tryz.f215 Qfz:=fun t=>by kernel_rfl
end GL
end Go.Dx

