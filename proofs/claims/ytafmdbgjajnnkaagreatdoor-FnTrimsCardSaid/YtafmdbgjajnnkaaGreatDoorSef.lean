/- The executor finds what each function computes: by computation -/
import Derived.Test.YtafmdbgjajnnkaaGreatDoorSca
set_option linter.unusedVariables false
set_option linter.unusedSimpArgs false
set_option maxRecDepth 100000
set_option maxHeartbeats 0
namespace Go.Dx
open Go.Proofs
namespace GL

theorem Qti:EQ QkV Tryz.f61 Qcn:=fun t=>by kernel_rfl
theorem QwH:EQ QoF Tryz.f72 Qca:=fun t=>by kernel_rfl
theorem Qu5:EQ Qnn Tryz.f68 QdA:=fun t=>by kernel_rfl
theorem Qvg:EQ Qm5 Tryz.f67 Jj:=fun t=>by kernel_rfl
theorem Qau:EQ Z4 Tryz.f210 Qu:=fun t=>by kernel_rfl
theorem QyU:EQ Qqe Tryz.f243 QfC:=fun t=>by kernel_rfl
theorem Qw5:EQ Qpy Tryz.f63 Qer:=fun t=>by kernel_rfl
theorem Qu7:EQ QnG Tryz.f119 Qdc:=fun t=>by kernel_rfl
theorem Quh:EQ Qm2 Tryz.f40 Qdh:=fun t=>by kernel_rfl
theorem QvC:EQ QmX Tryz.f69 QbF:=fun t=>by kernel_rfl
theorem Qs3:EQ QkI Tryz.f10 QbL:=fun t=>by kernel_rfl
theorem Qtf:EQ Qli Tryz.f159 QaU:=fun t=>by kernel_rfl
theorem Qyh:EQ Qqf Tryz.f120 QbM:=fun t=>by kernel_rfl
theorem Qaf:EQ ZV Tryz.f184 Qt:=fun t=>by kernel_rfl
theorem QcU:EQ YZ Tryz.f180 QU:=fun t=>by kernel_rfl
theorem QlT:EQ QgK Tryz.f31 Y1:=fun t=>by kernel_rfl
theorem Qwn:EQ Qo3 Tryz.f108 QeC:=fun t=>by kernel_rfl
theorem Qui:EQ QmY Tryz.f146 QdB:=fun t=>by kernel_rfl
theorem Qw4:EQ QoO Tryz.f166 Qcj:=fun t=>by kernel_rfl
theorem QsZ:EQ QkE Tryz.f30 Qam:=fun t=>by kernel_rfl
theorem QrP:EQ QjE Tryz.f224 Qbo:=fun t=>by kernel_rfl
theorem QhC:EQ Qb6 Tryz.f245 ZF:=fun t=>by kernel_rfl
theorem QrK:EQ QjC Tryz.f133 JQ:=fun t=>by kernel_rfl
theorem QxT:EQ Qrf Tryz.f201 QfI:=fun t=>by kernel_rfl
theorem QwS:EQ Qpp Tryz.f111 QeG:=fun t=>by kernel_rfl
theorem Qwy:EQ Qph Tryz.f216 QeF:=fun t=>by kernel_rfl
theorem Qwu:EQ Qot Tryz.f94 Qep:=fun t=>by kernel_rfl
theorem Qqn:EQ Qjl Tryz.f45 Jb:=fun t=>by kernel_rfl
theorem QkL:EQ Qgn Tryz.f60 YK:=fun t=>by kernel_rfl
theorem QsU:EQ QkA Tryz.f143 Qad:=fun t=>by kernel_rfl
theorem QvA:EQ QnK Tryz.f207 Qds:=fun t=>by kernel_rfl
end GL
end Go.Dx

