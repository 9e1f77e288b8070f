/- The executor finds what each function computes: by computation -/
import Derived.Test.YtafmdbgjajnnkaaGreatDoorSca
set_option linter.unusedVariables false
set_option linter.unusedSimpArgs false
set_option maxRecDepth 100000
set_option maxHeartbeats 0
namespace Go.Dx
open Go.Proofs
namespace GL

theorem Qvn:EQ QnD Tryz.f32 Yg:=fun t=>by kernel_rfl
theorem Qu5:EQ Qnn Tryz.f68 QdA:=fun t=>by kernel_rfl
theorem QwW:EQ QoA Tryz.f62 Zq:=fun t=>by kernel_rfl
theorem Qau:EQ Z4 Tryz.f210 Qu:=fun t=>by kernel_rfl
theorem QuH:EQ Qnm Tryz.f174 Qal:=fun t=>by kernel_rfl
theorem Qw5:EQ Qpy Tryz.f63 Qer:=fun t=>by kernel_rfl
theorem Qum:EQ QnI Tryz.f113 QdD:=fun t=>by kernel_rfl
theorem QvC:EQ QmX Tryz.f69 QbF:=fun t=>by kernel_rfl
theorem Qwo:EQ QoT Tryz.f125 Qeu:=fun t=>by kernel_rfl
theorem Qxs:EQ Qq2 Tryz.f187 QaE:=fun t=>by kernel_rfl
theorem QwA:EQ Qpg Tryz.f221 JR:=fun t=>by kernel_rfl
theorem Qih:EQ QcW Tryz.f95 Q7:=fun t=>by kernel_rfl
theorem QGj:EQ QGk Tryz.f18 QFM:=fun t=>by kernel_rfl
theorem Qs6:EQ QkH Tryz.f138 Ja:=fun t=>by kernel_rfl
theorem Qtz:EQ QlI Tryz.f121 YS:=fun t=>by kernel_rfl
theorem QiE:EQ QdI Tryz.f75 ZY:=fun t=>by kernel_rfl
theorem Qvi:EQ Qmk Tryz.f79 ZG:=fun t=>by kernel_rfl
theorem Qh1:EQ QcC Tryz.f73 ZK:=fun t=>by kernel_rfl
theorem QxN:EQ Qp4 Tryz.f176 Qdn:=fun t=>by kernel_rfl
theorem Qzv:EQ Qsl Tryz.f39 QeO:=fun t=>by kernel_rfl
theorem Qy6:EQ QqR Tryz.f43 QfF:=fun t=>by kernel_rfl
theorem QGq:EQ QGs Tryz.f16 QFT:=fun t=>by kernel_rfl
theorem Qmt:EQ Qhy Tryz.f181 Jm:=fun t=>by kernel_rfl
theorem QyF:EQ Qqm Tryz.f177 Qfv:=fun t=>by kernel_rfl
theorem Qwy:EQ Qph Tryz.f216 QeF:=fun t=>by kernel_rfl
theorem Qgs:EQ Qbe Tryz.f225 Zr:=fun t=>by kernel_rfl
theorem Qn0:EQ QhR Tryz.f185 JM:=fun t=>by kernel_rfl
theorem QAh:EQ Qt2 Tryz.f147 Qd4:=fun t=>by kernel_rfl
theorem Qu9:EQ Ql8 Tryz.f70 QbH:=fun t=>by kernel_rfl
theorem Qtx:EQ Qlp Tryz.f87 Qco:=fun t=>by kernel_rfl
theorem Qmo:EQ Qhh Tryz.f112 Yq:=fun t=>by kernel_rfl
end GL
end Go.Dx

