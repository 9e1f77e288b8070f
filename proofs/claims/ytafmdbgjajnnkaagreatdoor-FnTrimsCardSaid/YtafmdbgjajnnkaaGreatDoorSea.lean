/- The executor finds what each function computes: by computation -/
import Derived.Test.YtafmdbgjajnnkaaGreatDoorSca
set_option linter.unusedVariables false
set_option linter.unusedSimpArgs false
set_option maxRecDepth 100000
set_option maxHeartbeats 0
namespace Go.Dx
open Go.Proofs
namespace GL

theorem Qvw:EQ Qnp Tryz.f3 Qdo:=fun t=>by kernel_rfl
theorem QrG:EQ QjD Tryz.f171 Qbk:=fun t=>by kernel_rfl
theorem QwA:EQ Qpg Tryz.f221 JR:=fun t=>by kernel_rfl
theorem Qkk:EQ QfH Tryz.f76 Yu:=fun t=>by kernel_rfl
theorem Qtv:EQ Qlq Tryz.f116 QaP:=fun t=>by kernel_rfl
theorem Qvj:EQ QmL Tryz.f78 Qdy:=fun t=>by kernel_rfl
theorem QnM:EQ Qib Tryz.f58 JI:=fun t=>by kernel_rfl
theorem QiE:EQ QdI Tryz.f75 ZY:=fun t=>by kernel_rfl
theorem QyQ:EQ Qqz Tryz.f50 QfK:=fun t=>by kernel_rfl
theorem QtP:EQ Qk9 Tryz.f29 Z3:=fun t=>by kernel_rfl
theorem Qvx:EQ QnJ Tryz.f214 Qdt:=fun t=>by kernel_rfl
theorem QyJ:EQ Qq4 Tryz.f6 QfB:=fun t=>by kernel_rfl
theorem Qm9:EQ Qhg Tryz.f46 Jd:=fun t=>by kernel_rfl
theorem Quc:EQ Qlx Tryz.f85 Qcp:=fun t=>by kernel_rfl
theorem Qg6:EQ QbV Tryz.f88 Zz:=fun t=>by kernel_rfl
theorem QyF:EQ Qqm Tryz.f177 Qfv:=fun t=>by kernel_rfl
theorem Qgs:EQ Qbe Tryz.f225 Zr:=fun t=>by kernel_rfl
theorem Qen:EQ JX Tryz.f102 Q5:=fun t=>by kernel_rfl
theorem QzI:EQ Qsc Tryz.f65 ZD:=fun t=>by kernel_rfl
theorem QfA:EQ QaD Tryz.f84 Qy:=fun t=>by kernel_rfl
theorem Qyw:EQ Qp3 Tryz.f49 YV:=fun t=>by kernel_rfl
theorem Qye:EQ Qq7 Tryz.f215 Qfz:=fun t=>by kernel_rfl
end GL
end Go.Dx

