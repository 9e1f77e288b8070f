/- The executor finds what each function computes: by computation -/
import Derived.Test.YtlpbfnhgmhpccaaGreatDoorScb
set_option linter.unusedVariables false
set_option linter.unusedSimpArgs false
set_option maxRecDepth 100000
set_option maxHeartbeats 0
namespace Go.Dx
open Go.Proofs
namespace GL

theorem QsR:EQ QtS Tryz.f196 Qic:=fun t=>by kernel_rfl
theorem QrQ:EQ Qrt Tryz.f38 Qg7:=fun t=>by kernel_rfl
theorem QuT:EQ Qu1 Tryz.f74 Qgn:=fun t=>by kernel_rfl
theorem QsU:EQ QsM Tryz.f97 Qh2:=fun t=>by kernel_rfl
theorem QvD:EQ QvT Tryz.f138 Qjl:=fun t=>by kernel_rfl
theorem JW:EQ JU Tryz.f182 Q5:=fun t=>by kernel_rfl
theorem QtF:EQ Qsq Tryz.f281 Qh4:=fun t=>by kernel_rfl
theorem Qn1:EQ Qn0 Tryz.f25 Y3:=fun t=>by kernel_rfl
theorem Qmd:EQ Qmk Tryz.f35 Y5:=fun t=>by kernel_rfl
theorem QjK:EQ QjU Tryz.f42 QaM:=fun t=>by kernel_rfl
theorem Qb0:EQ QbW Tryz.f172 Zy:=fun t=>by kernel_rfl
theorem Qzs:EQ Qy2 Tryz.f139 QiK:=fun t=>by kernel_rfl
theorem Qvm:EQ QvV Tryz.f82 Qdq:=fun t=>by kernel_rfl
theorem QyL:EQ Qzn Tryz.f155 QdJ:=fun t=>by kernel_rfl
theorem QqS:EQ QqN Tryz.f158 Qg1:=fun t=>by kernel_rfl
theorem Qub:EQ Qss Tryz.f81 Qiy:=fun t=>by kernel_rfl
theorem Qqt:EQ QpK Tryz.f6 Qgu:=fun t=>by kernel_rfl
theorem Qqb:EQ QpU Tryz.f18 QcV:=fun t=>by kernel_rfl
theorem QsT:EQ Qts Tryz.f46 QhU:=fun t=>by kernel_rfl
theorem Qpb:EQ QoZ Tryz.f204 Qfx:=fun t=>by kernel_rfl
theorem QlM:EQ Qme Tryz.f68 Qcx:=fun t=>by kernel_rfl
theorem QqU:EQ Qrm Tryz.f227 Qak:=fun t=>by kernel_rfl
theorem QwR:EQ QxA Tryz.f200 Qg3:=fun t=>by kernel_rfl
theorem QuW:EQ Qvo Tryz.f125 Qgf:=fun t=>by kernel_rfl
theorem QpI:EQ Qqd Tryz.f30 QgI:=fun t=>by kernel_rfl
theorem QxQ:EQ QwW Tryz.f201 QkE:=fun t=>by kernel_rfl
theorem QtO:EQ QtX Tryz.f179 QiE:=fun t=>by kernel_rfl
theorem Qr7:EQ Qtk Tryz.f132 Z7:=fun t=>by kernel_rfl
theorem Qfq:EQ QeN Tryz.f142 Yw:=fun t=>by kernel_rfl
theorem QrS:EQ QqO Tryz.f95 QbH:=fun t=>by kernel_rfl
theorem QlU:EQ Qma Tryz.f174 QcB:=fun t=>by kernel_rfl
theorem QxV:EQ Qx4 Tryz.f124 QhD:=fun t=>by kernel_rfl
theorem Qh6:EQ Qh8 Tryz.f92 JN:=fun t=>by kernel_rfl
theorem QlZ:EQ Qml Tryz.f77 QcL:=fun t=>by kernel_rfl
theorem QkN:EQ QkM Tryz.f36 Jz:=fun t=>by kernel_rfl
theorem Qyf:EQ QxT Tryz.f78 QkI:=fun t=>by kernel_rfl
theorem Qpg:EQ QoR Tryz.f221 Qfy:=fun t=>by kernel_rfl
theorem QdT:EQ QdW Tryz.f91 Zn:=fun t=>by kernel_rfl
theorem Qv8:EQ QuS Tryz.f153 Qjo:=fun t=>by kernel_rfl
theorem QvW:EQ QuU Tryz.f31 Qgd:=fun t=>by kernel_rfl
end GL
end Go.Dx

