/- The executor finds what each function computes: by computation -/
import Derived.Test.YtafmdbgjajnnkaaGreatDoorSca
set_option linter.unusedVariables false
set_option linter.unusedSimpArgs false
set_option maxRecDepth 100000
set_option maxHeartbeats 0
namespace Go.Dx
open Go.Proofs
namespace GL

theorem QuL:EQ QmV Tryz.f136 Qc7:=fun t=>by kernel_rfl
theorem QzH:EQ QrX Tryz.f217 Qgt:=fun t=>by kernel_rfl
theorem QwF:EQ QoP Tryz.f91 Qeq:=fun t=>by kernel_rfl
theorem QwP:EQ QpJ Tryz.f106 Qcg:=fun t=>by kernel_rfl
theorem Qw2:EQ QpG Tryz.f128 QeK:=fun t=>by kernel_rfl
theorem Qul:EQ QmB Tryz.f42 Qdu:=fun t=>by kernel_rfl
theorem QwT:EQ Qo0 Tryz.f165 Qbb:=fun t=>by kernel_rfl
theorem QqP:EQ Qji Tryz.f44 QaK:=fun t=>by kernel_rfl
theorem QtY:EQ Qlr Tryz.f196 Qcv:=fun t=>by kernel_rfl
theorem Qt3:EQ QlL Tryz.f188 YQ:=fun t=>by kernel_rfl
theorem Qqr:EQ QiZ Tryz.f150 Yx:=fun t=>by kernel_rfl
theorem Qtr:EQ QlM Tryz.f192 Qcz:=fun t=>by kernel_rfl
theorem QtX:EQ Qle Tryz.f66 JJ:=fun t=>by kernel_rfl
theorem Qwi:EQ QpB Tryz.f77 Qcc:=fun t=>by kernel_rfl
theorem Qzr:EQ QsA Tryz.f93 QeM:=fun t=>by kernel_rfl
theorem Qtz:EQ QlI Tryz.f121 YS:=fun t=>by kernel_rfl
theorem Qy5:EQ QqY Tryz.f175 Qfl:=fun t=>by kernel_rfl
theorem Qvi:EQ Qmk Tryz.f79 ZG:=fun t=>by kernel_rfl
theorem Qp7:EQ Qi1 Tryz.f141 QaM:=fun t=>by kernel_rfl
theorem Qp5:EQ QiR Tryz.f211 Qaw:=fun t=>by kernel_rfl
theorem QwJ:EQ Qpt Tryz.f114 Qa9:=fun t=>by kernel_rfl
theorem QlU:EQ QgF Tryz.f152 YW:=fun t=>by kernel_rfl
theorem Qmz:EQ Qhz Tryz.f109 Je:=fun t=>by kernel_rfl
theorem Qzh:EQ Qsd Tryz.f64 QcQ:=fun t=>by kernel_rfl
theorem Qnl:EQ Qhl Tryz.f182 Jc:=fun t=>by kernel_rfl
theorem Qfg:EQ Qao Tryz.f139 Zd:=fun t=>by kernel_rfl
theorem QtB:EQ QkW Tryz.f154 QcB:=fun t=>by kernel_rfl
theorem Qn0:EQ QhR Tryz.f185 JM:=fun t=>by kernel_rfl
theorem QAh:EQ Qt2 Tryz.f147 Qd4:=fun t=>by kernel_rfl
theorem Qu9:EQ Ql8 Tryz.f70 QbH:=fun t=>by kernel_rfl
theorem Qi3:EQ QdQ Tryz.f92 ZB:=fun t=>by kernel_rfl
end GL
end Go.Dx

