/- The executor finds what each function computes: by computation -/
import Derived.Test.YtlpbfnhgmhpccaaGreatDoorScb
set_option linter.unusedVariables false
set_option linter.unusedSimpArgs false
set_option maxRecDepth 100000
set_option maxHeartbeats 0
namespace Go.Dx
open Go.Proofs
namespace GL

theorem QsD:EQ Qs2 Tryz.f45 JO:=fun t=>by kernel_rfl
theorem QtP:EQ QtI Tryz.f152 Qa2:=fun t=>by kernel_rfl
theorem Qvj:EQ Qvr Tryz.f102 Qf4:=fun t=>by kernel_rfl
theorem Qu7:EQ Qva Tryz.f131 Qjx:=fun t=>by kernel_rfl
theorem Qyd:EQ Qxq Tryz.f225 QkG:=fun t=>by kernel_rfl
theorem QxM:EQ Qxm Tryz.f192 Qky:=fun t=>by kernel_rfl
theorem QvS:EQ Qvf Tryz.f156 Qjv:=fun t=>by kernel_rfl
theorem Qt8:EQ Qtp Tryz.f195 Qct:=fun t=>by kernel_rfl
theorem QoE:EQ Qn3 Tryz.f26 YY:=fun t=>by kernel_rfl
theorem Qvp:EQ Qu3 Tryz.f40 Qjz:=fun t=>by kernel_rfl
theorem Qve:EQ QvE Tryz.f13 Qjn:=fun t=>by kernel_rfl
theorem Qv0:EQ QuQ Tryz.f150 Qf1:=fun t=>by kernel_rfl
theorem Qt1:EQ QsN Tryz.f90 Qim:=fun t=>by kernel_rfl
theorem Qb9:EQ Qb8 Tryz.f169 Za:=fun t=>by kernel_rfl
theorem Qo7:EQ Qo9 Tryz.f141 QfC:=fun t=>by kernel_rfl
theorem Qrc:EQ QqY Tryz.f53 Qeh:=fun t=>by kernel_rfl
theorem Qvu:EQ QvH Tryz.f197 Qjw:=fun t=>by kernel_rfl
theorem Qtj:EQ Qsz Tryz.f75 Qcq:=fun t=>by kernel_rfl
theorem Qtt:EQ QtK Tryz.f154 Qio:=fun t=>by kernel_rfl
theorem QhO:EQ QhQ Tryz.f63 ZF:=fun t=>by kernel_rfl
theorem QpQ:EQ Qqf Tryz.f10 Qgy:=fun t=>by kernel_rfl
theorem QoX:EQ Qpf Tryz.f144 Qce:=fun t=>by kernel_rfl
theorem QxW:EQ Qxk Tryz.f226 Qcy:=fun t=>by kernel_rfl
theorem JL:EQ JI Tryz.f193 Q1:=fun t=>by kernel_rfl
theorem QvF:EQ Qvg Tryz.f62 Qgh:=fun t=>by kernel_rfl
theorem QwJ:EQ QxF Tryz.f133 Qkq:=fun t=>by kernel_rfl
theorem QoB:EQ Qom Tryz.f107 QeB:=fun t=>by kernel_rfl
theorem Qog:EQ QnV Tryz.f29 Qby:=fun t=>by kernel_rfl
theorem Qjb:EQ QiY Tryz.f113 J1:=fun t=>by kernel_rfl
theorem Qen:EQ Qel Tryz.f105 Yh:=fun t=>by kernel_rfl
theorem Qtd:EQ QtT Tryz.f170 Qe5:=fun t=>by kernel_rfl
theorem QrW:EQ QrR Tryz.f178 QhA:=fun t=>by kernel_rfl
theorem Qxn:EQ Qyg Tryz.f187 Qko:=fun t=>by kernel_rfl
theorem QrN:EQ QrC Tryz.f72 Qhf:=fun t=>by kernel_rfl
theorem Qwe:EQ QvX Tryz.f76 QjC:=fun t=>by kernel_rfl
theorem QvA:EQ QvC Tryz.f50 Zg:=fun t=>by kernel_rfl
theorem Qmw:EQ QmK Tryz.f194 QcZ:=fun t=>by kernel_rfl
theorem Qq2:EQ Qq3 Tryz.f128 Qeb:=fun t=>by kernel_rfl
theorem Qgw:EQ Qgz Tryz.f56 YW:=fun t=>by kernel_rfl
theorem Qx7:EQ QxE Tryz.f21 Jj:=fun t=>by kernel_rfl
end GL
end Go.Dx

