/- The executor finds what each function computes: by computation -/
import Derived.Test.YtlpbfnhgmhpccaaGreatDoorScb
set_option linter.unusedVariables false
set_option linter.unusedSimpArgs false
set_option maxRecDepth 100000
set_option maxHeartbeats 0
namespace Go.Dx
open Go.Proofs
namespace GL

theorem QvZ:EQ Qu5 Tryz.f129 QjA:=fun t=>by kernel_rfl
theorem Qzy:EQ Qy9 Tryz.f189 Qlp:=fun t=>by kernel_rfl
theorem Qmh:EQ Ql5 Tryz.f33 QcA:=fun t=>by kernel_rfl
theorem QnK:EQ QnH Tryz.f67 QdR:=fun t=>by kernel_rfl
theorem Qr5:EQ Qso Tryz.f260 Qiq:=fun t=>by kernel_rfl
theorem QyM:EQ Qzb Tryz.f85 QiP:=fun t=>by kernel_rfl
theorem Qlv:EQ Qlz Tryz.f19 Qb3:=fun t=>by kernel_rfl
theorem Qsm:EQ QtC Tryz.f23 QeP:=fun t=>by kernel_rfl
theorem Qry:EQ Qru Tryz.f73 Qd4:=fun t=>by kernel_rfl
theorem Qoo:EQ Qn6 Tryz.f117 Qad:=fun t=>by kernel_rfl
theorem Qti:EQ QsY Tryz.f112 Qix:=fun t=>by kernel_rfl
theorem QsJ:EQ QsZ Tryz.f123 Qie:=fun t=>by kernel_rfl
theorem Qyw:EQ Qxt Tryz.f167 Qj8:=fun t=>by kernel_rfl
theorem QoU:EQ Qo1 Tryz.f27 Qcg:=fun t=>by kernel_rfl
theorem Qkx:EQ QkA Tryz.f93 Qa6:=fun t=>by kernel_rfl
theorem Qt0:EQ QtN Tryz.f261 QiD:=fun t=>by kernel_rfl
theorem QdQ:EQ QdV Tryz.f57 Zm:=fun t=>by kernel_rfl
theorem Qrp:EQ Qq9 Tryz.f11 Qhe:=fun t=>by kernel_rfl
theorem Qzk:EQ QyP Tryz.f48 ZP:=fun t=>by kernel_rfl
theorem QeQ:EQ Qfs Tryz.f106 Yx:=fun t=>by kernel_rfl
theorem Qo8:EQ QoY Tryz.f214 QfI:=fun t=>by kernel_rfl
theorem Qqo:EQ QpX Tryz.f28 Qc1:=fun t=>by kernel_rfl
theorem Qsu:EQ QsW Tryz.f89 Qig:=fun t=>by kernel_rfl
theorem Qmt:EQ Qm8 Tryz.f5 Qc6:=fun t=>by kernel_rfl
theorem Qcu:EQ Qcz Tryz.f177 ZK:=fun t=>by kernel_rfl
theorem QeD:EQ QeC Tryz.f52 QU:=fun t=>by kernel_rfl
theorem Qr9:EQ Qto Tryz.f186 QhW:=fun t=>by kernel_rfl
theorem Qjh:EQ Qi5 Tryz.f145 Qac:=fun t=>by kernel_rfl
theorem QAN:EQ QAb Tryz.f114 Qhc:=fun t=>by kernel_rfl
theorem Qsr:EQ QtE Tryz.f151 QiA:=fun t=>by kernel_rfl
theorem QsV:EQ QsE Tryz.f100 Qh5:=fun t=>by kernel_rfl
theorem Qdm:EQ Qdw Tryz.f70 QX:=fun t=>by kernel_rfl
theorem Qzg:EQ QyU Tryz.f94 QfP:=fun t=>by kernel_rfl
theorem Qza:EQ QyF Tryz.f191 QiN:=fun t=>by kernel_rfl
theorem QhN:EQ QhP Tryz.f64 Jx:=fun t=>by kernel_rfl
theorem QlI:EQ Qlw Tryz.f119 QbY:=fun t=>by kernel_rfl
theorem Qpa:EQ Qo5 Tryz.f49 QfH:=fun t=>by kernel_rfl
theorem Qtw:EQ Qt5 Tryz.f14 QiH:=fun t=>by kernel_rfl
theorem QrA:EQ QrI Tryz.f147 Qai:=fun t=>by kernel_rfl
end GL
end Go.Dx

