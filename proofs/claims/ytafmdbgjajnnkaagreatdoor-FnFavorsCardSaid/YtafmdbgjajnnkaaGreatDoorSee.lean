/- The executor finds what each function computes: by computation -/
import Derived.Test.YtafmdbgjajnnkaaGreatDoorSca
set_option linter.unusedVariables false
set_option linter.unusedSimpArgs false
set_option maxRecDepth 100000
set_option maxHeartbeats 0
namespace Go.Dx
open Go.Proofs
namespace GL

theorem Qs4:EQ Qkd Tryz.f162 QbZ:=fun t=>by kernel_rfl
theorem QwZ:EQ QoZ Tryz.f117 JU:=fun t=>by kernel_rfl
theorem QwF:EQ QoP Tryz.f91 Qeq:=fun t=>by kernel_rfl
theorem Qw2:EQ QpG Tryz.f128 QeK:=fun t=>by kernel_rfl
theorem Qul:EQ QmB Tryz.f42 Qdu:=fun t=>by kernel_rfl
theorem QwT:EQ Qo0 Tryz.f165 Qbb:=fun t=>by kernel_rfl
theorem QqP:EQ Qji Tryz.f44 QaK:=fun t=>by kernel_rfl
theorem Quz:EQ Qmp Tryz.f28 Qdj:=fun t=>by kernel_rfl
theorem QuZ:EQ Qnw Tryz.f126 Qdg:=fun t=>by kernel_rfl
theorem QrG:EQ QjD Tryz.f171 Qbk:=fun t=>by kernel_rfl
theorem QF3:EQ QF0 Tryz.f14 QFG:=fun t=>by kernel_rfl
theorem Qyh:EQ Qqf Tryz.f120 QbM:=fun t=>by kernel_rfl
theorem QxS:EQ Qp8 Tryz.f82 QaJ:=fun t=>by kernel_rfl
theorem Qzr:EQ QsA Tryz.f93 QeM:=fun t=>by kernel_rfl
theorem Qzz:EQ Qsg Tryz.f296 QgD:=fun t=>by kernel_rfl
theorem QnM:EQ Qib Tryz.f58 JI:=fun t=>by kernel_rfl
theorem Qf6:EQ Qa0 Tryz.f130 Zk:=fun t=>by kernel_rfl
theorem Qp7:EQ Qi1 Tryz.f141 QaM:=fun t=>by kernel_rfl
theorem QcY:EQ Y8 Tryz.f202 QF:=fun t=>by kernel_rfl
theorem QlU:EQ QgF Tryz.f152 YW:=fun t=>by kernel_rfl
theorem QpR:EQ Qio Tryz.f186 YU:=fun t=>by kernel_rfl
theorem Qb8:EQ YJ Tryz.f151 QA:=fun t=>by kernel_rfl
theorem Qwv:EQ Qox Tryz.f242 Qcd:=fun t=>by kernel_rfl
theorem Qva:EQ Qmf Tryz.f275 Qdb:=fun t=>by kernel_rfl
theorem Qfg:EQ Qao Tryz.f139 Zd:=fun t=>by kernel_rfl
theorem Qw1:EQ QpA Tryz.f157 Qee:=fun t=>by kernel_rfl
theorem Qqn:EQ Qjl Tryz.f45 Jb:=fun t=>by kernel_rfl
theorem QkL:EQ Qgn Tryz.f60 YK:=fun t=>by kernel_rfl
theorem Qza:EQ Qrh Tryz.f164 Qfq:=fun t=>by kernel_rfl
theorem QFW:EQ QFV Tryz.f12 QFy:=fun t=>by kernel_rfl
end GL
end Go.Dx

