/- The executor finds what each function computes: by computation -/
import Derived.Test.YtafmdbgjajnnkaaGreatDoorSca
set_option linter.unusedVariables false
set_option linter.unusedSimpArgs false
set_option maxRecDepth 100000
set_option maxHeartbeats 0
namespace Go.Dx
open Go.Proofs
namespace GL

theorem Qvn:EQ QnD Tryz.f32 Yg:=fun t=>by kernel_rfl
theorem QtD:EQ QlP Tryz.f71 Qck:=fun t=>by kernel_rfl
theorem QwW:EQ QoA Tryz.f62 Zq:=fun t=>by kernel_rfl
theorem Qu0:EQ Qm1 Tryz.f274 Qdl:=fun t=>by kernel_rfl
theorem QrI:EQ Qjy Tryz.f98 Qbd:=fun t=>by kernel_rfl
theorem QuH:EQ Qnm Tryz.f174 Qal:=fun t=>by kernel_rfl
theorem Qu1:EQ QnF Tryz.f33 Qbz:=fun t=>by kernel_rfl
theorem Qum:EQ QnI Tryz.f113 QdD:=fun t=>by kernel_rfl
theorem Qzq:EQ Qsw Tryz.f115 QeT:=fun t=>by kernel_rfl
theorem Qwo:EQ QoT Tryz.f125 Qeu:=fun t=>by kernel_rfl
theorem QuZ:EQ Qnw Tryz.f126 Qdg:=fun t=>by kernel_rfl
theorem QyZ:EQ Qre Tryz.f189 Qfi:=fun t=>by kernel_rfl
theorem QfU:EQ QaY Tryz.f140 Zn:=fun t=>by kernel_rfl
theorem Qwm:EQ Qpf Tryz.f38 Qel:=fun t=>by kernel_rfl
theorem QzC:EQ QsC Tryz.f135 QeS:=fun t=>by kernel_rfl
theorem Qus:EQ QmJ Tryz.f41 Qda:=fun t=>by kernel_rfl
theorem Qzz:EQ Qsg Tryz.f296 QgD:=fun t=>by kernel_rfl
theorem Qtq:EQ Qlz Tryz.f160 QcJ:=fun t=>by kernel_rfl
theorem Qf6:EQ Qa0 Tryz.f130 Zk:=fun t=>by kernel_rfl
theorem Qx0:EQ Qqa Tryz.f110 Qfx:=fun t=>by kernel_rfl
theorem QxN:EQ Qp4 Tryz.f176 Qdn:=fun t=>by kernel_rfl
theorem Qzv:EQ Qsl Tryz.f39 QeO:=fun t=>by kernel_rfl
theorem Qyf:EQ QqX Tryz.f178 Qfw:=fun t=>by kernel_rfl
theorem Qwv:EQ Qox Tryz.f242 Qcd:=fun t=>by kernel_rfl
theorem Qmt:EQ Qhy Tryz.f181 Jm:=fun t=>by kernel_rfl
theorem Qva:EQ Qmf Tryz.f275 Qdb:=fun t=>by kernel_rfl
theorem Qxh:EQ QoY Tryz.f81 Ze:=fun t=>by kernel_rfl
theorem Qw1:EQ QpA Tryz.f157 Qee:=fun t=>by kernel_rfl
theorem Qd0:EQ JF Tryz.f86 Q3:=fun t=>by kernel_rfl
theorem QuK:EQ Qmr Tryz.f212 QbB:=fun t=>by kernel_rfl
theorem QwO:EQ Qpm Tryz.f158 Qem:=fun t=>by kernel_rfl
theorem Qmo:EQ Qhh Tryz.f112 Yq:=fun t=>by kernel_rfl
end GL
end Go.Dx

