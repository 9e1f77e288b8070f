/- The executor finds what each function computes: by computation -/
import Derived.Test.YtlpbfnhgmhpccaaGreatDoorScb
set_option linter.unusedVariables false
set_option linter.unusedSimpArgs false
set_option maxRecDepth 100000
set_option maxHeartbeats 0
namespace Go.Dx
open Go.Proofs
namespace GL

theorem Qof:EQ Qn7 Tryz.f71 QeJ:=fun t=>by kernel_rfl
theorem Qwi:EQ QvY Tryz.f87 Qbt:=fun t=>by kernel_rfl
theorem Qpd:EQ QoT Tryz.f66 QfB:=fun t=>by kernel_rfl
theorem Qv5:EQ Qv1 Tryz.f47 Qgm:=fun t=>by kernel_rfl
theorem Qp0:EQ QpF Tryz.f120 Qgv:=fun t=>by kernel_rfl
theorem Qr8:EQ QsP Tryz.f229 Qid:=fun t=>by kernel_rfl
theorem Qr3:EQ QrX Tryz.f162 Qhs:=fun t=>by kernel_rfl
theorem Qrb:EQ Qrs Tryz.f140 Qbx:=fun t=>by kernel_rfl
theorem QnJ:EQ QnF Tryz.f12 QdS:=fun t=>by kernel_rfl
theorem QrM:EQ Qr0 Tryz.f86 Qd7:=fun t=>by kernel_rfl
theorem Qon:EQ QoD Tryz.f122 QbL:=fun t=>by kernel_rfl
theorem Qo4:EQ Qo6 Tryz.f32 Qcd:=fun t=>by kernel_rfl
theorem QwC:EQ QyE Tryz.f22 QgY:=fun t=>by kernel_rfl
theorem QtZ:EQ Qs0 Tryz.f157 QiB:=fun t=>by kernel_rfl
theorem QfN:EQ QfM Tryz.f103 YQ:=fun t=>by kernel_rfl
theorem QuZ:EQ Qvi Tryz.f135 Qf7:=fun t=>by kernel_rfl
theorem Qzr:EQ Qzt Tryz.f60 QdK:=fun t=>by kernel_rfl
theorem QwV:EQ Qyk Tryz.f51 Qew:=fun t=>by kernel_rfl
theorem Qqe:EQ QpE Tryz.f41 Qgt:=fun t=>by kernel_rfl
theorem Qua:EQ QsI Tryz.f99 QeU:=fun t=>by kernel_rfl
theorem Qqm:EQ QpH Tryz.f176 QgF:=fun t=>by kernel_rfl
theorem Qyq:EQ Qxv Tryz.f199 QkJ:=fun t=>by kernel_rfl
theorem Qqi:EQ QqB Tryz.f109 QcX:=fun t=>by kernel_rfl
theorem Qfe:EQ Qff Tryz.f65 Yv:=fun t=>by kernel_rfl
theorem QvB:EQ Qwl Tryz.f188 Qjy:=fun t=>by kernel_rfl
theorem Qvh:EQ Qv2 Tryz.f79 QjB:=fun t=>by kernel_rfl
theorem QvM:EQ QvJ Tryz.f222 Qbp:=fun t=>by kernel_rfl
theorem QdA:EQ QdE Tryz.f218 Z0:=fun t=>by kernel_rfl
theorem Qmm:EQ QlP Tryz.f173 Qck:=fun t=>by kernel_rfl
theorem Qhx:EQ Qhh Tryz.f61 Yf:=fun t=>by kernel_rfl
theorem QtA:EQ QsO Tryz.f8 QhZ:=fun t=>by kernel_rfl
theorem Qvv:EQ Qvc Tryz.f126 Qgc:=fun t=>by kernel_rfl
theorem Qql:EQ QpT Tryz.f181 Qgp:=fun t=>by kernel_rfl
theorem Qv4:EQ Qv9 Tryz.f224 Qgj:=fun t=>by kernel_rfl
theorem Qxr:EQ Qw8 Tryz.f24 Qhn:=fun t=>by kernel_rfl
theorem Qzh:EQ Qzv Tryz.f98 QiO:=fun t=>by kernel_rfl
theorem Qq1:EQ Qrj Tryz.f55 Qg0:=fun t=>by kernel_rfl
theorem QwT:EQ Qya Tryz.f202 Qku:=fun t=>by kernel_rfl
theorem QgV:EQ QgX Tryz.f230 Y7:=fun t=>by kernel_rfl
theorem QtW:EQ Qs5 Tryz.f83 QeZ:=fun t=>by kernel_rfl
end GL
end Go.Dx

