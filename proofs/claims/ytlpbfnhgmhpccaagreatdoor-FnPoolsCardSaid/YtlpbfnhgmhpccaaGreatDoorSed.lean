/- The executor finds what each function computes: by computation -/
import Derived.Test.YtlpbfnhgmhpccaaGreatDoorScb
set_option linter.unusedVariables false
set_option linter.unusedSimpArgs false
set_option maxRecDepth 100000
set_option maxHeartbeats 0
namespace Go.Dx
open Go.Proofs
namespace GL

theorem Qqv:EQ Qqp Tryz.f130 Qgq:=fun t=>by kernel_rfl
theorem Qv3:EQ Qvy Tryz.f59 Qjt:=fun t=>by kernel_rfl
theorem Qvd:EQ Qwd Tryz.f39 Zs:=fun t=>by kernel_rfl
theorem QrZ:EQ QqC Tryz.f101 QhG:=fun t=>by kernel_rfl
theorem Qwm:EQ Qvq Tryz.f134 Qds:=fun t=>by kernel_rfl
theorem QtJ:EQ Qs3 Tryz.f96 QaV:=fun t=>by kernel_rfl
theorem QuV:EQ Qwc Tryz.f88 Qge:=fun t=>by kernel_rfl
theorem Qte:EQ Qs4 Tryz.f198 QcM:=fun t=>by kernel_rfl
theorem Qyj:EQ QxI Tryz.f228 Qks:=fun t=>by kernel_rfl
theorem Qwj:EQ Qu8 Tryz.f185 Qjq:=fun t=>by kernel_rfl
theorem Qse:EQ Qt6 Tryz.f16 Qh1:=fun t=>by kernel_rfl
theorem QpO:EQ Qqn Tryz.f7 Qgr:=fun t=>by kernel_rfl
theorem Qqz:EQ Qp3 Tryz.f104 Qbf:=fun t=>by kernel_rfl
theorem QrF:EQ Qrq Tryz.f69 Qhr:=fun t=>by kernel_rfl
theorem Qu6:EQ Qwh Tryz.f262 Qjs:=fun t=>by kernel_rfl
theorem Qw7:EQ Qw9 Tryz.f4 Qkn:=fun t=>by kernel_rfl
theorem Qwk:EQ QvG Tryz.f17 Qav:=fun t=>by kernel_rfl
theorem Qrz:EQ QqE Tryz.f127 Qeg:=fun t=>by kernel_rfl
theorem QtD:EQ Qtr Tryz.f184 Qfd:=fun t=>by kernel_rfl
theorem Qzp:EQ Qy3 Tryz.f9 QlF:=fun t=>by kernel_rfl
theorem QvO:EQ QuY Tryz.f20 Qf0:=fun t=>by kernel_rfl
theorem Qrx:EQ QqJ Tryz.f116 Qah:=fun t=>by kernel_rfl
theorem QmX:EQ QmF Tryz.f34 QaJ:=fun t=>by kernel_rfl
theorem QqK:EQ Qq4 Tryz.f121 Qam:=fun t=>by kernel_rfl
theorem Qjj:EQ Qjg Tryz.f44 YH:=fun t=>by kernel_rfl
theorem QrG:EQ Qr4 Tryz.f84 Jq:=fun t=>by kernel_rfl
theorem QfD:EQ Qfz Tryz.f203 YG:=fun t=>by kernel_rfl
theorem QyY:EQ Qy7 Tryz.f282 Qlo:=fun t=>by kernel_rfl
theorem QwA:EQ QxY Tryz.f37 Qkm:=fun t=>by kernel_rfl
theorem Qi2:EQ Qi3 Tryz.f143 Qab:=fun t=>by kernel_rfl
theorem QwB:EQ QyD Tryz.f148 QhJ:=fun t=>by kernel_rfl
theorem QwF:EQ Qyz Tryz.f146 QeF:=fun t=>by kernel_rfl
theorem QsH:EQ Qtc Tryz.f149 QeV:=fun t=>by kernel_rfl
theorem Qda:EQ Qc7 Tryz.f54 ZW:=fun t=>by kernel_rfl
theorem Qtz:EQ Qsv Tryz.f223 Qir:=fun t=>by kernel_rfl
theorem Qob:EQ QnQ Tryz.f183 Qer:=fun t=>by kernel_rfl
theorem Qbm:EQ Qbn Tryz.f118 QZ:=fun t=>by kernel_rfl
theorem Qmz:EQ Qm5 Tryz.f58 QaP:=fun t=>by kernel_rfl
theorem QnE:EQ QnL Tryz.f168 Qbk:=fun t=>by kernel_rfl
theorem Qxj:EQ Qw2 Tryz.f43 J2:=fun t=>by kernel_rfl
theorem QlY:EQ Qmj Tryz.f80 Qal:=fun t=>by kernel_rfl
end GL
end Go.Dx

