/- The executor finds what each function computes: by computation -/
import Derived.Test.YtafmdbgjajnnkaaGreatDoorSca
set_option linter.unusedVariables false
set_option linter.unusedSimpArgs false
set_option maxRecDepth 100000
set_option maxHeartbeats 0
namespace Go.Dx
open Go.Proofs
namespace GL

theorem QF9:EQ QF7 Tryz.f4 QFI:=fun t=>by kernel_rfl
theorem Qu3:EQ QmQ Tryz.f124 Jg:=fun t=>by kernel_rfl
theorem Qvp:EQ Qnf Tryz.f172 Qah:=fun t=>by kernel_rfl
theorem QrI:EQ Qjy Tryz.f98 Qbd:=fun t=>by kernel_rfl
theorem QwD:EQ Qpx Tryz.f169 QeH:=fun t=>by kernel_rfl
theorem Qu7:EQ QnG Tryz.f119 Qdc:=fun t=>by kernel_rfl
theorem Qzq:EQ Qsw Tryz.f115 QeT:=fun t=>by kernel_rfl
theorem Qwj:EQ Qpo Tryz.f276 Qeh:=fun t=>by kernel_rfl
theorem QFP:EQ QFR Tryz.f37 QFw:=fun t=>by kernel_rfl
theorem Qtf:EQ Qli Tryz.f159 QaU:=fun t=>by kernel_rfl
theorem Qws:EQ Qoq Tryz.f173 Qew:=fun t=>by kernel_rfl
theorem Qkk:EQ QfH Tryz.f76 Yu:=fun t=>by kernel_rfl
theorem QrQ:EQ QjG Tryz.f240 Qbl:=fun t=>by kernel_rfl
theorem Qvj:EQ QmL Tryz.f78 Qdy:=fun t=>by kernel_rfl
theorem Qus:EQ QmJ Tryz.f41 Qda:=fun t=>by kernel_rfl
theorem QrH:EQ QjH Tryz.f56 Qbf:=fun t=>by kernel_rfl
theorem Qw4:EQ QoO Tryz.f166 Qcj:=fun t=>by kernel_rfl
theorem Qp5:EQ QiR Tryz.f211 Qaw:=fun t=>by kernel_rfl
theorem Qvx:EQ QnJ Tryz.f214 Qdt:=fun t=>by kernel_rfl
theorem QrP:EQ QjE Tryz.f224 Qbo:=fun t=>by kernel_rfl
theorem Qwr:EQ QpK Tryz.f47 JT:=fun t=>by kernel_rfl
theorem Qmz:EQ Qhz Tryz.f109 Je:=fun t=>by kernel_rfl
theorem QwS:EQ Qpp Tryz.f111 QeG:=fun t=>by kernel_rfl
theorem Qnl:EQ Qhl Tryz.f182 Jc:=fun t=>by kernel_rfl
theorem QtB:EQ QkW Tryz.f154 QcB:=fun t=>by kernel_rfl
theorem QtM:EQ QlQ Tryz.f149 Jv:=fun t=>by kernel_rfl
theorem QzI:EQ Qsc Tryz.f65 ZD:=fun t=>by kernel_rfl
theorem QfA:EQ QaD Tryz.f84 Qy:=fun t=>by kernel_rfl
theorem QsU:EQ QkA Tryz.f143 Qad:=fun t=>by kernel_rfl
theorem QsV:EQ Qkq Tryz.f209 QbQ:=fun t=>by kernel_rfl
end GL
end Go.Dx

