/- The executor finds what each function computes: by computation -/
import Derived.Test.YtogdlhmjdmhbbaaGreatDoorSca
set_option linter.unusedVariables false
set_option linter.unusedSimpArgs false
set_option maxRecDepth 100000
set_option maxHeartbeats 0
namespace Go.Dx
open Go.Proofs
namespace GL

theorem QtB (t:TupI (Jx.ins.map PS.sh)):runF Ql1 Tryz.f94 Jx t=Jx.F t:=by kernel_rfl
theorem Qsu (t:TupI (Qby.ins.map PS.sh)):runF Qkx Tryz.f110 Qby t=Qby.F t:=by kernel_rfl
theorem JE (t:TupI (Qs.ins.map PS.sh)):runF ZH Tryz.f201 Qs t=Qs.F t:=by kernel_rfl
theorem Qxo (t:TupI (QdG.ins.map PS.sh)):runF Qm3 Tryz.f161 QdG t=QdG.F t:=by kernel_rfl
theorem QLs (t:TupI (QKR.ins.map PS.sh)):runF QLb Tryz.f71 QKR t=QKR.F t:=by kernel_rfl
theorem QLK (t:TupI (QK0.ins.map PS.sh)):runF QLi Tryz.f73 QK0 t=QK0.F t:=by kernel_rfl
theorem Qe8 (t:TupI (Zb.ins.map PS.sh)):runF JX Tryz.f166 Zb t=Zb.F t:=by kernel_rfl
theorem QhJ (t:TupI (QY.ins.map PS.sh)):runF QbX Tryz.f155 QY t=QY.F t:=by kernel_rfl
theorem Jt (t:TupI (Qr.ins.map PS.sh)):runF ZC Tryz.f187 Qr t=Qr.F t:=by kernel_rfl
theorem QLJ (t:TupI (QKW.ins.map PS.sh)):runF QLp Tryz.f33 QKW t=QKW.F t:=by kernel_rfl
theorem QLw (t:TupI (QKS.ins.map PS.sh)):runF QK9 Tryz.f35 QKS t=QKS.F t:=by kernel_rfl
theorem Qxy (t:TupI (QdP.ins.map PS.sh)):runF QnC Tryz.f157 QdP t=QdP.F t:=by kernel_rfl
theorem Qyi (t:TupI (QdA.ins.map PS.sh)):runF Qnr Tryz.f200 QdA t=QdA.F t:=by kernel_rfl
theorem QqZ (t:TupI (QaC.ins.map PS.sh)):runF QjD Tryz.f47 QaC t=QaC.F t:=by kernel_rfl
theorem Qq1 (t:TupI (QaO.ins.map PS.sh)):runF Qjs Tryz.f204 QaO t=QaO.F t:=by kernel_rfl
theorem QzK (t:TupI (Qe2.ins.map PS.sh)):runF Qom Tryz.f70 Qe2 t=Qe2.F t:=by kernel_rfl
theorem QAK (t:TupI (QeI.ins.map PS.sh)):runF QoR Tryz.f139 QeI t=QeI.F t:=by kernel_rfl
theorem QBI (t:TupI (QfO.ins.map PS.sh)):runF Qqd Tryz.f162 QfO t=QfO.F t:=by kernel_rfl
theorem QdN (t:TupI (QW.ins.map PS.sh)):runF Jd Tryz.f181 QW t=QW.F t:=by kernel_rfl
theorem Qu8 (t:TupI (Qck.ins.map PS.sh)):runF QlH Tryz.f142 Qck t=Qck.F t:=by kernel_rfl
theorem Quy (t:TupI (Qcp.ins.map PS.sh)):runF QlD Tryz.f17 Qcp t=Qcp.F t:=by kernel_rfl
theorem Qq7 (t:TupI (QaJ.ins.map PS.sh)):runF QjN Tryz.f42 QaJ t=QaJ.F t:=by kernel_rfl
theorem Qa3 (t:TupI (Qw.ins.map PS.sh)):runF Yk Tryz.f170 Qw t=Qw.F t:=by kernel_rfl
theorem QBJ (t:TupI (Qd4.ins.map PS.sh)):runF Qp5 Tryz.f180 Qd4 t=Qd4.F t:=by kernel_rfl
theorem Qs4 (t:TupI (Qbe.ins.map PS.sh)):runF QkA Tryz.f132 Qbe t=Qbe.F t:=by kernel_rfl
theorem QBi (t:TupI (QeJ.ins.map PS.sh)):runF Qot Tryz.f88 QeJ t=QeJ.F t:=by kernel_rfl
theorem QJZ (t:TupI (QIs.ins.map PS.sh)):runF QIT Tryz.f26 QIs t=QIs.F t:=by kernel_rfl
theorem QJD (t:TupI (QH6.ins.map PS.sh)):runF QIP Tryz.f27 QH6 t=QH6.F t:=by kernel_rfl
theorem QlW (t:TupI (YL.ins.map PS.sh)):runF QgI Tryz.f184 YL t=YL.F t:=by kernel_rfl
theorem QBl (t:TupI (QeK.ins.map PS.sh)):runF Qn9 Tryz.f120 QeK t=QeK.F t:=by kernel_rfl
theorem QpJ (t:TupI (Qai.ins.map PS.sh)):runF QiU Tryz.f223 Qai t=Qai.F t:=by kernel_rfl
theorem Qee (t:TupI (QJ.ins.map PS.sh)):runF Jm Tryz.f124 QJ t=QJ.F t:=by kernel_rfl
end GL
end Go.Dx

