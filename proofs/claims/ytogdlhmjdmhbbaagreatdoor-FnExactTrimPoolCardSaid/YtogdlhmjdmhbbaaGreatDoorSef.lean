/- The executor finds what each function computes: by computation -/
import Derived.Test.YtogdlhmjdmhbbaaGreatDoorSca
set_option linter.unusedVariables false
set_option linter.unusedSimpArgs false
set_option maxRecDepth 100000
set_option maxHeartbeats 0
namespace Go.Dx
open Go.Proofs
namespace GL

theorem QIZ (t:TupI (QH8.ins.map PS.sh)):runF QIH Tryz.f5 QH8 t=QH8.F t:=by kernel_rfl
theorem Qsu (t:TupI (Qby.ins.map PS.sh)):runF Qkx Tryz.f110 Qby t=Qby.F t:=by kernel_rfl
theorem JE (t:TupI (Qs.ins.map PS.sh)):runF ZH Tryz.f201 Qs t=Qs.F t:=by kernel_rfl
theorem Qxo (t:TupI (QdG.ins.map PS.sh)):runF Qm3 Tryz.f161 QdG t=QdG.F t:=by kernel_rfl
theorem QrE (t:TupI (Qbq.ins.map PS.sh)):runF QkB Tryz.f218 Qbq t=Qbq.F t:=by kernel_rfl
theorem Qvw (t:TupI (Qcc.ins.map PS.sh)):runF Qlv Tryz.f51 Qcc t=Qcc.F t:=by kernel_rfl
theorem Qe8 (t:TupI (Zb.ins.map PS.sh)):runF JX Tryz.f166 Zb t=Zb.F t:=by kernel_rfl
theorem QJW (t:TupI (QIr.ins.map PS.sh)):runF QIS Tryz.f65 QIr t=QIr.F t:=by kernel_rfl
theorem Qx6 (t:TupI (QdL.ins.map PS.sh)):runF Qna Tryz.f115 QdL t=QdL.F t:=by kernel_rfl
theorem Qvr (t:TupI (QcK.ins.map PS.sh)):runF QlQ Tryz.f101 QcK t=QcK.F t:=by kernel_rfl
theorem QbS (t:TupI (QN.ins.map PS.sh)):runF Yx Tryz.f183 QN t=QN.F t:=by kernel_rfl
theorem Qyi (t:TupI (QdA.ins.map PS.sh)):runF Qnr Tryz.f200 QdA t=QdA.F t:=by kernel_rfl
theorem QBb (t:TupI (Qey.ins.map PS.sh)):runF QoG Tryz.f147 Qey t=Qey.F t:=by kernel_rfl
theorem QzK (t:TupI (Qe2.ins.map PS.sh)):runF Qom Tryz.f70 Qe2 t=Qe2.F t:=by kernel_rfl
theorem QeH (t:TupI (Qv.ins.map PS.sh)):runF JP Tryz.f133 Qv t=Qv.F t:=by kernel_rfl
theorem Qju (t:TupI (Z7.ins.map PS.sh)):runF QeD Tryz.f89 Z7 t=Z7.F t:=by kernel_rfl
theorem QBI (t:TupI (QfO.ins.map PS.sh)):runF Qqd Tryz.f162 QfO t=QfO.F t:=by kernel_rfl
theorem Qto (t:TupI (Yf.ins.map PS.sh)):runF QlC Tryz.f117 Yf t=Yf.F t:=by kernel_rfl
theorem Qu8 (t:TupI (Qck.ins.map PS.sh)):runF QlH Tryz.f142 Qck t=Qck.F t:=by kernel_rfl
theorem Quy (t:TupI (Qcp.ins.map PS.sh)):runF QlD Tryz.f17 Qcp t=Qcp.F t:=by kernel_rfl
theorem QJk (t:TupI (QIf.ins.map PS.sh)):runF QIL Tryz.f24 QIf t=QIf.F t:=by kernel_rfl
theorem QbY (t:TupI (QA.ins.map PS.sh)):runF YD Tryz.f214 QA t=QA.F t:=by kernel_rfl
theorem QBJ (t:TupI (Qd4.ins.map PS.sh)):runF Qp5 Tryz.f180 Qd4 t=Qd4.F t:=by kernel_rfl
theorem Qol (t:TupI (JG.ins.map PS.sh)):runF Qif Tryz.f172 JG t=JG.F t:=by kernel_rfl
theorem QAp (t:TupI (QeM.ins.map PS.sh)):runF Qok Tryz.f149 QeM t=QeM.F t:=by kernel_rfl
theorem QBt (t:TupI (Qd2.ins.map PS.sh)):runF Qqc Tryz.f97 Qd2 t=Qd2.F t:=by kernel_rfl
theorem QBB (t:TupI (QbP.ins.map PS.sh)):runF QpY Tryz.f160 QbP t=QbP.F t:=by kernel_rfl
theorem Qiw (t:TupI (ZL.ins.map PS.sh)):runF QcV Tryz.f135 ZL t=ZL.F t:=by kernel_rfl
theorem Qvb (t:TupI (QcA.ins.map PS.sh)):runF QlB Tryz.f40 QcA t=QcA.F t:=by kernel_rfl
theorem QAq (t:TupI (Qe0.ins.map PS.sh)):runF Qor Tryz.f213 Qe0 t=Qe0.F t:=by kernel_rfl
theorem Qls (t:TupI (Z6.ins.map PS.sh)):runF QgT Tryz.f106 Z6 t=Z6.F t:=by kernel_rfl
end GL
end Go.Dx

