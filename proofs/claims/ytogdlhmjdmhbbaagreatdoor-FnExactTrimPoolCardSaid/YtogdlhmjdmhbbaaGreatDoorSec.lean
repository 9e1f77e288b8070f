/- The executor finds what each function computes: by computation -/
import Derived.Test.YtogdlhmjdmhbbaaGreatDoorSca
set_option linter.unusedVariables false
set_option linter.unusedSimpArgs false
set_option maxRecDepth 100000
set_option maxHeartbeats 0
namespace Go.Dx
open Go.Proofs
namespace GL

theorem Qxk (t:TupI (QdC.ins.map PS.sh)):runF Qno Tryz.f111 QdC t=QdC.F t:=by kernel_rfl
theorem QwK (t:TupI (QdH.ins.map PS.sh)):runF Qnn Tryz.f61 QdH t=QdH.F t:=by kernel_rfl
theorem QvR (t:TupI (Qav.ins.map PS.sh)):runF QlR Tryz.f93 Qav t=Qav.F t:=by kernel_rfl
theorem Qt0 (t:TupI (Qcs.ins.map PS.sh)):runF Qlh Tryz.f145 Qcs t=Qcs.F t:=by kernel_rfl
theorem Qxv (t:TupI (QdO.ins.map PS.sh)):runF Qnh Tryz.f194 QdO t=QdO.F t:=by kernel_rfl
theorem QrC (t:TupI (J6.ins.map PS.sh)):runF Qkz Tryz.f154 J6 t=J6.F t:=by kernel_rfl
theorem Qye (t:TupI (QdU.ins.map PS.sh)):runF Qni Tryz.f195 QdU t=QdU.F t:=by kernel_rfl
theorem QvK (t:TupI (QcF.ins.map PS.sh)):runF Qlk Tryz.f54 QcF t=QcF.F t:=by kernel_rfl
theorem Qf4 (t:TupI (Zk.ins.map PS.sh)):runF Qas Tryz.f179 Zk t=Zk.F t:=by kernel_rfl
theorem Qo2 (t:TupI (JN.ins.map PS.sh)):runF Qix Tryz.f100 JN t=JN.F t:=by kernel_rfl
theorem Qxy (t:TupI (QdP.ins.map PS.sh)):runF QnC Tryz.f157 QdP t=QdP.F t:=by kernel_rfl
theorem Qft (t:TupI (Zc.ins.map PS.sh)):runF Qac Tryz.f130 Zc t=Zc.F t:=by kernel_rfl
theorem QqZ (t:TupI (QaC.ins.map PS.sh)):runF QjD Tryz.f47 QaC t=QaC.F t:=by kernel_rfl
theorem Qq1 (t:TupI (QaO.ins.map PS.sh)):runF Qjs Tryz.f204 QaO t=QaO.F t:=by kernel_rfl
theorem Quh (t:TupI (Qcz.ins.map PS.sh)):runF Ql7 Tryz.f116 Qcz t=Qcz.F t:=by kernel_rfl
theorem Qtk (t:TupI (Qbf.ins.map PS.sh)):runF Qkl Tryz.f92 Qbf t=Qbf.F t:=by kernel_rfl
theorem QBD (t:TupI (QfS.ins.map PS.sh)):runF Qp7 Tryz.f75 QfS t=QfS.F t:=by kernel_rfl
theorem QgY (t:TupI (Zs.ins.map PS.sh)):runF Qa2 Tryz.f257 Zs t=Zs.F t:=by kernel_rfl
theorem QJu (t:TupI (QIh.ins.map PS.sh)):runF QIM Tryz.f66 QIh t=QIh.F t:=by kernel_rfl
theorem QtM (t:TupI (Qcn.ins.map PS.sh)):runF Qmf Tryz.f10 Qcn t=Qcn.F t:=by kernel_rfl
theorem QJX (t:TupI (QIt.ins.map PS.sh)):runF QIU Tryz.f64 QIt t=QIt.F t:=by kernel_rfl
theorem QzC (t:TupI (QeV.ins.map PS.sh)):runF Qob Tryz.f104 QeV t=QeV.F t:=by kernel_rfl
theorem QwQ (t:TupI (QdI.ins.map PS.sh)):runF QnA Tryz.f164 QdI t=QdI.F t:=by kernel_rfl
theorem Qit (t:TupI (ZM.ins.map PS.sh)):runF QcQ Tryz.f137 ZM t=ZM.F t:=by kernel_rfl
theorem QsK (t:TupI (Qbi.ins.map PS.sh)):runF Qku Tryz.f9 Qbi t=Qbi.F t:=by kernel_rfl
theorem QBi (t:TupI (QeJ.ins.map PS.sh)):runF Qot Tryz.f88 QeJ t=QeJ.F t:=by kernel_rfl
theorem Qx8 (t:TupI (Qdx.ins.map PS.sh)):runF Qnk Tryz.f105 Qdx t=Qdx.F t:=by kernel_rfl
theorem QJF (t:TupI (QIm.ins.map PS.sh)):runF QIR Tryz.f67 QIm t=QIm.F t:=by kernel_rfl
theorem Qzl (t:TupI (Qcx.ins.map PS.sh)):runF Qow Tryz.f119 Qcx t=Qcx.F t:=by kernel_rfl
theorem QBl (t:TupI (QeK.ins.map PS.sh)):runF Qn9 Tryz.f120 QeK t=QeK.F t:=by kernel_rfl
theorem QtX (t:TupI (Qcj.ins.map PS.sh)):runF Qll Tryz.f211 Qcj t=Qcj.F t:=by kernel_rfl
end GL
end Go.Dx

