/- The executor finds what each function computes: by computation -/
import Derived.Test.YtogdlhmjdmhbbaaGreatDoorSca
set_option linter.unusedVariables false
set_option linter.unusedSimpArgs false
set_option maxRecDepth 100000
set_option maxHeartbeats 0
namespace Go.Dx
open Go.Proofs
namespace GL

theorem QxM (t:TupI (Qbb.ins.map PS.sh)):runF Qm1 Tryz.f144 Qbb t=Qbb.F t:=by kernel_rfl
theorem Qyd (t:TupI (QdV.ins.map PS.sh)):runF Qm2 Tryz.f128 QdV t=QdV.F t:=by kernel_rfl
theorem QtS (t:TupI (Qcd.ins.map PS.sh)):runF QlU Tryz.f209 Qcd t=Qcd.F t:=by kernel_rfl
theorem Qt0 (t:TupI (Qcs.ins.map PS.sh)):runF Qlh Tryz.f145 Qcs t=Qcs.F t:=by kernel_rfl
theorem Qlp (t:TupI (YN.ins.map PS.sh)):runF QgS Tryz.f57 YN t=YN.F t:=by kernel_rfl
theorem QrC (t:TupI (J6.ins.map PS.sh)):runF Qkz Tryz.f154 J6 t=J6.F t:=by kernel_rfl
theorem Qye (t:TupI (QdU.ins.map PS.sh)):runF Qni Tryz.f195 QdU t=QdU.F t:=by kernel_rfl
theorem QvK (t:TupI (QcF.ins.map PS.sh)):runF Qlk Tryz.f54 QcF t=QcF.F t:=by kernel_rfl
theorem Qf4 (t:TupI (Zk.ins.map PS.sh)):runF Qas Tryz.f179 Zk t=Zk.F t:=by kernel_rfl
theorem Qo2 (t:TupI (JN.ins.map PS.sh)):runF Qix Tryz.f100 JN t=JN.F t:=by kernel_rfl
theorem Qxy (t:TupI (QdP.ins.map PS.sh)):runF QnC Tryz.f157 QdP t=QdP.F t:=by kernel_rfl
theorem QAV (t:TupI (Qez.ins.map PS.sh)):runF Qn2 Tryz.f208 Qez t=Qez.F t:=by kernel_rfl
theorem Qqj (t:TupI (QaP.ins.map PS.sh)):runF Qjp Tryz.f39 QaP t=QaP.F t:=by kernel_rfl
theorem Qq1 (t:TupI (QaO.ins.map PS.sh)):runF Qjs Tryz.f204 QaO t=QaO.F t:=by kernel_rfl
theorem Qsn (t:TupI (QbE.ins.map PS.sh)):runF QkH Tryz.f220 QbE t=QbE.F t:=by kernel_rfl
theorem Qju (t:TupI (Z7.ins.map PS.sh)):runF QeD Tryz.f89 Z7 t=Z7.F t:=by kernel_rfl
theorem QpA (t:TupI (Qaj.ins.map PS.sh)):runF QiQ Tryz.f219 Qaj t=Qaj.F t:=by kernel_rfl
theorem QgY (t:TupI (Zs.ins.map PS.sh)):runF Qa2 Tryz.f257 Zs t=Zs.F t:=by kernel_rfl
theorem QJu (t:TupI (QIh.ins.map PS.sh)):runF QIM Tryz.f66 QIh t=QIh.F t:=by kernel_rfl
theorem Quy (t:TupI (Qcp.ins.map PS.sh)):runF QlD Tryz.f17 Qcp t=Qcp.F t:=by kernel_rfl
theorem Qtp (t:TupI (QcG.ins.map PS.sh)):runF Qlq Tryz.f41 QcG t=QcG.F t:=by kernel_rfl
theorem QbY (t:TupI (QA.ins.map PS.sh)):runF YD Tryz.f214 QA t=QA.F t:=by kernel_rfl
theorem QrX (t:TupI (QbD.ins.map PS.sh)):runF Qkn Tryz.f158 QbD t=QbD.F t:=by kernel_rfl
theorem Qol (t:TupI (JG.ins.map PS.sh)):runF Qif Tryz.f172 JG t=JG.F t:=by kernel_rfl
theorem QI6 (t:TupI (QIe.ins.map PS.sh)):runF QII Tryz.f28 QIe t=QIe.F t:=by kernel_rfl
theorem QmH (t:TupI (Y7.ins.map PS.sh)):runF Qhl Tryz.f188 Y7 t=Y7.F t:=by kernel_rfl
theorem Qx8 (t:TupI (Qdx.ins.map PS.sh)):runF Qnk Tryz.f105 Qdx t=Qdx.F t:=by kernel_rfl
theorem QJD (t:TupI (QH6.ins.map PS.sh)):runF QIP Tryz.f27 QH6 t=QH6.F t:=by kernel_rfl
theorem Qip (t:TupI (ZN.ins.map PS.sh)):runF QcO Tryz.f129 ZN t=ZN.F t:=by kernel_rfl
theorem QpJ (t:TupI (Qai.ins.map PS.sh)):runF QiU Tryz.f223 Qai t=Qai.F t:=by kernel_rfl
theorem QAq (t:TupI (Qe0.ins.map PS.sh)):runF Qor Tryz.f213 Qe0 t=Qe0.F t:=by kernel_rfl
end GL
end Go.Dx

