/- The executor finds what each function computes: by computation -/
import Derived.Test.YtogdlhmjdmhbbaaGreatDoorSca
set_option linter.unusedVariables false
set_option linter.unusedSimpArgs false
set_option maxRecDepth 100000
set_option maxHeartbeats 0
namespace Go.Dx
open Go.Proofs
namespace GL

theorem Qxk (t:TupI (QdC.ins.map PS.sh)):runF Qno Tryz.f111 QdC t=QdC.F t:=by kernel_rfl
theorem QwK (t:TupI (QdH.ins.map PS.sh)):runF Qnn Tryz.f61 QdH t=QdH.F t:=by kernel_rfl
theorem QvR (t:TupI (Qav.ins.map PS.sh)):runF QlR Tryz.f93 Qav t=Qav.F t:=by kernel_rfl
theorem QtC (t:TupI (Qco.ins.map PS.sh)):runF Qlt Tryz.f177 Qco t=Qco.F t:=by kernel_rfl
theorem Qlp (t:TupI (YN.ins.map PS.sh)):runF QgS Tryz.f57 YN t=YN.F t:=by kernel_rfl
theorem QqQ (t:TupI (QaN.ins.map PS.sh)):runF QjU Tryz.f15 QaN t=QaN.F t:=by kernel_rfl
theorem Qye (t:TupI (QdU.ins.map PS.sh)):runF Qni Tryz.f195 QdU t=QdU.F t:=by kernel_rfl
theorem Qq9 (t:TupI (QaI.ins.map PS.sh)):runF Qjq Tryz.f53 QaI t=QaI.F t:=by kernel_rfl
theorem Qys (t:TupI (Qd0.ins.map PS.sh)):runF QnF Tryz.f43 Qd0 t=Qd0.F t:=by kernel_rfl
theorem Qf4 (t:TupI (Zk.ins.map PS.sh)):runF Qas Tryz.f179 Zk t=Zk.F t:=by kernel_rfl
theorem QgD (t:TupI (Zq.ins.map PS.sh)):runF QaE Tryz.f122 Zq t=Zq.F t:=by kernel_rfl
theorem Qql (t:TupI (Js.ins.map PS.sh)):runF QjB Tryz.f151 Js t=Js.F t:=by kernel_rfl
theorem QAV (t:TupI (Qez.ins.map PS.sh)):runF Qn2 Tryz.f208 Qez t=Qez.F t:=by kernel_rfl
theorem Qtb (t:TupI (QbF.ins.map PS.sh)):runF Qkw Tryz.f212 QbF t=QbF.F t:=by kernel_rfl
theorem Qqj (t:TupI (QaP.ins.map PS.sh)):runF Qjp Tryz.f39 QaP t=QaP.F t:=by kernel_rfl
theorem QAO (t:TupI (JJ.ins.map PS.sh)):runF Qoy Tryz.f114 JJ t=JJ.F t:=by kernel_rfl
theorem Qju (t:TupI (Z7.ins.map PS.sh)):runF QeD Tryz.f89 Z7 t=Z7.F t:=by kernel_rfl
theorem Qwy (t:TupI (QdS.ins.map PS.sh)):runF Qm4 Tryz.f80 QdS t=QdS.F t:=by kernel_rfl
theorem QxF (t:TupI (QdF.ins.map PS.sh)):runF Qm9 Tryz.f102 QdF t=QdF.F t:=by kernel_rfl
theorem QDh (t:TupI (Qdb.ins.map PS.sh)):runF QsB Tryz.f152 Qdb t=Qdb.F t:=by kernel_rfl
theorem Qzf (t:TupI (QeU.ins.map PS.sh)):runF QoH Tryz.f150 QeU t=QeU.F t:=by kernel_rfl
theorem Qtp (t:TupI (QcG.ins.map PS.sh)):runF Qlq Tryz.f41 QcG t=QcG.F t:=by kernel_rfl
theorem QbY (t:TupI (QA.ins.map PS.sh)):runF YD Tryz.f214 QA t=QA.F t:=by kernel_rfl
theorem QrX (t:TupI (QbD.ins.map PS.sh)):runF Qkn Tryz.f158 QbD t=QbD.F t:=by kernel_rfl
theorem Qtv (t:TupI (Qce.ins.map PS.sh)):runF QlA Tryz.f46 Qce t=Qce.F t:=by kernel_rfl
theorem QsK (t:TupI (Qbi.ins.map PS.sh)):runF Qku Tryz.f9 Qbi t=Qbi.F t:=by kernel_rfl
theorem QmH (t:TupI (Y7.ins.map PS.sh)):runF Qhl Tryz.f188 Y7 t=Y7.F t:=by kernel_rfl
theorem QJH (t:TupI (QIl.ins.map PS.sh)):runF QIO Tryz.f25 QIl t=QIl.F t:=by kernel_rfl
theorem Qsi (t:TupI (Y8.ins.map PS.sh)):runF Qkr Tryz.f95 Y8 t=Y8.F t:=by kernel_rfl
theorem Qip (t:TupI (ZN.ins.map PS.sh)):runF QcO Tryz.f129 ZN t=ZN.F t:=by kernel_rfl
theorem QAq (t:TupI (Qe0.ins.map PS.sh)):runF Qor Tryz.f213 Qe0 t=Qe0.F t:=by kernel_rfl
theorem Qls (t:TupI (Z6.ins.map PS.sh)):runF QgT Tryz.f106 Z6 t=Z6.F t:=by kernel_rfl
end GL
end Go.Dx

