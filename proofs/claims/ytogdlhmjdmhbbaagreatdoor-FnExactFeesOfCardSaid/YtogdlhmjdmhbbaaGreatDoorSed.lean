/- The executor finds what each function computes: by computation -/
import Derived.Test.YtogdlhmjdmhbbaaGreatDoorSca
set_option linter.unusedVariables false
set_option linter.unusedSimpArgs false
set_option maxRecDepth 100000
set_option maxHeartbeats 0
namespace Go.Dx
open Go.Proofs
namespace GL

theorem QxM (t:TupI (Qbb.ins.map PS.sh)):runF Qm1 Tryz.f144 Qbb t=Qbb.F t:=by kernel_rfl
theorem QwK (t:TupI (QdH.ins.map PS.sh)):runF Qnn Tryz.f61 QdH t=QdH.F t:=by kernel_rfl
theorem QvR (t:TupI (Qav.ins.map PS.sh)):runF QlR Tryz.f93 Qav t=Qav.F t:=by kernel_rfl
theorem Qt0 (t:TupI (Qcs.ins.map PS.sh)):runF Qlh Tryz.f145 Qcs t=Qcs.F t:=by kernel_rfl
theorem Qxv (t:TupI (QdO.ins.map PS.sh)):runF Qnh Tryz.f194 QdO t=QdO.F t:=by kernel_rfl
theorem QrC (t:TupI (J6.ins.map PS.sh)):runF Qkz Tryz.f154 J6 t=J6.F t:=by kernel_rfl
theorem Qye (t:TupI (QdU.ins.map PS.sh)):runF Qni Tryz.f195 QdU t=QdU.F t:=by kernel_rfl
theorem QvK (t:TupI (QcF.ins.map PS.sh)):runF Qlk Tryz.f54 QcF t=QcF.F t:=by kernel_rfl
theorem Qf4 (t:TupI (Zk.ins.map PS.sh)):runF Qas Tryz.f179 Zk t=Zk.F t:=by kernel_rfl
theorem Qpy (t:TupI (Qah.ins.map PS.sh)):runF QiS Tryz.f83 Qah t=Qah.F t:=by kernel_rfl
theorem QbS (t:TupI (QN.ins.map PS.sh)):runF Yx Tryz.f183 QN t=QN.F t:=by kernel_rfl
theorem Qlg (t:TupI (YI.ins.map PS.sh)):runF QgL Tryz.f103 YI t=YI.F t:=by kernel_rfl
theorem QAV (t:TupI (Qez.ins.map PS.sh)):runF Qn2 Tryz.f208 Qez t=Qez.F t:=by kernel_rfl
theorem Qoo (t:TupI (Z8.ins.map PS.sh)):runF Qio Tryz.f169 Z8 t=Z8.F t:=by kernel_rfl
theorem QAO (t:TupI (JJ.ins.map PS.sh)):runF Qoy Tryz.f114 JJ t=JJ.F t:=by kernel_rfl
theorem Qtk (t:TupI (Qbf.ins.map PS.sh)):runF Qkl Tryz.f92 Qbf t=Qbf.F t:=by kernel_rfl
theorem QBI (t:TupI (QfO.ins.map PS.sh)):runF Qqd Tryz.f162 QfO t=QfO.F t:=by kernel_rfl
theorem QgY (t:TupI (Zs.ins.map PS.sh)):runF Qa2 Tryz.f257 Zs t=Zs.F t:=by kernel_rfl
theorem Qqo (t:TupI (QaL.ins.map PS.sh)):runF QjQ Tryz.f44 QaL t=QaL.F t:=by kernel_rfl
theorem Ql4 (t:TupI (YJ.ins.map PS.sh)):runF QgM Tryz.f185 YJ t=YJ.F t:=by kernel_rfl
theorem Qmw (t:TupI (YU.ins.map PS.sh)):runF Qhi Tryz.f56 YU t=YU.F t:=by kernel_rfl
theorem QbY (t:TupI (QA.ins.map PS.sh)):runF YD Tryz.f214 QA t=QA.F t:=by kernel_rfl
theorem QBJ (t:TupI (Qd4.ins.map PS.sh)):runF Qp5 Tryz.f180 Qd4 t=Qd4.F t:=by kernel_rfl
theorem QrI (t:TupI (Qbk.ins.map PS.sh)):runF Qkv Tryz.f210 Qbk t=Qbk.F t:=by kernel_rfl
theorem Qw9 (t:TupI (Qds.ins.map PS.sh)):runF Qnu Tryz.f146 Qds t=Qds.F t:=by kernel_rfl
theorem Qx8 (t:TupI (Qdx.ins.map PS.sh)):runF Qnk Tryz.f105 Qdx t=Qdx.F t:=by kernel_rfl
theorem Qsi (t:TupI (Y8.ins.map PS.sh)):runF Qkr Tryz.f95 Y8 t=Y8.F t:=by kernel_rfl
theorem Qip (t:TupI (ZN.ins.map PS.sh)):runF QcO Tryz.f129 ZN t=ZN.F t:=by kernel_rfl
theorem QfL (t:TupI (Zf.ins.map PS.sh)):runF Qak Tryz.f231 Zf t=Zf.F t:=by kernel_rfl
theorem Qee (t:TupI (QJ.ins.map PS.sh)):runF Jm Tryz.f124 QJ t=QJ.F t:=by kernel_rfl
end GL
end Go.Dx

