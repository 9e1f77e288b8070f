/- The executor finds what each function computes: by computation -/
import Derived.Test.YtogdlhmjdmhbbaaGreatDoorSca
set_option linter.unusedVariables false
set_option linter.unusedSimpArgs false
set_option maxRecDepth 100000
set_option maxHeartbeats 0
namespace Go.Dx
open Go.Proofs
namespace GL

theorem Qxk (t:TupI (QdC.ins.map PS.sh)):runF Qno Tryz.f111 QdC t=QdC.F t:=by kernel_rfl
theorem QwK (t:TupI (QdH.ins.map PS.sh)):runF Qnn Tryz.f61 QdH t=QdH.F t:=by kernel_rfl
theorem QvR (t:TupI (Qav.ins.map PS.sh)):runF QlR Tryz.f93 Qav t=Qav.F t:=by kernel_rfl
theorem Qt0 (t:TupI (Qcs.ins.map PS.sh)):runF Qlh Tryz.f145 Qcs t=Qcs.F t:=by kernel_rfl
theorem Qlp (t:TupI (YN.ins.map PS.sh)):runF QgS Tryz.f57 YN t=YN.F t:=by kernel_rfl
theorem QMl (t:TupI (QLX.ins.map PS.sh)):runF QL9 Tryz.f37 QLX t=QLX.F t:=by kernel_rfl
theorem Qe8 (t:TupI (Zb.ins.map PS.sh)):runF JX Tryz.f166 Zb t=Zb.F t:=by kernel_rfl
theorem QJW (t:TupI (QIr.ins.map PS.sh)):runF QIS Tryz.f65 QIr t=QIr.F t:=by kernel_rfl
theorem Qx6 (t:TupI (QdL.ins.map PS.sh)):runF Qna Tryz.f115 QdL t=QdL.F t:=by kernel_rfl
theorem Qw8 (t:TupI (QdE.ins.map PS.sh)):runF Qnv Tryz.f190 QdE t=QdE.F t:=by kernel_rfl
theorem Qql (t:TupI (Js.ins.map PS.sh)):runF QjB Tryz.f151 Js t=Js.F t:=by kernel_rfl
theorem Qlg (t:TupI (YI.ins.map PS.sh)):runF QgL Tryz.f103 YI t=YI.F t:=by kernel_rfl
theorem QAV (t:TupI (Qez.ins.map PS.sh)):runF Qn2 Tryz.f208 Qez t=Qez.F t:=by kernel_rfl
theorem Qon (t:TupI (YO.ins.map PS.sh)):runF QiC Tryz.f84 YO t=YO.F t:=by kernel_rfl
theorem QI7 (t:TupI (QIb.ins.map PS.sh)):runF QIJ Tryz.f68 QIb t=QIb.F t:=by kernel_rfl
theorem QeH (t:TupI (Qv.ins.map PS.sh)):runF JP Tryz.f133 Qv t=Qv.F t:=by kernel_rfl
theorem QyZ (t:TupI (Qb8.ins.map PS.sh)):runF QoM Tryz.f148 Qb8 t=Qb8.F t:=by kernel_rfl
theorem Qrl (t:TupI (QaW.ins.map PS.sh)):runF QjJ Tryz.f48 QaW t=QaW.F t:=by kernel_rfl
theorem QJu (t:TupI (QIh.ins.map PS.sh)):runF QIM Tryz.f66 QIh t=QIh.F t:=by kernel_rfl
theorem Ql4 (t:TupI (YJ.ins.map PS.sh)):runF QgM Tryz.f185 YJ t=YJ.F t:=by kernel_rfl
theorem Quy (t:TupI (Qcp.ins.map PS.sh)):runF QlD Tryz.f17 Qcp t=Qcp.F t:=by kernel_rfl
theorem Qvx (t:TupI (Qcq.ins.map PS.sh)):runF Ql5 Tryz.f239 Qcq t=Qcq.F t:=by kernel_rfl
theorem QbY (t:TupI (QA.ins.map PS.sh)):runF YD Tryz.f214 QA t=QA.F t:=by kernel_rfl
theorem Qs5 (t:TupI (Qaa.ins.map PS.sh)):runF Qkc Tryz.f108 Qaa t=Qaa.F t:=by kernel_rfl
theorem Qol (t:TupI (JG.ins.map PS.sh)):runF Qif Tryz.f172 JG t=JG.F t:=by kernel_rfl
theorem QJZ (t:TupI (QIs.ins.map PS.sh)):runF QIT Tryz.f26 QIs t=QIs.F t:=by kernel_rfl
theorem Qx8 (t:TupI (Qdx.ins.map PS.sh)):runF Qnk Tryz.f105 Qdx t=Qdx.F t:=by kernel_rfl
theorem QJH (t:TupI (QIl.ins.map PS.sh)):runF QIO Tryz.f25 QIl t=QIl.F t:=by kernel_rfl
theorem Qip (t:TupI (ZN.ins.map PS.sh)):runF QcO Tryz.f129 ZN t=ZN.F t:=by kernel_rfl
theorem QtE (t:TupI (QcJ.ins.map PS.sh)):runF Qlw Tryz.f45 QcJ t=QcJ.F t:=by kernel_rfl
theorem Qsc (t:TupI (Y9.ins.map PS.sh)):runF QkJ Tryz.f159 Y9 t=Y9.F t:=by kernel_rfl
end GL
end Go.Dx

