/- The executor finds what each function computes: by computation -/
import Derived.Test.YtogdlhmjdmhbbaaGreatDoorSca
set_option linter.unusedVariables false
set_option linter.unusedSimpArgs false
set_option maxRecDepth 100000
set_option maxHeartbeats 0
namespace Go.Dx
open Go.Proofs
namespace GL

theorem QtB (t:TupI (Jx.ins.map PS.sh)):runF Ql1 Tryz.f94 Jx t=Jx.F t:=by kernel_rfl
theorem Qyd (t:TupI (QdV.ins.map PS.sh)):runF Qm2 Tryz.f128 QdV t=QdV.F t:=by kernel_rfl
theorem QyB (t:TupI (Qa8.ins.map PS.sh)):runF Qnf Tryz.f99 Qa8 t=Qa8.F t:=by kernel_rfl
theorem QJ8 (t:TupI (QIv.ins.map PS.sh)):runF QIX Tryz.f22 QIv t=QIv.F t:=by kernel_rfl
theorem Qog (t:TupI (JS.ins.map PS.sh)):runF QiG Tryz.f82 JS t=JS.F t:=by kernel_rfl
theorem QuN (t:TupI (Qb7.ins.map PS.sh)):runF QlS Tryz.f176 Qb7 t=Qb7.F t:=by kernel_rfl
theorem QiK (t:TupI (ZK.ins.map PS.sh)):runF QcS Tryz.f113 ZK t=ZK.F t:=by kernel_rfl
theorem QBk (t:TupI (QcI.ins.map PS.sh)):runF Qo3 Tryz.f138 QcI t=QcI.F t:=by kernel_rfl
theorem Qso (t:TupI (J3.ins.map PS.sh)):runF QkF Tryz.f18 J3 t=J3.F t:=by kernel_rfl
theorem Qt8 (t:TupI (Qcg.ins.map PS.sh)):runF Qlu Tryz.f230 Qcg t=Qcg.F t:=by kernel_rfl
theorem Qxr (t:TupI (Qdo.ins.map PS.sh)):runF Qnj Tryz.f96 Qdo t=Qdo.F t:=by kernel_rfl
theorem QAN (t:TupI (QaU.ins.map PS.sh)):runF Qn4 Tryz.f206 QaU t=QaU.F t:=by kernel_rfl
theorem QyD (t:TupI (QdW.ins.map PS.sh)):runF QnB Tryz.f143 QdW t=QdW.F t:=by kernel_rfl
theorem QvW (t:TupI (Qct.ins.map PS.sh)):runF Ql6 Tryz.f13 Qct t=Qct.F t:=by kernel_rfl
theorem Qsn (t:TupI (QbE.ins.map PS.sh)):runF QkH Tryz.f220 QbE t=QbE.F t:=by kernel_rfl
theorem Qym (t:TupI (Q4.ins.map PS.sh)):runF Qm5 Tryz.f123 Q4 t=Q4.F t:=by kernel_rfl
theorem QyZ (t:TupI (Qb8.ins.map PS.sh)):runF QoM Tryz.f148 Qb8 t=Qb8.F t:=by kernel_rfl
theorem Qrl (t:TupI (QaW.ins.map PS.sh)):runF QjJ Tryz.f48 QaW t=QaW.F t:=by kernel_rfl
theorem Qqo (t:TupI (QaL.ins.map PS.sh)):runF QjQ Tryz.f44 QaL t=QaL.F t:=by kernel_rfl
theorem Ql4 (t:TupI (YJ.ins.map PS.sh)):runF QgM Tryz.f185 YJ t=YJ.F t:=by kernel_rfl
theorem Qtp (t:TupI (QcG.ins.map PS.sh)):runF Qlq Tryz.f41 QcG t=QcG.F t:=by kernel_rfl
theorem Qvx (t:TupI (Qcq.ins.map PS.sh)):runF Ql5 Tryz.f239 Qcq t=Qcq.F t:=by kernel_rfl
theorem QrX (t:TupI (QbD.ins.map PS.sh)):runF Qkn Tryz.f158 QbD t=QbD.F t:=by kernel_rfl
theorem Qsl (t:TupI (Qbu.ins.map PS.sh)):runF Qj7 Tryz.f16 Qbu t=Qbu.F t:=by kernel_rfl
theorem QI6 (t:TupI (QIe.ins.map PS.sh)):runF QII Tryz.f28 QIe t=QIe.F t:=by kernel_rfl
theorem QJZ (t:TupI (QIs.ins.map PS.sh)):runF QIT Tryz.f26 QIs t=QIs.F t:=by kernel_rfl
theorem QJe (t:TupI (QIa.ins.map PS.sh)):runF QIK Tryz.f29 QIa t=QIa.F t:=by kernel_rfl
theorem QJD (t:TupI (QH6.ins.map PS.sh)):runF QIP Tryz.f27 QH6 t=QH6.F t:=by kernel_rfl
theorem Qip (t:TupI (ZN.ins.map PS.sh)):runF QcO Tryz.f129 ZN t=ZN.F t:=by kernel_rfl
theorem Qzt (t:TupI (JL.ins.map PS.sh)):runF Qo1 Tryz.f69 JL t=JL.F t:=by kernel_rfl
theorem Qsc (t:TupI (Y9.ins.map PS.sh)):runF QkJ Tryz.f159 Y9 t=Y9.F t:=by kernel_rfl
end GL
end Go.Dx

