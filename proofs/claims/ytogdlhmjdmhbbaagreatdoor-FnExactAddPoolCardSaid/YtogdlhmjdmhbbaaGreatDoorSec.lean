/- The executor finds what each function computes: by computation -/
import Derived.Test.YtogdlhmjdmhbbaaGreatDoorSca
set_option linter.unusedVariables false
set_option linter.unusedSimpArgs false
set_option maxRecDepth 100000
set_option maxHeartbeats 0
namespace Go.Dx
open Go.Proofs
namespace GL

theorem Qxk (t:TupI (QdC.ins.map PS.sh)):runF Qno Tryz.f111 QdC t=QdC.F t:=by kernel_rfl
theorem QwK (t:TupI (QdH.ins.map PS.sh)):runF Qnn Tryz.f61 QdH t=QdH.F t:=by kernel_rfl
theorem QvR (t:TupI (Qav.ins.map PS.sh)):runF QlR Tryz.f93 Qav t=Qav.F t:=by kernel_rfl
theorem QtC (t:TupI (Qco.ins.map PS.sh)):runF Qlt Tryz.f177 Qco t=Qco.F t:=by kernel_rfl
theorem Qxv (t:TupI (QdO.ins.map PS.sh)):runF Qnh Tryz.f194 QdO t=QdO.F t:=by kernel_rfl
theorem QuN (t:TupI (Qb7.ins.map PS.sh)):runF QlS Tryz.f176 Qb7 t=Qb7.F t:=by kernel_rfl
theorem QiK (t:TupI (ZK.ins.map PS.sh)):runF QcS Tryz.f113 ZK t=ZK.F t:=by kernel_rfl
theorem QBk (t:TupI (QcI.ins.map PS.sh)):runF Qo3 Tryz.f138 QcI t=QcI.F t:=by kernel_rfl
theorem Qso (t:TupI (J3.ins.map PS.sh)):runF QkF Tryz.f18 J3 t=J3.F t:=by kernel_rfl
theorem Qt8 (t:TupI (Qcg.ins.map PS.sh)):runF Qlu Tryz.f230 Qcg t=Qcg.F t:=by kernel_rfl
theorem Qxr (t:TupI (Qdo.ins.map PS.sh)):runF Qnj Tryz.f96 Qdo t=Qdo.F t:=by kernel_rfl
theorem QAN (t:TupI (QaU.ins.map PS.sh)):runF Qn4 Tryz.f206 QaU t=QaU.F t:=by kernel_rfl
theorem QyD (t:TupI (QdW.ins.map PS.sh)):runF QnB Tryz.f143 QdW t=QdW.F t:=by kernel_rfl
theorem QvW (t:TupI (Qct.ins.map PS.sh)):runF Ql6 Tryz.f13 Qct t=Qct.F t:=by kernel_rfl
theorem QKH (t:TupI (QKs.ins.map PS.sh)):runF QKC Tryz.f31 QKs t=QKs.F t:=by kernel_rfl
theorem QsC (t:TupI (Qbv.ins.map PS.sh)):runF QkE Tryz.f81 Qbv t=Qbv.F t:=by kernel_rfl
theorem Qzy (t:TupI (QeB.ins.map PS.sh)):runF QnW Tryz.f118 QeB t=QeB.F t:=by kernel_rfl
theorem QAv (t:TupI (QaA.ins.map PS.sh)):runF QnR Tryz.f167 QaA t=QaA.F t:=by kernel_rfl
theorem QAf (t:TupI (QaT.ins.map PS.sh)):runF Qof Tryz.f140 QaT t=QaT.F t:=by kernel_rfl
theorem Qzf (t:TupI (QeU.ins.map PS.sh)):runF QoH Tryz.f150 QeU t=QeU.F t:=by kernel_rfl
theorem Qq7 (t:TupI (QaJ.ins.map PS.sh)):runF QjN Tryz.f42 QaJ t=QaJ.F t:=by kernel_rfl
theorem Qmw (t:TupI (YU.ins.map PS.sh)):runF Qhi Tryz.f56 YU t=YU.F t:=by kernel_rfl
theorem Qa3 (t:TupI (Qw.ins.map PS.sh)):runF Yk Tryz.f170 Qw t=Qw.F t:=by kernel_rfl
theorem Qs5 (t:TupI (Qaa.ins.map PS.sh)):runF Qkc Tryz.f108 Qaa t=Qaa.F t:=by kernel_rfl
theorem Qtv (t:TupI (Qce.ins.map PS.sh)):runF QlA Tryz.f46 Qce t=Qce.F t:=by kernel_rfl
theorem Qw9 (t:TupI (Qds.ins.map PS.sh)):runF Qnu Tryz.f146 Qds t=Qds.F t:=by kernel_rfl
theorem Qya (t:TupI (Qdw.ins.map PS.sh)):runF Qnq Tryz.f165 Qdw t=Qdw.F t:=by kernel_rfl
theorem QJH (t:TupI (QIl.ins.map PS.sh)):runF QIO Tryz.f25 QIl t=QIl.F t:=by kernel_rfl
theorem QnH (t:TupI (Yt.ins.map PS.sh)):runF QhN Tryz.f189 Yt t=Yt.F t:=by kernel_rfl
theorem Qzt (t:TupI (JL.ins.map PS.sh)):runF Qo1 Tryz.f69 JL t=JL.F t:=by kernel_rfl
theorem QfL (t:TupI (Zf.ins.map PS.sh)):runF Qak Tryz.f231 Zf t=Zf.F t:=by kernel_rfl
end GL
end Go.Dx

