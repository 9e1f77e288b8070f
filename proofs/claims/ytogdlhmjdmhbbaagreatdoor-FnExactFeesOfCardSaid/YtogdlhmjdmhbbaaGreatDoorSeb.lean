/- The executor finds what each function computes: by computation -/
import Derived.Test.YtogdlhmjdmhbbaaGreatDoorSca
set_option linter.unusedVariables false
set_option linter.unusedSimpArgs false
set_option maxRecDepth 100000
set_option maxHeartbeats 0
namespace Go.Dx
open Go.Proofs
namespace GL

theorem QvA (t:TupI (Qca.ins.map PS.sh)):runF Qmd Tryz.f163 Qca t=Qca.F t:=by kernel_rfl
theorem QnO (t:TupI (Jh.ins.map PS.sh)):runF QhL Tryz.f126 Jh t=Jh.F t:=by kernel_rfl
theorem QrE (t:TupI (Qbq.ins.map PS.sh)):runF QkB Tryz.f218 Qbq t=Qbq.F t:=by kernel_rfl
theorem QHQ (t:TupI (QHw.ins.map PS.sh)):runF QHF Tryz.f20 QHw t=QHw.F t:=by kernel_rfl
theorem QqU (t:TupI (QaB.ins.map PS.sh)):runF Qjv Tryz.f50 QaB t=QaB.F t:=by kernel_rfl
theorem Qq9 (t:TupI (QaI.ins.map PS.sh)):runF Qjq Tryz.f53 QaI t=QaI.F t:=by kernel_rfl
theorem Qx6 (t:TupI (QdL.ins.map PS.sh)):runF Qna Tryz.f115 QdL t=QdL.F t:=by kernel_rfl
theorem Qw8 (t:TupI (QdE.ins.map PS.sh)):runF Qnv Tryz.f190 QdE t=QdE.F t:=by kernel_rfl
theorem QgD (t:TupI (Zq.ins.map PS.sh)):runF QaE Tryz.f122 Zq t=Zq.F t:=by kernel_rfl
theorem Qyi (t:TupI (QdA.ins.map PS.sh)):runF Qnr Tryz.f200 QdA t=QdA.F t:=by kernel_rfl
theorem QHH (t:TupI (QHs.ins.map PS.sh)):runF QHA Tryz.f21 QHs t=QHs.F t:=by kernel_rfl
theorem QvW (t:TupI (Qct.ins.map PS.sh)):runF Ql6 Tryz.f13 Qct t=Qct.F t:=by kernel_rfl
theorem QzK (t:TupI (Qe2.ins.map PS.sh)):runF Qom Tryz.f70 Qe2 t=Qe2.F t:=by kernel_rfl
theorem Qju (t:TupI (Z7.ins.map PS.sh)):runF QeD Tryz.f89 Z7 t=Z7.F t:=by kernel_rfl
theorem QBD (t:TupI (QfS.ins.map PS.sh)):runF Qp7 Tryz.f75 QfS t=QfS.F t:=by kernel_rfl
theorem QdN (t:TupI (QW.ins.map PS.sh)):runF Jd Tryz.f181 QW t=QW.F t:=by kernel_rfl
theorem Qu8 (t:TupI (Qck.ins.map PS.sh)):runF QlH Tryz.f142 Qck t=Qck.F t:=by kernel_rfl
theorem QhD (t:TupI (Zu.ins.map PS.sh)):runF Qbr Tryz.f85 Zu t=Zu.F t:=by kernel_rfl
theorem Qvx (t:TupI (Qcq.ins.map PS.sh)):runF Ql5 Tryz.f239 Qcq t=Qcq.F t:=by kernel_rfl
theorem Qc7 (t:TupI (QU.ins.map PS.sh)):runF Y3 Tryz.f131 QU t=QU.F t:=by kernel_rfl
theorem QsD (t:TupI (Qbx.ins.map PS.sh)):runF Qkm Tryz.f12 Qbx t=Qbx.F t:=by kernel_rfl
theorem QmW (t:TupI (YX.ins.map PS.sh)):runF Qht Tryz.f127 YX t=YX.F t:=by kernel_rfl
theorem QyI (t:TupI (Qdp.ins.map PS.sh)):runF Qnx Tryz.f79 Qdp t=Qdp.F t:=by kernel_rfl
theorem Qya (t:TupI (Qdw.ins.map PS.sh)):runF Qnq Tryz.f165 Qdw t=Qdw.F t:=by kernel_rfl
theorem Qiw (t:TupI (ZL.ins.map PS.sh)):runF QcV Tryz.f135 ZL t=ZL.F t:=by kernel_rfl
theorem Qxt (t:TupI (Qdt.ins.map PS.sh)):runF QnE Tryz.f78 Qdt t=Qdt.F t:=by kernel_rfl
theorem Qsc (t:TupI (Y9.ins.map PS.sh)):runF QkJ Tryz.f159 Y9 t=Y9.F t:=by kernel_rfl
end GL
end Go.Dx

