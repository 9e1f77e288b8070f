/- The executor finds what each function computes: by computation -/
import Derived.Test.YtogdlhmjdmhbbaaGreatDoorSca
set_option linter.unusedVariables false
set_option linter.unusedSimpArgs false
set_option maxRecDepth 100000
set_option maxHeartbeats 0
namespace Go.Dx
open Go.Proofs
namespace GL

theorem Qsu (t:TupI (Qby.ins.map PS.sh)):runF Qkx Tryz.f110 Qby t=Qby.F t:=by kernel_rfl
theorem Qyd (t:TupI (QdV.ins.map PS.sh)):runF Qm2 Tryz.f128 QdV t=QdV.F t:=by kernel_rfl
theorem QyB (t:TupI (Qa8.ins.map PS.sh)):runF Qnf Tryz.f99 Qa8 t=Qa8.F t:=by kernel_rfl
theorem Qxo (t:TupI (QdG.ins.map PS.sh)):runF Qm3 Tryz.f161 QdG t=QdG.F t:=by kernel_rfl
theorem Qi7 (t:TupI (ZX.ins.map PS.sh)):runF Qel Tryz.f49 ZX t=ZX.F t:=by kernel_rfl
theorem QrC (t:TupI (J6.ins.map PS.sh)):runF Qkz Tryz.f154 J6 t=J6.F t:=by kernel_rfl
theorem QiK (t:TupI (ZK.ins.map PS.sh)):runF QcS Tryz.f113 ZK t=ZK.F t:=by kernel_rfl
theorem Qq9 (t:TupI (QaI.ins.map PS.sh)):runF Qjq Tryz.f53 QaI t=QaI.F t:=by kernel_rfl
theorem Qso (t:TupI (J3.ins.map PS.sh)):runF QkF Tryz.f18 J3 t=J3.F t:=by kernel_rfl
theorem Qt8 (t:TupI (Qcg.ins.map PS.sh)):runF Qlu Tryz.f230 Qcg t=Qcg.F t:=by kernel_rfl
theorem Qlg (t:TupI (YI.ins.map PS.sh)):runF QgL Tryz.f103 YI t=YI.F t:=by kernel_rfl
theorem Qft (t:TupI (Zc.ins.map PS.sh)):runF Qac Tryz.f130 Zc t=Zc.F t:=by kernel_rfl
theorem QyD (t:TupI (QdW.ins.map PS.sh)):runF QnB Tryz.f143 QdW t=QdW.F t:=by kernel_rfl
theorem QzK (t:TupI (Qe2.ins.map PS.sh)):runF Qom Tryz.f70 Qe2 t=Qe2.F t:=by kernel_rfl
theorem Qym (t:TupI (Q4.ins.map PS.sh)):runF Qm5 Tryz.f123 Q4 t=Q4.F t:=by kernel_rfl
theorem QhO (t:TupI (ZD.ins.map PS.sh)):runF Qcu Tryz.f87 ZD t=ZD.F t:=by kernel_rfl
theorem QBI (t:TupI (QfO.ins.map PS.sh)):runF Qqd Tryz.f162 QfO t=QfO.F t:=by kernel_rfl
theorem QdN (t:TupI (QW.ins.map PS.sh)):runF Jd Tryz.f181 QW t=QW.F t:=by kernel_rfl
theorem QtM (t:TupI (Qcn.ins.map PS.sh)):runF Qmf Tryz.f10 Qcn t=Qcn.F t:=by kernel_rfl
theorem QqV (t:TupI (QaR.ins.map PS.sh)):runF QjG Tryz.f11 QaR t=QaR.F t:=by kernel_rfl
theorem Qc7 (t:TupI (QU.ins.map PS.sh)):runF Y3 Tryz.f131 QU t=QU.F t:=by kernel_rfl
theorem QbY (t:TupI (QA.ins.map PS.sh)):runF YD Tryz.f214 QA t=QA.F t:=by kernel_rfl
theorem QsD (t:TupI (Qbx.ins.map PS.sh)):runF Qkm Tryz.f12 Qbx t=Qbx.F t:=by kernel_rfl
theorem QsK (t:TupI (Qbi.ins.map PS.sh)):runF Qku Tryz.f9 Qbi t=Qbi.F t:=by kernel_rfl
theorem QyI (t:TupI (Qdp.ins.map PS.sh)):runF Qnx Tryz.f79 Qdp t=Qdp.F t:=by kernel_rfl
theorem QBB (t:TupI (QbP.ins.map PS.sh)):runF QpY Tryz.f160 QbP t=QbP.F t:=by kernel_rfl
theorem Qip (t:TupI (ZN.ins.map PS.sh)):runF QcO Tryz.f129 ZN t=ZN.F t:=by kernel_rfl
theorem QBl (t:TupI (QeK.ins.map PS.sh)):runF Qn9 Tryz.f120 QeK t=QeK.F t:=by kernel_rfl
theorem QfL (t:TupI (Zf.ins.map PS.sh)):runF Qak Tryz.f231 Zf t=Zf.F t:=by kernel_rfl
end GL
end Go.Dx

