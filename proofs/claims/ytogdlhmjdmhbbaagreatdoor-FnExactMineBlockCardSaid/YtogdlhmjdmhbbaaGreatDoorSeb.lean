/- The executor finds what each function computes: by computation -/
import Derived.Test.YtogdlhmjdmhbbaaGreatDoorSca
set_option linter.unusedVariables false
set_option linter.unusedSimpArgs false
set_option maxRecDepth 100000
set_option maxHeartbeats 0
namespace Go.Dx
open Go.Proofs
namespace GL

theorem QvA (t:TupI (Qca.ins.map PS.sh)):runF Qmd Tryz.f163 Qca t=Qca.F t:=by kernel_rfl
theorem Qps (t:TupI (Qaf.ins.map PS.sh)):runF QiV Tryz.f125 Qaf t=Qaf.F t:=by kernel_rfl
theorem Qi7 (t:TupI (ZX.ins.map PS.sh)):runF Qel Tryz.f49 ZX t=ZX.F t:=by kernel_rfl
theorem Qxv (t:TupI (QdO.ins.map PS.sh)):runF Qnh Tryz.f194 QdO t=QdO.F t:=by kernel_rfl
theorem QrC (t:TupI (J6.ins.map PS.sh)):runF Qkz Tryz.f154 J6 t=J6.F t:=by kernel_rfl
theorem QiK (t:TupI (ZK.ins.map PS.sh)):runF QcS Tryz.f113 ZK t=ZK.F t:=by kernel_rfl
theorem Qry (t:TupI (YV.ins.map PS.sh)):runF QkN Tryz.f207 YV t=YV.F t:=by kernel_rfl
theorem QJW (t:TupI (QIr.ins.map PS.sh)):runF QIS Tryz.f65 QIr t=QIr.F t:=by kernel_rfl
theorem Qxh (t:TupI (Qdy.ins.map PS.sh)):runF Qnl Tryz.f121 Qdy t=Qdy.F t:=by kernel_rfl
theorem Qvr (t:TupI (QcK.ins.map PS.sh)):runF QlQ Tryz.f101 QcK t=QcK.F t:=by kernel_rfl
theorem Qxr (t:TupI (Qdo.ins.map PS.sh)):runF Qnj Tryz.f96 Qdo t=Qdo.F t:=by kernel_rfl
theorem Qex (t:TupI (Q3.ins.map PS.sh)):runF Jz Tryz.f178 Q3 t=Q3.F t:=by kernel_rfl
theorem QBb (t:TupI (Qey.ins.map PS.sh)):runF QoG Tryz.f147 Qey t=Qey.F t:=by kernel_rfl
theorem QvW (t:TupI (Qct.ins.map PS.sh)):runF Ql6 Tryz.f13 Qct t=Qct.F t:=by kernel_rfl
theorem QeH (t:TupI (Qv.ins.map PS.sh)):runF JP Tryz.f133 Qv t=Qv.F t:=by kernel_rfl
theorem QsC (t:TupI (Qbv.ins.map PS.sh)):runF QkE Tryz.f81 Qbv t=Qbv.F t:=by kernel_rfl
theorem Qzy (t:TupI (QeB.ins.map PS.sh)):runF QnW Tryz.f118 QeB t=QeB.F t:=by kernel_rfl
theorem QAv (t:TupI (QaA.ins.map PS.sh)):runF QnR Tryz.f167 QaA t=QaA.F t:=by kernel_rfl
theorem Qvi (t:TupI (Qcy.ins.map PS.sh)):runF Qmh Tryz.f55 Qcy t=Qcy.F t:=by kernel_rfl
theorem Qo6 (t:TupI (JQ.ins.map PS.sh)):runF QiH Tryz.f202 JQ t=JQ.F t:=by kernel_rfl
theorem QKa (t:TupI (QIw.ins.map PS.sh)):runF QIW Tryz.f112 QIw t=QIw.F t:=by kernel_rfl
theorem Qd9 (t:TupI (QK.ins.map PS.sh)):runF Jk Tryz.f86 QK t=QK.F t:=by kernel_rfl
theorem QsD (t:TupI (Qbx.ins.map PS.sh)):runF Qkm Tryz.f12 Qbx t=Qbx.F t:=by kernel_rfl
theorem QmW (t:TupI (YX.ins.map PS.sh)):runF Qht Tryz.f127 YX t=YX.F t:=by kernel_rfl
theorem Qzo (t:TupI (QeR.ins.map PS.sh)):runF Qoz Tryz.f141 QeR t=QeR.F t:=by kernel_rfl
theorem QyI (t:TupI (Qdp.ins.map PS.sh)):runF Qnx Tryz.f79 Qdp t=Qdp.F t:=by kernel_rfl
theorem QJF (t:TupI (QIm.ins.map PS.sh)):runF QIR Tryz.f67 QIm t=QIm.F t:=by kernel_rfl
theorem QpO (t:TupI (Jb.ins.map PS.sh)):runF QiP Tryz.f136 Jb t=Jb.F t:=by kernel_rfl
theorem QJw (t:TupI (QIi.ins.map PS.sh)):runF QIN Tryz.f63 QIi t=QIi.F t:=by kernel_rfl
theorem Qsp (t:TupI (J7.ins.map PS.sh)):runF Qki Tryz.f14 J7 t=J7.F t:=by kernel_rfl
end GL
end Go.Dx

