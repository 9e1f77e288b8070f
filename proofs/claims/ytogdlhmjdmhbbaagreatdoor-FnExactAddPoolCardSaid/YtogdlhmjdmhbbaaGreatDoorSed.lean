/- The executor finds what each function computes: by computation -/
import Derived.Test.YtogdlhmjdmhbbaaGreatDoorSca
set_option linter.unusedVariables false
set_option linter.unusedSimpArgs false
set_option maxRecDepth 100000
set_option maxHeartbeats 0
namespace Go.Dx
open Go.Proofs
namespace GL

theorem QKA (t:TupI (QKr.ins.map PS.sh)):runF QKy Tryz.f6 QKr t=QKr.F t:=by kernel_rfl
theorem Qur (t:TupI (Qch.ins.map PS.sh)):runF Qlf Tryz.f109 Qch t=Qch.F t:=by kernel_rfl
theorem QyB (t:TupI (Qa8.ins.map PS.sh)):runF Qnf Tryz.f99 Qa8 t=Qa8.F t:=by kernel_rfl
theorem Qvt (t:TupI (Jr.ins.map PS.sh)):runF Ql2 Tryz.f191 Jr t=Jr.F t:=by kernel_rfl
theorem Qn3 (t:TupI (JM.ins.map PS.sh)):runF Qiy Tryz.f134 JM t=JM.F t:=by kernel_rfl
theorem Qtw (t:TupI (Qcm.ins.map PS.sh)):runF QlI Tryz.f98 Qcm t=Qcm.F t:=by kernel_rfl
theorem Qe8 (t:TupI (Zb.ins.map PS.sh)):runF JX Tryz.f166 Zb t=Zb.F t:=by kernel_rfl
theorem Jt (t:TupI (Qr.ins.map PS.sh)):runF ZC Tryz.f187 Qr t=Qr.F t:=by kernel_rfl
theorem Qx6 (t:TupI (QdL.ins.map PS.sh)):runF Qna Tryz.f115 QdL t=QdL.F t:=by kernel_rfl
theorem Qw8 (t:TupI (QdE.ins.map PS.sh)):runF Qnv Tryz.f190 QdE t=QdE.F t:=by kernel_rfl
theorem Qlg (t:TupI (YI.ins.map PS.sh)):runF QgL Tryz.f103 YI t=YI.F t:=by kernel_rfl
theorem Qft (t:TupI (Zc.ins.map PS.sh)):runF Qac Tryz.f130 Zc t=Zc.F t:=by kernel_rfl
theorem QqZ (t:TupI (QaC.ins.map PS.sh)):runF QjD Tryz.f47 QaC t=QaC.F t:=by kernel_rfl
theorem Qon (t:TupI (YO.ins.map PS.sh)):runF QiC Tryz.f84 YO t=YO.F t:=by kernel_rfl
theorem QI7 (t:TupI (QIb.ins.map PS.sh)):runF QIJ Tryz.f68 QIb t=QIb.F t:=by kernel_rfl
theorem Qym (t:TupI (Q4.ins.map PS.sh)):runF Qm5 Tryz.f123 Q4 t=Q4.F t:=by kernel_rfl
theorem QyZ (t:TupI (Qb8.ins.map PS.sh)):runF QoM Tryz.f148 Qb8 t=Qb8.F t:=by kernel_rfl
theorem QdN (t:TupI (QW.ins.map PS.sh)):runF Jd Tryz.f181 QW t=QW.F t:=by kernel_rfl
theorem Qvi (t:TupI (Qcy.ins.map PS.sh)):runF Qmh Tryz.f55 Qcy t=Qcy.F t:=by kernel_rfl
theorem QtM (t:TupI (Qcn.ins.map PS.sh)):runF Qmf Tryz.f10 Qcn t=Qcn.F t:=by kernel_rfl
theorem QBT (t:TupI (ZI.ins.map PS.sh)):runF QpW Tryz.f107 ZI t=ZI.F t:=by kernel_rfl
theorem Qvx (t:TupI (Qcq.ins.map PS.sh)):runF Ql5 Tryz.f239 Qcq t=Qcq.F t:=by kernel_rfl
theorem QsD (t:TupI (Qbx.ins.map PS.sh)):runF Qkm Tryz.f12 Qbx t=Qbx.F t:=by kernel_rfl
theorem QmW (t:TupI (YX.ins.map PS.sh)):runF Qht Tryz.f127 YX t=YX.F t:=by kernel_rfl
theorem QAp (t:TupI (QeM.ins.map PS.sh)):runF Qok Tryz.f149 QeM t=QeM.F t:=by kernel_rfl
theorem QBi (t:TupI (QeJ.ins.map PS.sh)):runF Qot Tryz.f88 QeJ t=QeJ.F t:=by kernel_rfl
theorem Qse (t:TupI (QbG.ins.map PS.sh)):runF Qko Tryz.f156 QbG t=QbG.F t:=by kernel_rfl
theorem QpO (t:TupI (Jb.ins.map PS.sh)):runF QiP Tryz.f136 Jb t=Jb.F t:=by kernel_rfl
theorem Qsi (t:TupI (Y8.ins.map PS.sh)):runF Qkr Tryz.f95 Y8 t=Y8.F t:=by kernel_rfl
theorem QBl (t:TupI (QeK.ins.map PS.sh)):runF Qn9 Tryz.f120 QeK t=QeK.F t:=by kernel_rfl
theorem Qpu (t:TupI (Qam.ins.map PS.sh)):runF QiT Tryz.f232 Qam t=Qam.F t:=by kernel_rfl
theorem Qee (t:TupI (QJ.ins.map PS.sh)):runF Jm Tryz.f124 QJ t=QJ.F t:=by kernel_rfl
end GL
end Go.Dx

