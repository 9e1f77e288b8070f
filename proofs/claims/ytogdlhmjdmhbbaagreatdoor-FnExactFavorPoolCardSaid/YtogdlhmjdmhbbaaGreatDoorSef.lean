/- The executor finds what each function computes: by computation -/
import Derived.Test.YtogdlhmjdmhbbaaGreatDoorSca
set_option linter.unusedVariables false
set_option linter.unusedSimpArgs false
set_option maxRecDepth 100000
set_option maxHeartbeats 0
namespace Go.Dx
open Go.Proofs
namespace GL

theorem QtB (t:TupI (Jx.ins.map PS.sh)):runF Ql1 Tryz.f94 Jx t=Jx.F t:=by kernel_rfl
theorem Qsu (t:TupI (Qby.ins.map PS.sh)):runF Qkx Tryz.f110 Qby t=Qby.F t:=by kernel_rfl
theorem JE (t:TupI (Qs.ins.map PS.sh)):runF ZH Tryz.f201 Qs t=Qs.F t:=by kernel_rfl
theorem Qxo (t:TupI (QdG.ins.map PS.sh)):runF Qm3 Tryz.f161 QdG t=QdG.F t:=by kernel_rfl
theorem Qn3 (t:TupI (JM.ins.map PS.sh)):runF Qiy Tryz.f134 JM t=JM.F t:=by kernel_rfl
theorem Qtw (t:TupI (Qcm.ins.map PS.sh)):runF QlI Tryz.f98 Qcm t=Qcm.F t:=by kernel_rfl
theorem Qye (t:TupI (QdU.ins.map PS.sh)):runF Qni Tryz.f195 QdU t=QdU.F t:=by kernel_rfl
theorem QvK (t:TupI (QcF.ins.map PS.sh)):runF Qlk Tryz.f54 QcF t=QcF.F t:=by kernel_rfl
theorem Qso (t:TupI (J3.ins.map PS.sh)):runF QkF Tryz.f18 J3 t=J3.F t:=by kernel_rfl
theorem Qxh (t:TupI (Qdy.ins.map PS.sh)):runF Qnl Tryz.f121 Qdy t=Qdy.F t:=by kernel_rfl
theorem QqJ (t:TupI (YE.ins.map PS.sh)):runF Qjz Tryz.f168 YE t=YE.F t:=by kernel_rfl
theorem Qex (t:TupI (Q3.ins.map PS.sh)):runF Jz Tryz.f178 Q3 t=Q3.F t:=by kernel_rfl
theorem QyD (t:TupI (QdW.ins.map PS.sh)):runF QnB Tryz.f143 QdW t=QdW.F t:=by kernel_rfl
theorem Qq1 (t:TupI (QaO.ins.map PS.sh)):runF Qjs Tryz.f204 QaO t=QaO.F t:=by kernel_rfl
theorem QAO (t:TupI (JJ.ins.map PS.sh)):runF Qoy Tryz.f114 JJ t=JJ.F t:=by kernel_rfl
theorem Qju (t:TupI (Z7.ins.map PS.sh)):runF QeD Tryz.f89 Z7 t=Z7.F t:=by kernel_rfl
theorem QpA (t:TupI (Qaj.ins.map PS.sh)):runF QiQ Tryz.f219 Qaj t=Qaj.F t:=by kernel_rfl
theorem Qto (t:TupI (Yf.ins.map PS.sh)):runF QlC Tryz.f117 Yf t=Yf.F t:=by kernel_rfl
theorem QxF (t:TupI (QdF.ins.map PS.sh)):runF Qm9 Tryz.f102 QdF t=QdF.F t:=by kernel_rfl
theorem QhD (t:TupI (Zu.ins.map PS.sh)):runF Qbr Tryz.f85 Zu t=Zu.F t:=by kernel_rfl
theorem Qq7 (t:TupI (QaJ.ins.map PS.sh)):runF QjN Tryz.f42 QaJ t=QaJ.F t:=by kernel_rfl
theorem Qd9 (t:TupI (QK.ins.map PS.sh)):runF Jk Tryz.f86 QK t=QK.F t:=by kernel_rfl
theorem Qa3 (t:TupI (Qw.ins.map PS.sh)):runF Yk Tryz.f170 Qw t=Qw.F t:=by kernel_rfl
theorem Qit (t:TupI (ZM.ins.map PS.sh)):runF QcQ Tryz.f137 ZM t=ZM.F t:=by kernel_rfl
theorem Qtv (t:TupI (Qce.ins.map PS.sh)):runF QlA Tryz.f46 Qce t=Qce.F t:=by kernel_rfl
theorem QBi (t:TupI (QeJ.ins.map PS.sh)):runF Qot Tryz.f88 QeJ t=QeJ.F t:=by kernel_rfl
theorem QmH (t:TupI (Y7.ins.map PS.sh)):runF Qhl Tryz.f188 Y7 t=Y7.F t:=by kernel_rfl
theorem QJD (t:TupI (QH6.ins.map PS.sh)):runF QIP Tryz.f27 QH6 t=QH6.F t:=by kernel_rfl
theorem Qiw (t:TupI (ZL.ins.map PS.sh)):runF QcV Tryz.f135 ZL t=ZL.F t:=by kernel_rfl
theorem QJw (t:TupI (QIi.ins.map PS.sh)):runF QIN Tryz.f63 QIi t=QIi.F t:=by kernel_rfl
theorem Qpu (t:TupI (Qam.ins.map PS.sh)):runF QiT Tryz.f232 Qam t=Qam.F t:=by kernel_rfl
theorem Qls (t:TupI (Z6.ins.map PS.sh)):runF QgT Tryz.f106 Z6 t=Z6.F t:=by kernel_rfl
end GL
end Go.Dx

