/- The executor finds what each function computes: by computation -/
import Derived.Test.YtogdlhmjdmhbbaaGreatDoorSca
set_option linter.unusedVariables false
set_option linter.unusedSimpArgs false
set_option maxRecDepth 100000
set_option maxHeartbeats 0
namespace Go.Dx
open Go.Proofs
namespace GL

theorem QvA (t:TupI (Qca.ins.map PS.sh)):runF Qmd Tryz.f163 Qca t=Qca.F t:=by kernel_rfl
theorem Qps (t:TupI (Qaf.ins.map PS.sh)):runF QiV Tryz.f125 Qaf t=Qaf.F t:=by kernel_rfl
theorem QtC (t:TupI (Qco.ins.map PS.sh)):runF Qlt Tryz.f177 Qco t=Qco.F t:=by kernel_rfl
theorem QuV (t:TupI (QcH.ins.map PS.sh)):runF Ql9 Tryz.f60 QcH t=QcH.F t:=by kernel_rfl
theorem Qtw (t:TupI (Qcm.ins.map PS.sh)):runF QlI Tryz.f98 Qcm t=Qcm.F t:=by kernel_rfl
theorem Qry (t:TupI (YV.ins.map PS.sh)):runF QkN Tryz.f207 YV t=YV.F t:=by kernel_rfl
theorem QI5 (t:TupI (QH9.ins.map PS.sh)):runF QIG Tryz.f62 QH9 t=QH9.F t:=by kernel_rfl
theorem Qxh (t:TupI (Qdy.ins.map PS.sh)):runF Qnl Tryz.f121 Qdy t=Qdy.F t:=by kernel_rfl
theorem Qw8 (t:TupI (QdE.ins.map PS.sh)):runF Qnv Tryz.f190 QdE t=QdE.F t:=by kernel_rfl
theorem Qlg (t:TupI (YI.ins.map PS.sh)):runF QgL Tryz.f103 YI t=YI.F t:=by kernel_rfl
theorem Qex (t:TupI (Q3.ins.map PS.sh)):runF Jz Tryz.f178 Q3 t=Q3.F t:=by kernel_rfl
theorem Qtb (t:TupI (QbF.ins.map PS.sh)):runF Qkw Tryz.f212 QbF t=QbF.F t:=by kernel_rfl
theorem Qoo (t:TupI (Z8.ins.map PS.sh)):runF Qio Tryz.f169 Z8 t=Z8.F t:=by kernel_rfl
theorem Qk6 (t:TupI (Yy.ins.map PS.sh)):runF QfQ Tryz.f171 Yy t=Yy.F t:=by kernel_rfl
theorem QAK (t:TupI (QeI.ins.map PS.sh)):runF QoR Tryz.f139 QeI t=QeI.F t:=by kernel_rfl
theorem Qwy (t:TupI (QdS.ins.map PS.sh)):runF Qm4 Tryz.f80 QdS t=QdS.F t:=by kernel_rfl
theorem QxF (t:TupI (QdF.ins.map PS.sh)):runF Qm9 Tryz.f102 QdF t=QdF.F t:=by kernel_rfl
theorem Qvi (t:TupI (Qcy.ins.map PS.sh)):runF Qmh Tryz.f55 Qcy t=Qcy.F t:=by kernel_rfl
theorem QhD (t:TupI (Zu.ins.map PS.sh)):runF Qbr Tryz.f85 Zu t=Zu.F t:=by kernel_rfl
theorem QBT (t:TupI (ZI.ins.map PS.sh)):runF QpW Tryz.f107 ZI t=ZI.F t:=by kernel_rfl
theorem Qc7 (t:TupI (QU.ins.map PS.sh)):runF Y3 Tryz.f131 QU t=QU.F t:=by kernel_rfl
theorem QwS (t:TupI (Qdq.ins.map PS.sh)):runF Qnm Tryz.f205 Qdq t=Qdq.F t:=by kernel_rfl
theorem QmW (t:TupI (YX.ins.map PS.sh)):runF Qht Tryz.f127 YX t=YX.F t:=by kernel_rfl
theorem QrI (t:TupI (Qbk.ins.map PS.sh)):runF Qkv Tryz.f210 Qbk t=Qbk.F t:=by kernel_rfl
theorem QyI (t:TupI (Qdp.ins.map PS.sh)):runF Qnx Tryz.f79 Qdp t=Qdp.F t:=by kernel_rfl
theorem Qse (t:TupI (QbG.ins.map PS.sh)):runF Qko Tryz.f156 QbG t=QbG.F t:=by kernel_rfl
theorem QlW (t:TupI (YL.ins.map PS.sh)):runF QgI Tryz.f184 YL t=YL.F t:=by kernel_rfl
theorem QtE (t:TupI (QcJ.ins.map PS.sh)):runF Qlw Tryz.f45 QcJ t=QcJ.F t:=by kernel_rfl
theorem QJw (t:TupI (QIi.ins.map PS.sh)):runF QIN Tryz.f63 QIi t=QIi.F t:=by kernel_rfl
theorem Qee (t:TupI (QJ.ins.map PS.sh)):runF Jm Tryz.f124 QJ t=QJ.F t:=by kernel_rfl
end GL
end Go.Dx

