/- The executor finds what each function computes: by computation -/
import Derived.Test.YtogdlhmjdmhbbaaGreatDoorSca
set_option linter.unusedVariables false
set_option linter.unusedSimpArgs false
set_option maxRecDepth 100000
set_option maxHeartbeats 0
namespace Go.Dx
open Go.Proofs
namespace GL

theorem Qux (t:TupI (Jp.ins.map PS.sh)):runF QlL Tryz.f59 Jp t=Jp.F t:=by kernel_rfl
theorem QnO (t:TupI (Jh.ins.map PS.sh)):runF QhL Tryz.f126 Jh t=Jh.F t:=by kernel_rfl
theorem QrE (t:TupI (Qbq.ins.map PS.sh)):runF QkB Tryz.f218 Qbq t=Qbq.F t:=by kernel_rfl
theorem QuV (t:TupI (QcH.ins.map PS.sh)):runF Ql9 Tryz.f60 QcH t=QcH.F t:=by kernel_rfl
theorem Qvw (t:TupI (Qcc.ins.map PS.sh)):runF Qlv Tryz.f51 Qcc t=Qcc.F t:=by kernel_rfl
theorem Qry (t:TupI (YV.ins.map PS.sh)):runF QkN Tryz.f207 YV t=YV.F t:=by kernel_rfl
theorem QJW (t:TupI (QIr.ins.map PS.sh)):runF QIS Tryz.f65 QIr t=QIr.F t:=by kernel_rfl
theorem QKK (t:TupI (QKt.ins.map PS.sh)):runF QKD Tryz.f30 QKt t=QKt.F t:=by kernel_rfl
theorem Qvr (t:TupI (QcK.ins.map PS.sh)):runF QlQ Tryz.f101 QcK t=QcK.F t:=by kernel_rfl
theorem QbS (t:TupI (QN.ins.map PS.sh)):runF Yx Tryz.f183 QN t=QN.F t:=by kernel_rfl
theorem Qyi (t:TupI (QdA.ins.map PS.sh)):runF Qnr Tryz.f200 QdA t=QdA.F t:=by kernel_rfl
theorem Qtb (t:TupI (QbF.ins.map PS.sh)):runF Qkw Tryz.f212 QbF t=QbF.F t:=by kernel_rfl
theorem Qoo (t:TupI (Z8.ins.map PS.sh)):runF Qio Tryz.f169 Z8 t=Z8.F t:=by kernel_rfl
theorem Quh (t:TupI (Qcz.ins.map PS.sh)):runF Ql7 Tryz.f116 Qcz t=Qcz.F t:=by kernel_rfl
theorem Qtk (t:TupI (Qbf.ins.map PS.sh)):runF Qkl Tryz.f92 Qbf t=Qbf.F t:=by kernel_rfl
theorem QBD (t:TupI (QfS.ins.map PS.sh)):runF Qp7 Tryz.f75 QfS t=QfS.F t:=by kernel_rfl
theorem QxF (t:TupI (QdF.ins.map PS.sh)):runF Qm9 Tryz.f102 QdF t=QdF.F t:=by kernel_rfl
theorem QDh (t:TupI (Qdb.ins.map PS.sh)):runF QsB Tryz.f152 Qdb t=Qdb.F t:=by kernel_rfl
theorem Ql4 (t:TupI (YJ.ins.map PS.sh)):runF QgM Tryz.f185 YJ t=YJ.F t:=by kernel_rfl
theorem QJX (t:TupI (QIt.ins.map PS.sh)):runF QIU Tryz.f64 QIt t=QIt.F t:=by kernel_rfl
theorem Qd9 (t:TupI (QK.ins.map PS.sh)):runF Jk Tryz.f86 QK t=QK.F t:=by kernel_rfl
theorem QwS (t:TupI (Qdq.ins.map PS.sh)):runF Qnm Tryz.f205 Qdq t=Qdq.F t:=by kernel_rfl
theorem Qsl (t:TupI (Qbu.ins.map PS.sh)):runF Qj7 Tryz.f16 Qbu t=Qbu.F t:=by kernel_rfl
theorem QsK (t:TupI (Qbi.ins.map PS.sh)):runF Qku Tryz.f9 Qbi t=Qbi.F t:=by kernel_rfl
theorem QyI (t:TupI (Qdp.ins.map PS.sh)):runF Qnx Tryz.f79 Qdp t=Qdp.F t:=by kernel_rfl
theorem QBB (t:TupI (QbP.ins.map PS.sh)):runF QpY Tryz.f160 QbP t=QbP.F t:=by kernel_rfl
theorem QJF (t:TupI (QIm.ins.map PS.sh)):runF QIR Tryz.f67 QIm t=QIm.F t:=by kernel_rfl
theorem Qzl (t:TupI (Qcx.ins.map PS.sh)):runF Qow Tryz.f119 Qcx t=Qcx.F t:=by kernel_rfl
theorem QJw (t:TupI (QIi.ins.map PS.sh)):runF QIN Tryz.f63 QIi t=QIi.F t:=by kernel_rfl
theorem Qls (t:TupI (Z6.ins.map PS.sh)):runF QgT Tryz.f106 Z6 t=Z6.F t:=by kernel_rfl
end GL
end Go.Dx

