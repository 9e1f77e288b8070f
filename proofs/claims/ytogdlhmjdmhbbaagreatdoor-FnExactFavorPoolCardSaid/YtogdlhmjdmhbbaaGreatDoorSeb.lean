/- The executor finds what each function computes: by computation -/
import Derived.Test.YtogdlhmjdmhbbaaGreatDoorSca
set_option linter.unusedVariables false
set_option linter.unusedSimpArgs false
set_option maxRecDepth 100000
set_option maxHeartbeats 0
namespace Go.Dx
open Go.Proofs
namespace GL

theorem QvA (t:TupI (Qca.ins.map PS.sh)):runF Qmd Tryz.f163 Qca t=Qca.F t:=by kernel_rfl
theorem Qps (t:TupI (Qaf.ins.map PS.sh)):runF QiV Tryz.f125 Qaf t=Qaf.F t:=by kernel_rfl
theorem Qi7 (t:TupI (ZX.ins.map PS.sh)):runF Qel Tryz.f49 ZX t=ZX.F t:=by kernel_rfl
theorem Qog (t:TupI (JS.ins.map PS.sh)):runF QiG Tryz.f82 JS t=JS.F t:=by kernel_rfl
theorem QuN (t:TupI (Qb7.ins.map PS.sh)):runF QlS Tryz.f176 Qb7 t=Qb7.F t:=by kernel_rfl
theorem Qvw (t:TupI (Qcc.ins.map PS.sh)):runF Qlv Tryz.f51 Qcc t=Qcc.F t:=by kernel_rfl
theorem QBk (t:TupI (QcI.ins.map PS.sh)):runF Qo3 Tryz.f138 QcI t=QcI.F t:=by kernel_rfl
theorem Qys (t:TupI (Qd0.ins.map PS.sh)):runF QnF Tryz.f43 Qd0 t=Qd0.F t:=by kernel_rfl
theorem Qt8 (t:TupI (Qcg.ins.map PS.sh)):runF Qlu Tryz.f230 Qcg t=Qcg.F t:=by kernel_rfl
theorem Qxr (t:TupI (Qdo.ins.map PS.sh)):runF Qnj Tryz.f96 Qdo t=Qdo.F t:=by kernel_rfl
theorem Qyi (t:TupI (QdA.ins.map PS.sh)):runF Qnr Tryz.f200 QdA t=QdA.F t:=by kernel_rfl
theorem QqZ (t:TupI (QaC.ins.map PS.sh)):runF QjD Tryz.f47 QaC t=QaC.F t:=by kernel_rfl
theorem QvW (t:TupI (Qct.ins.map PS.sh)):runF Ql6 Tryz.f13 Qct t=Qct.F t:=by kernel_rfl
theorem Quh (t:TupI (Qcz.ins.map PS.sh)):runF Ql7 Tryz.f116 Qcz t=Qcz.F t:=by kernel_rfl
theorem QsC (t:TupI (Qbv.ins.map PS.sh)):runF QkE Tryz.f81 Qbv t=Qbv.F t:=by kernel_rfl
theorem QAK (t:TupI (QeI.ins.map PS.sh)):runF QoR Tryz.f139 QeI t=QeI.F t:=by kernel_rfl
theorem Qwy (t:TupI (QdS.ins.map PS.sh)):runF Qm4 Tryz.f80 QdS t=QdS.F t:=by kernel_rfl
theorem Qvi (t:TupI (Qcy.ins.map PS.sh)):runF Qmh Tryz.f55 Qcy t=Qcy.F t:=by kernel_rfl
theorem QtM (t:TupI (Qcn.ins.map PS.sh)):runF Qmf Tryz.f10 Qcn t=Qcn.F t:=by kernel_rfl
theorem QJX (t:TupI (QIt.ins.map PS.sh)):runF QIU Tryz.f64 QIt t=QIt.F t:=by kernel_rfl
theorem QBT (t:TupI (ZI.ins.map PS.sh)):runF QpW Tryz.f107 ZI t=ZI.F t:=by kernel_rfl
theorem QwQ (t:TupI (QdI.ins.map PS.sh)):runF QnA Tryz.f164 QdI t=QdI.F t:=by kernel_rfl
theorem QwS (t:TupI (Qdq.ins.map PS.sh)):runF Qnm Tryz.f205 Qdq t=Qdq.F t:=by kernel_rfl
theorem QrI (t:TupI (Qbk.ins.map PS.sh)):runF Qkv Tryz.f210 Qbk t=Qbk.F t:=by kernel_rfl
theorem Qw9 (t:TupI (Qds.ins.map PS.sh)):runF Qnu Tryz.f146 Qds t=Qds.F t:=by kernel_rfl
theorem Qya (t:TupI (Qdw.ins.map PS.sh)):runF Qnq Tryz.f165 Qdw t=Qdw.F t:=by kernel_rfl
theorem QJF (t:TupI (QIm.ins.map PS.sh)):runF QIR Tryz.f67 QIm t=QIm.F t:=by kernel_rfl
theorem Qsi (t:TupI (Y8.ins.map PS.sh)):runF Qkr Tryz.f95 Y8 t=Y8.F t:=by kernel_rfl
theorem Qzl (t:TupI (Qcx.ins.map PS.sh)):runF Qow Tryz.f119 Qcx t=Qcx.F t:=by kernel_rfl
theorem QAq (t:TupI (Qe0.ins.map PS.sh)):runF Qor Tryz.f213 Qe0 t=Qe0.F t:=by kernel_rfl
end GL
end Go.Dx

