/- The executor finds what each function computes: by computation -/
import Derived.Test.YtogdlhmjdmhbbaaGreatDoorSca
set_option linter.unusedVariables false
set_option linter.unusedSimpArgs false
set_option maxRecDepth 100000
set_option maxHeartbeats 0
namespace Go.Dx
open Go.Proofs
namespace GL

theorem QtB (t:TupI (Jx.ins.map PS.sh)):runF Ql1 Tryz.f94 Jx t=Jx.F t:=by kernel_rfl
theorem Qur (t:TupI (Qch.ins.map PS.sh)):runF Qlf Tryz.f109 Qch t=Qch.F t:=by kernel_rfl
theorem QtS (t:TupI (Qcd.ins.map PS.sh)):runF QlU Tryz.f209 Qcd t=Qcd.F t:=by kernel_rfl
theorem QHD (t:TupI (QHr.ins.map PS.sh)):runF QHz Tryz.f4 QHr t=QHr.F t:=by kernel_rfl
theorem QHW (t:TupI (QHv.ins.map PS.sh)):runF QHG Tryz.f19 QHv t=QHv.F t:=by kernel_rfl
theorem QuV (t:TupI (QcH.ins.map PS.sh)):runF Ql9 Tryz.f60 QcH t=QcH.F t:=by kernel_rfl
theorem Qvw (t:TupI (Qcc.ins.map PS.sh)):runF Qlv Tryz.f51 Qcc t=Qcc.F t:=by kernel_rfl
theorem QhJ (t:TupI (QY.ins.map PS.sh)):runF QbX Tryz.f155 QY t=QY.F t:=by kernel_rfl
theorem Qys (t:TupI (Qd0.ins.map PS.sh)):runF QnF Tryz.f43 Qd0 t=Qd0.F t:=by kernel_rfl
theorem Qt8 (t:TupI (Qcg.ins.map PS.sh)):runF Qlu Tryz.f230 Qcg t=Qcg.F t:=by kernel_rfl
theorem Qxr (t:TupI (Qdo.ins.map PS.sh)):runF Qnj Tryz.f96 Qdo t=Qdo.F t:=by kernel_rfl
theorem Qex (t:TupI (Q3.ins.map PS.sh)):runF Jz Tryz.f178 Q3 t=Q3.F t:=by kernel_rfl
theorem QyD (t:TupI (QdW.ins.map PS.sh)):runF QnB Tryz.f143 QdW t=QdW.F t:=by kernel_rfl
theorem QyM (t:TupI (QdZ.ins.map PS.sh)):runF Qns Tryz.f224 QdZ t=QdZ.F t:=by kernel_rfl
theorem Qon (t:TupI (YO.ins.map PS.sh)):runF QiC Tryz.f84 YO t=YO.F t:=by kernel_rfl
theorem QhO (t:TupI (ZD.ins.map PS.sh)):runF Qcu Tryz.f87 ZD t=ZD.F t:=by kernel_rfl
theorem QpA (t:TupI (Qaj.ins.map PS.sh)):runF QiQ Tryz.f219 Qaj t=Qaj.F t:=by kernel_rfl
theorem Qto (t:TupI (Yf.ins.map PS.sh)):runF QlC Tryz.f117 Yf t=Yf.F t:=by kernel_rfl
theorem QAf (t:TupI (QaT.ins.map PS.sh)):runF Qof Tryz.f140 QaT t=QaT.F t:=by kernel_rfl
theorem QtM (t:TupI (Qcn.ins.map PS.sh)):runF Qmf Tryz.f10 Qcn t=Qcn.F t:=by kernel_rfl
theorem Qq7 (t:TupI (QaJ.ins.map PS.sh)):runF QjN Tryz.f42 QaJ t=QaJ.F t:=by kernel_rfl
theorem QwQ (t:TupI (QdI.ins.map PS.sh)):runF QnA Tryz.f164 QdI t=QdI.F t:=by kernel_rfl
theorem Qit (t:TupI (ZM.ins.map PS.sh)):runF QcQ Tryz.f137 ZM t=ZM.F t:=by kernel_rfl
theorem QsK (t:TupI (Qbi.ins.map PS.sh)):runF Qku Tryz.f9 Qbi t=Qbi.F t:=by kernel_rfl
theorem QAp (t:TupI (QeM.ins.map PS.sh)):runF Qok Tryz.f149 QeM t=QeM.F t:=by kernel_rfl
theorem QBB (t:TupI (QbP.ins.map PS.sh)):runF QpY Tryz.f160 QbP t=QbP.F t:=by kernel_rfl
theorem Qvb (t:TupI (QcA.ins.map PS.sh)):runF QlB Tryz.f40 QcA t=QcA.F t:=by kernel_rfl
theorem QtE (t:TupI (QcJ.ins.map PS.sh)):runF Qlw Tryz.f45 QcJ t=QcJ.F t:=by kernel_rfl
theorem QAq (t:TupI (Qe0.ins.map PS.sh)):runF Qor Tryz.f213 Qe0 t=Qe0.F t:=by kernel_rfl
end GL
end Go.Dx

