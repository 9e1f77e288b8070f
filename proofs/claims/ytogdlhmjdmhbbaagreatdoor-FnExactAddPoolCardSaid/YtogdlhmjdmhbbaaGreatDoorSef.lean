/- The executor finds what each function computes: by computation -/
import Derived.Test.YtogdlhmjdmhbbaaGreatDoorSca
set_option linter.unusedVariables false
set_option linter.unusedSimpArgs false
set_option maxRecDepth 100000
set_option maxHeartbeats 0
namespace Go.Dx
open Go.Proofs
namespace GL

theorem QtB (t:TupI (Jx.ins.map PS.sh)):runF Ql1 Tryz.f94 Jx t=Jx.F t:=by kernel_rfl
theorem Qsu (t:TupI (Qby.ins.map PS.sh)):runF Qkx Tryz.f110 Qby t=Qby.F t:=by kernel_rfl
theorem JE (t:TupI (Qs.ins.map PS.sh)):runF ZH Tryz.f201 Qs t=Qs.F t:=by kernel_rfl
theorem Qxo (t:TupI (QdG.ins.map PS.sh)):runF Qm3 Tryz.f161 QdG t=QdG.F t:=by kernel_rfl
theorem QqQ (t:TupI (QaN.ins.map PS.sh)):runF QjU Tryz.f15 QaN t=QaN.F t:=by kernel_rfl
theorem Qu1 (t:TupI (QcE.ins.map PS.sh)):runF QlY Tryz.f76 QcE t=QcE.F t:=by kernel_rfl
theorem Qq9 (t:TupI (QaI.ins.map PS.sh)):runF Qjq Tryz.f53 QaI t=QaI.F t:=by kernel_rfl
theorem Qys (t:TupI (Qd0.ins.map PS.sh)):runF QnF Tryz.f43 Qd0 t=Qd0.F t:=by kernel_rfl
theorem Qpy (t:TupI (Qah.ins.map PS.sh)):runF QiS Tryz.f83 Qah t=Qah.F t:=by kernel_rfl
theorem Qql (t:TupI (Js.ins.map PS.sh)):runF QjB Tryz.f151 Js t=Js.F t:=by kernel_rfl
theorem QxR (t:TupI (Qdr.ins.map PS.sh)):runF Qnp Tryz.f91 Qdr t=Qdr.F t:=by kernel_rfl
theorem QwF (t:TupI (QdR.ins.map PS.sh)):runF Qng Tryz.f90 QdR t=QdR.F t:=by kernel_rfl
theorem QyM (t:TupI (QdZ.ins.map PS.sh)):runF Qns Tryz.f224 QdZ t=QdZ.F t:=by kernel_rfl
theorem QAO (t:TupI (JJ.ins.map PS.sh)):runF Qoy Tryz.f114 JJ t=JJ.F t:=by kernel_rfl
theorem QeH (t:TupI (Qv.ins.map PS.sh)):runF JP Tryz.f133 Qv t=Qv.F t:=by kernel_rfl
theorem QAK (t:TupI (QeI.ins.map PS.sh)):runF QoR Tryz.f139 QeI t=QeI.F t:=by kernel_rfl
theorem Qwy (t:TupI (QdS.ins.map PS.sh)):runF Qm4 Tryz.f80 QdS t=QdS.F t:=by kernel_rfl
theorem Qto (t:TupI (Yf.ins.map PS.sh)):runF QlC Tryz.f117 Yf t=Yf.F t:=by kernel_rfl
theorem Qqo (t:TupI (QaL.ins.map PS.sh)):runF QjQ Tryz.f44 QaL t=QaL.F t:=by kernel_rfl
theorem Qo6 (t:TupI (JQ.ins.map PS.sh)):runF QiH Tryz.f202 JQ t=JQ.F t:=by kernel_rfl
theorem QJk (t:TupI (QIf.ins.map PS.sh)):runF QIL Tryz.f24 QIf t=QIf.F t:=by kernel_rfl
theorem QzC (t:TupI (QeV.ins.map PS.sh)):runF Qob Tryz.f104 QeV t=QeV.F t:=by kernel_rfl
theorem QBJ (t:TupI (Qd4.ins.map PS.sh)):runF Qp5 Tryz.f180 Qd4 t=Qd4.F t:=by kernel_rfl
theorem Qs4 (t:TupI (Qbe.ins.map PS.sh)):runF QkA Tryz.f132 Qbe t=Qbe.F t:=by kernel_rfl
theorem Qzo (t:TupI (QeR.ins.map PS.sh)):runF Qoz Tryz.f141 QeR t=QeR.F t:=by kernel_rfl
theorem QJZ (t:TupI (QIs.ins.map PS.sh)):runF QIT Tryz.f26 QIs t=QIs.F t:=by kernel_rfl
theorem QjY (t:TupI (Yl.ins.map PS.sh)):runF QfH Tryz.f58 Yl t=Yl.F t:=by kernel_rfl
theorem QlW (t:TupI (YL.ins.map PS.sh)):runF QgI Tryz.f184 YL t=YL.F t:=by kernel_rfl
theorem QtE (t:TupI (QcJ.ins.map PS.sh)):runF Qlw Tryz.f45 QcJ t=QcJ.F t:=by kernel_rfl
theorem Qxt (t:TupI (Qdt.ins.map PS.sh)):runF QnE Tryz.f78 Qdt t=Qdt.F t:=by kernel_rfl
theorem QtX (t:TupI (Qcj.ins.map PS.sh)):runF Qll Tryz.f211 Qcj t=Qcj.F t:=by kernel_rfl
end GL
end Go.Dx

