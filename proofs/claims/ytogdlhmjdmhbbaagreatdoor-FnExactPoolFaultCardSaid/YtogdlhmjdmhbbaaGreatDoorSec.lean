/- The executor finds what each function computes: by computation -/
import Derived.Test.YtogdlhmjdmhbbaaGreatDoorSca
set_option linter.unusedVariables false
set_option linter.unusedSimpArgs false
set_option maxRecDepth 100000
set_option maxHeartbeats 0
namespace Go.Dx
open Go.Proofs
namespace GL

theorem Qxk (t:TupI (QdC.ins.map PS.sh)):runF Qno Tryz.f111 QdC t=QdC.F t:=by kernel_rfl
theorem JE (t:TupI (Qs.ins.map PS.sh)):runF ZH Tryz.f201 Qs t=Qs.F t:=by kernel_rfl
theorem Qps (t:TupI (Qaf.ins.map PS.sh)):runF QiV Tryz.f125 Qaf t=Qaf.F t:=by kernel_rfl
theorem QtC (t:TupI (Qco.ins.map PS.sh)):runF Qlt Tryz.f177 Qco t=Qco.F t:=by kernel_rfl
theorem QuV (t:TupI (QcH.ins.map PS.sh)):runF Ql9 Tryz.f60 QcH t=QcH.F t:=by kernel_rfl
theorem QqU (t:TupI (QaB.ins.map PS.sh)):runF Qjv Tryz.f50 QaB t=QaB.F t:=by kernel_rfl
theorem Qry (t:TupI (YV.ins.map PS.sh)):runF QkN Tryz.f207 YV t=YV.F t:=by kernel_rfl
theorem Quo (t:TupI (QcL.ins.map PS.sh)):runF QlT Tryz.f52 QcL t=QcL.F t:=by kernel_rfl
theorem Qpy (t:TupI (Qah.ins.map PS.sh)):runF QiS Tryz.f83 Qah t=Qah.F t:=by kernel_rfl
theorem Qql (t:TupI (Js.ins.map PS.sh)):runF QjB Tryz.f151 Js t=Js.F t:=by kernel_rfl
theorem Qxr (t:TupI (Qdo.ins.map PS.sh)):runF Qnj Tryz.f96 Qdo t=Qdo.F t:=by kernel_rfl
theorem QwF (t:TupI (QdR.ins.map PS.sh)):runF Qng Tryz.f90 QdR t=QdR.F t:=by kernel_rfl
theorem QBb (t:TupI (Qey.ins.map PS.sh)):runF QoG Tryz.f147 Qey t=Qey.F t:=by kernel_rfl
theorem Qon (t:TupI (YO.ins.map PS.sh)):runF QiC Tryz.f84 YO t=YO.F t:=by kernel_rfl
theorem QsC (t:TupI (Qbv.ins.map PS.sh)):runF QkE Tryz.f81 Qbv t=Qbv.F t:=by kernel_rfl
theorem Qtk (t:TupI (Qbf.ins.map PS.sh)):runF Qkl Tryz.f92 Qbf t=Qbf.F t:=by kernel_rfl
theorem QAv (t:TupI (QaA.ins.map PS.sh)):runF QnR Tryz.f167 QaA t=QaA.F t:=by kernel_rfl
theorem Qto (t:TupI (Yf.ins.map PS.sh)):runF QlC Tryz.f117 Yf t=Yf.F t:=by kernel_rfl
theorem Ql4 (t:TupI (YJ.ins.map PS.sh)):runF QgM Tryz.f185 YJ t=YJ.F t:=by kernel_rfl
theorem Qo6 (t:TupI (JQ.ins.map PS.sh)):runF QiH Tryz.f202 JQ t=JQ.F t:=by kernel_rfl
theorem Qvx (t:TupI (Qcq.ins.map PS.sh)):runF Ql5 Tryz.f239 Qcq t=Qcq.F t:=by kernel_rfl
theorem QwQ (t:TupI (QdI.ins.map PS.sh)):runF QnA Tryz.f164 QdI t=QdI.F t:=by kernel_rfl
theorem Qit (t:TupI (ZM.ins.map PS.sh)):runF QcQ Tryz.f137 ZM t=ZM.F t:=by kernel_rfl
theorem QAp (t:TupI (QeM.ins.map PS.sh)):runF Qok Tryz.f149 QeM t=QeM.F t:=by kernel_rfl
theorem QBi (t:TupI (QeJ.ins.map PS.sh)):runF Qot Tryz.f88 QeJ t=QeJ.F t:=by kernel_rfl
theorem QlW (t:TupI (YL.ins.map PS.sh)):runF QgI Tryz.f184 YL t=YL.F t:=by kernel_rfl
theorem QnH (t:TupI (Yt.ins.map PS.sh)):runF QhN Tryz.f189 Yt t=Yt.F t:=by kernel_rfl
theorem Qzt (t:TupI (JL.ins.map PS.sh)):runF Qo1 Tryz.f69 JL t=JL.F t:=by kernel_rfl
theorem Qsc (t:TupI (Y9.ins.map PS.sh)):runF QkJ Tryz.f159 Y9 t=Y9.F t:=by kernel_rfl
end GL
end Go.Dx

