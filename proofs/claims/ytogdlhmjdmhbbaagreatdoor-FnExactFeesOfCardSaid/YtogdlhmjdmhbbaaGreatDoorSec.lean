/- The executor finds what each function computes: by computation -/
import Derived.Test.YtogdlhmjdmhbbaaGreatDoorSca
set_option linter.unusedVariables false
set_option linter.unusedSimpArgs false
set_option maxRecDepth 100000
set_option maxHeartbeats 0
namespace Go.Dx
open Go.Proofs
namespace GL

theorem Qxk (t:TupI (QdC.ins.map PS.sh)):runF Qno Tryz.f111 QdC t=QdC.F t:=by kernel_rfl
theorem JE (t:TupI (Qs.ins.map PS.sh)):runF ZH Tryz.f201 Qs t=Qs.F t:=by kernel_rfl
theorem Qps (t:TupI (Qaf.ins.map PS.sh)):runF QiV Tryz.f125 Qaf t=Qaf.F t:=by kernel_rfl
theorem QtC (t:TupI (Qco.ins.map PS.sh)):runF Qlt Tryz.f177 Qco t=Qco.F t:=by kernel_rfl
theorem Qog (t:TupI (JS.ins.map PS.sh)):runF QiG Tryz.f82 JS t=JS.F t:=by kernel_rfl
theorem QuN (t:TupI (Qb7.ins.map PS.sh)):runF QlS Tryz.f176 Qb7 t=Qb7.F t:=by kernel_rfl
theorem QiK (t:TupI (ZK.ins.map PS.sh)):runF QcS Tryz.f113 ZK t=ZK.F t:=by kernel_rfl
theorem Qe8 (t:TupI (Zb.ins.map PS.sh)):runF JX Tryz.f166 Zb t=Zb.F t:=by kernel_rfl
theorem Jt (t:TupI (Qr.ins.map PS.sh)):runF ZC Tryz.f187 Qr t=Qr.F t:=by kernel_rfl
theorem Qvr (t:TupI (QcK.ins.map PS.sh)):runF QlQ Tryz.f101 QcK t=QcK.F t:=by kernel_rfl
theorem Qql (t:TupI (Js.ins.map PS.sh)):runF QjB Tryz.f151 Js t=Js.F t:=by kernel_rfl
theorem QAN (t:TupI (QaU.ins.map PS.sh)):runF Qn4 Tryz.f206 QaU t=QaU.F t:=by kernel_rfl
theorem QqZ (t:TupI (QaC.ins.map PS.sh)):runF QjD Tryz.f47 QaC t=QaC.F t:=by kernel_rfl
theorem Qqj (t:TupI (QaP.ins.map PS.sh)):runF Qjp Tryz.f39 QaP t=QaP.F t:=by kernel_rfl
theorem Quh (t:TupI (Qcz.ins.map PS.sh)):runF Ql7 Tryz.f116 Qcz t=Qcz.F t:=by kernel_rfl
theorem QeH (t:TupI (Qv.ins.map PS.sh)):runF JP Tryz.f133 Qv t=Qv.F t:=by kernel_rfl
theorem Qzy (t:TupI (QeB.ins.map PS.sh)):runF QnW Tryz.f118 QeB t=QeB.F t:=by kernel_rfl
theorem QAv (t:TupI (QaA.ins.map PS.sh)):runF QnR Tryz.f167 QaA t=QaA.F t:=by kernel_rfl
theorem Qvi (t:TupI (Qcy.ins.map PS.sh)):runF Qmh Tryz.f55 Qcy t=Qcy.F t:=by kernel_rfl
theorem Qo6 (t:TupI (JQ.ins.map PS.sh)):runF QiH Tryz.f202 JQ t=JQ.F t:=by kernel_rfl
theorem QBT (t:TupI (ZI.ins.map PS.sh)):runF QpW Tryz.f107 ZI t=ZI.F t:=by kernel_rfl
theorem Qa3 (t:TupI (Qw.ins.map PS.sh)):runF Yk Tryz.f170 Qw t=Qw.F t:=by kernel_rfl
theorem QwS (t:TupI (Qdq.ins.map PS.sh)):runF Qnm Tryz.f205 Qdq t=Qdq.F t:=by kernel_rfl
theorem Qs4 (t:TupI (Qbe.ins.map PS.sh)):runF QkA Tryz.f132 Qbe t=Qbe.F t:=by kernel_rfl
theorem QBt (t:TupI (Qd2.ins.map PS.sh)):runF Qqc Tryz.f97 Qd2 t=Qd2.F t:=by kernel_rfl
theorem QmH (t:TupI (Y7.ins.map PS.sh)):runF Qhl Tryz.f188 Y7 t=Y7.F t:=by kernel_rfl
theorem QnH (t:TupI (Yt.ins.map PS.sh)):runF QhN Tryz.f189 Yt t=Yt.F t:=by kernel_rfl
theorem Qzl (t:TupI (Qcx.ins.map PS.sh)):runF Qow Tryz.f119 Qcx t=Qcx.F t:=by kernel_rfl
theorem Qpu (t:TupI (Qam.ins.map PS.sh)):runF QiT Tryz.f232 Qam t=Qam.F t:=by kernel_rfl
theorem Qls (t:TupI (Z6.ins.map PS.sh)):runF QgT Tryz.f106 Z6 t=Z6.F t:=by kernel_rfl
end GL
end Go.Dx

