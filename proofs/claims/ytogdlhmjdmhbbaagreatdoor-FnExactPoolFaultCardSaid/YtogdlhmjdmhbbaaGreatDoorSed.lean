/- The executor finds what each function computes: by computation -/
import Derived.Test.YtogdlhmjdmhbbaaGreatDoorSca
set_option linter.unusedVariables false
set_option linter.unusedSimpArgs false
set_option maxRecDepth 100000
set_option maxHeartbeats 0
namespace Go.Dx
open Go.Proofs
namespace GL

theorem QxM (t:TupI (Qbb.ins.map PS.sh)):runF Qm1 Tryz.f144 Qbb t=Qbb.F t:=by kernel_rfl
theorem QwK (t:TupI (QdH.ins.map PS.sh)):runF Qnn Tryz.f61 QdH t=QdH.F t:=by kernel_rfl
theorem QvR (t:TupI (Qav.ins.map PS.sh)):runF QlR Tryz.f93 Qav t=Qav.F t:=by kernel_rfl
theorem Qt0 (t:TupI (Qcs.ins.map PS.sh)):runF Qlh Tryz.f145 Qcs t=Qcs.F t:=by kernel_rfl
theorem Qog (t:TupI (JS.ins.map PS.sh)):runF QiG Tryz.f82 JS t=JS.F t:=by kernel_rfl
theorem Qtw (t:TupI (Qcm.ins.map PS.sh)):runF QlI Tryz.f98 Qcm t=Qcm.F t:=by kernel_rfl
theorem Qe8 (t:TupI (Zb.ins.map PS.sh)):runF JX Tryz.f166 Zb t=Zb.F t:=by kernel_rfl
theorem QvK (t:TupI (QcF.ins.map PS.sh)):runF Qlk Tryz.f54 QcF t=QcF.F t:=by kernel_rfl
theorem Qx6 (t:TupI (QdL.ins.map PS.sh)):runF Qna Tryz.f115 QdL t=QdL.F t:=by kernel_rfl
theorem QgD (t:TupI (Zq.ins.map PS.sh)):runF QaE Tryz.f122 Zq t=Zq.F t:=by kernel_rfl
theorem QbS (t:TupI (QN.ins.map PS.sh)):runF Yx Tryz.f183 QN t=QN.F t:=by kernel_rfl
theorem QAN (t:TupI (QaU.ins.map PS.sh)):runF Qn4 Tryz.f206 QaU t=QaU.F t:=by kernel_rfl
theorem Qqj (t:TupI (QaP.ins.map PS.sh)):runF Qjp Tryz.f39 QaP t=QaP.F t:=by kernel_rfl
theorem Qq1 (t:TupI (QaO.ins.map PS.sh)):runF Qjs Tryz.f204 QaO t=QaO.F t:=by kernel_rfl
theorem Qsn (t:TupI (QbE.ins.map PS.sh)):runF QkH Tryz.f220 QbE t=QbE.F t:=by kernel_rfl
theorem QyZ (t:TupI (Qb8.ins.map PS.sh)):runF QoM Tryz.f148 Qb8 t=Qb8.F t:=by kernel_rfl
theorem Qrl (t:TupI (QaW.ins.map PS.sh)):runF QjJ Tryz.f48 QaW t=QaW.F t:=by kernel_rfl
theorem QgY (t:TupI (Zs.ins.map PS.sh)):runF Qa2 Tryz.f257 Zs t=Zs.F t:=by kernel_rfl
theorem Qvi (t:TupI (Qcy.ins.map PS.sh)):runF Qmh Tryz.f55 Qcy t=Qcy.F t:=by kernel_rfl
theorem Qtp (t:TupI (QcG.ins.map PS.sh)):runF Qlq Tryz.f41 QcG t=QcG.F t:=by kernel_rfl
theorem QBT (t:TupI (ZI.ins.map PS.sh)):runF QpW Tryz.f107 ZI t=ZI.F t:=by kernel_rfl
theorem QBJ (t:TupI (Qd4.ins.map PS.sh)):runF Qp5 Tryz.f180 Qd4 t=Qd4.F t:=by kernel_rfl
theorem Qsl (t:TupI (Qbu.ins.map PS.sh)):runF Qj7 Tryz.f16 Qbu t=Qbu.F t:=by kernel_rfl
theorem Qtv (t:TupI (Qce.ins.map PS.sh)):runF QlA Tryz.f46 Qce t=Qce.F t:=by kernel_rfl
theorem QmH (t:TupI (Y7.ins.map PS.sh)):runF Qhl Tryz.f188 Y7 t=Y7.F t:=by kernel_rfl
theorem QjY (t:TupI (Yl.ins.map PS.sh)):runF QfH Tryz.f58 Yl t=Yl.F t:=by kernel_rfl
theorem Qvb (t:TupI (QcA.ins.map PS.sh)):runF QlB Tryz.f40 QcA t=QcA.F t:=by kernel_rfl
theorem QpJ (t:TupI (Qai.ins.map PS.sh)):runF QiU Tryz.f223 Qai t=Qai.F t:=by kernel_rfl
theorem QAq (t:TupI (Qe0.ins.map PS.sh)):runF Qor Tryz.f213 Qe0 t=Qe0.F t:=by kernel_rfl
end GL
end Go.Dx

