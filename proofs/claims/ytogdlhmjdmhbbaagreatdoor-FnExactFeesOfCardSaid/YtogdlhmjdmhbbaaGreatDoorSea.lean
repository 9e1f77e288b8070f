/- The executor finds what each function computes: by computation -/
import Derived.Test.YtogdlhmjdmhbbaaGreatDoorSca
set_option linter.unusedVariables false
set_option linter.unusedSimpArgs false
set_option maxRecDepth 100000
set_option maxHeartbeats 0
namespace Go.Dx
open Go.Proofs
namespace GL

theorem Qux (t:TupI (Jp.ins.map PS.sh)):runF QlL Tryz.f59 Jp t=Jp.F t:=by kernel_rfl
theorem Qvt (t:TupI (Jr.ins.map PS.sh)):runF Ql2 Tryz.f191 Jr t=Jr.F t:=by kernel_rfl
theorem Qlp (t:TupI (YN.ins.map PS.sh)):runF QgS Tryz.f57 YN t=YN.F t:=by kernel_rfl
theorem Qn3 (t:TupI (JM.ins.map PS.sh)):runF Qiy Tryz.f134 JM t=JM.F t:=by kernel_rfl
theorem Qtw (t:TupI (Qcm.ins.map PS.sh)):runF QlI Tryz.f98 Qcm t=Qcm.F t:=by kernel_rfl
theorem Qry (t:TupI (YV.ins.map PS.sh)):runF QkN Tryz.f207 YV t=YV.F t:=by kernel_rfl
theorem Quo (t:TupI (QcL.ins.map PS.sh)):runF QlT Tryz.f52 QcL t=QcL.F t:=by kernel_rfl
theorem Qo2 (t:TupI (JN.ins.map PS.sh)):runF Qix Tryz.f100 JN t=JN.F t:=by kernel_rfl
theorem Qxy (t:TupI (QdP.ins.map PS.sh)):runF QnC Tryz.f157 QdP t=QdP.F t:=by kernel_rfl
theorem QxR (t:TupI (Qdr.ins.map PS.sh)):runF Qnp Tryz.f91 Qdr t=Qdr.F t:=by kernel_rfl
theorem QBb (t:TupI (Qey.ins.map PS.sh)):runF QoG Tryz.f147 Qey t=Qey.F t:=by kernel_rfl
theorem Qtb (t:TupI (QbF.ins.map PS.sh)):runF Qkw Tryz.f212 QbF t=QbF.F t:=by kernel_rfl
theorem Qk6 (t:TupI (Yy.ins.map PS.sh)):runF QfQ Tryz.f171 Yy t=Yy.F t:=by kernel_rfl
theorem QsC (t:TupI (Qbv.ins.map PS.sh)):runF QkE Tryz.f81 Qbv t=Qbv.F t:=by kernel_rfl
theorem QAK (t:TupI (QeI.ins.map PS.sh)):runF QoR Tryz.f139 QeI t=QeI.F t:=by kernel_rfl
theorem Qwy (t:TupI (QdS.ins.map PS.sh)):runF Qm4 Tryz.f80 QdS t=QdS.F t:=by kernel_rfl
theorem QDh (t:TupI (Qdb.ins.map PS.sh)):runF QsB Tryz.f152 Qdb t=Qdb.F t:=by kernel_rfl
theorem Qzf (t:TupI (QeU.ins.map PS.sh)):runF QoH Tryz.f150 QeU t=QeU.F t:=by kernel_rfl
theorem Qtp (t:TupI (QcG.ins.map PS.sh)):runF Qlq Tryz.f41 QcG t=QcG.F t:=by kernel_rfl
theorem QrX (t:TupI (QbD.ins.map PS.sh)):runF Qkn Tryz.f158 QbD t=QbD.F t:=by kernel_rfl
theorem Qsl (t:TupI (Qbu.ins.map PS.sh)):runF Qj7 Tryz.f16 Qbu t=Qbu.F t:=by kernel_rfl
theorem Qtv (t:TupI (Qce.ins.map PS.sh)):runF QlA Tryz.f46 Qce t=Qce.F t:=by kernel_rfl
theorem Qzo (t:TupI (QeR.ins.map PS.sh)):runF Qoz Tryz.f141 QeR t=QeR.F t:=by kernel_rfl
theorem Qse (t:TupI (QbG.ins.map PS.sh)):runF Qko Tryz.f156 QbG t=QbG.F t:=by kernel_rfl
theorem QlW (t:TupI (YL.ins.map PS.sh)):runF QgI Tryz.f184 YL t=YL.F t:=by kernel_rfl
theorem QpJ (t:TupI (Qai.ins.map PS.sh)):runF QiU Tryz.f223 Qai t=Qai.F t:=by kernel_rfl
theorem Qsp (t:TupI (J7.ins.map PS.sh)):runF Qki Tryz.f14 J7 t=J7.F t:=by kernel_rfl
theorem QtX (t:TupI (Qcj.ins.map PS.sh)):runF Qll Tryz.f211 Qcj t=Qcj.F t:=by kernel_rfl
end GL
end Go.Dx

