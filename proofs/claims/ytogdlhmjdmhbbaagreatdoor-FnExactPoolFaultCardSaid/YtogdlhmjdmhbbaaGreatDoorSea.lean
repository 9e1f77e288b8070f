/- The executor finds what each function computes: by computation -/
import Derived.Test.YtogdlhmjdmhbbaaGreatDoorSca
set_option linter.unusedVariables false
set_option linter.unusedSimpArgs false
set_option maxRecDepth 100000
set_option maxHeartbeats 0
namespace Go.Dx
open Go.Proofs
namespace GL

theorem Qux (t:TupI (Jp.ins.map PS.sh)):runF QlL Tryz.f59 Jp t=Jp.F t:=by kernel_rfl
theorem Qvt (t:TupI (Jr.ins.map PS.sh)):runF Ql2 Tryz.f191 Jr t=Jr.F t:=by kernel_rfl
theorem Qlp (t:TupI (YN.ins.map PS.sh)):runF QgS Tryz.f57 YN t=YN.F t:=by kernel_rfl
theorem QuN (t:TupI (Qb7.ins.map PS.sh)):runF QlS Tryz.f176 Qb7 t=Qb7.F t:=by kernel_rfl
theorem Qvw (t:TupI (Qcc.ins.map PS.sh)):runF Qlv Tryz.f51 Qcc t=Qcc.F t:=by kernel_rfl
theorem QhJ (t:TupI (QY.ins.map PS.sh)):runF QbX Tryz.f155 QY t=QY.F t:=by kernel_rfl
theorem Qys (t:TupI (Qd0.ins.map PS.sh)):runF QnF Tryz.f43 Qd0 t=Qd0.F t:=by kernel_rfl
theorem Qvr (t:TupI (QcK.ins.map PS.sh)):runF QlQ Tryz.f101 QcK t=QcK.F t:=by kernel_rfl
theorem Qxy (t:TupI (QdP.ins.map PS.sh)):runF QnC Tryz.f157 QdP t=QdP.F t:=by kernel_rfl
theorem Qex (t:TupI (Q3.ins.map PS.sh)):runF Jz Tryz.f178 Q3 t=Q3.F t:=by kernel_rfl
theorem Qtb (t:TupI (QbF.ins.map PS.sh)):runF Qkw Tryz.f212 QbF t=QbF.F t:=by kernel_rfl
theorem Qoo (t:TupI (Z8.ins.map PS.sh)):runF Qio Tryz.f169 Z8 t=Z8.F t:=by kernel_rfl
theorem Qk6 (t:TupI (Yy.ins.map PS.sh)):runF QfQ Tryz.f171 Yy t=Yy.F t:=by kernel_rfl
theorem Qzy (t:TupI (QeB.ins.map PS.sh)):runF QnW Tryz.f118 QeB t=QeB.F t:=by kernel_rfl
theorem QpA (t:TupI (Qaj.ins.map PS.sh)):runF QiQ Tryz.f219 Qaj t=Qaj.F t:=by kernel_rfl
theorem QxF (t:TupI (QdF.ins.map PS.sh)):runF Qm9 Tryz.f102 QdF t=QdF.F t:=by kernel_rfl
theorem Qzf (t:TupI (QeU.ins.map PS.sh)):runF QoH Tryz.f150 QeU t=QeU.F t:=by kernel_rfl
theorem QhD (t:TupI (Zu.ins.map PS.sh)):runF Qbr Tryz.f85 Zu t=Zu.F t:=by kernel_rfl
theorem Qmw (t:TupI (YU.ins.map PS.sh)):runF Qhi Tryz.f56 YU t=YU.F t:=by kernel_rfl
theorem QwS (t:TupI (Qdq.ins.map PS.sh)):runF Qnm Tryz.f205 Qdq t=Qdq.F t:=by kernel_rfl
theorem Qs5 (t:TupI (Qaa.ins.map PS.sh)):runF Qkc Tryz.f108 Qaa t=Qaa.F t:=by kernel_rfl
theorem Qs4 (t:TupI (Qbe.ins.map PS.sh)):runF QkA Tryz.f132 Qbe t=Qbe.F t:=by kernel_rfl
theorem Qya (t:TupI (Qdw.ins.map PS.sh)):runF Qnq Tryz.f165 Qdw t=Qdw.F t:=by kernel_rfl
theorem Qse (t:TupI (QbG.ins.map PS.sh)):runF Qko Tryz.f156 QbG t=QbG.F t:=by kernel_rfl
theorem Qsi (t:TupI (Y8.ins.map PS.sh)):runF Qkr Tryz.f95 Y8 t=Y8.F t:=by kernel_rfl
theorem Qxt (t:TupI (Qdt.ins.map PS.sh)):runF QnE Tryz.f78 Qdt t=Qdt.F t:=by kernel_rfl
theorem QtX (t:TupI (Qcj.ins.map PS.sh)):runF Qll Tryz.f211 Qcj t=Qcj.F t:=by kernel_rfl
end GL
end Go.Dx

