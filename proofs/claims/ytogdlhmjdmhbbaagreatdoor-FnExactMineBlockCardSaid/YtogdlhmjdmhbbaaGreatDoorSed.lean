/- The executor finds what each function computes: by computation -/
import Derived.Test.YtogdlhmjdmhbbaaGreatDoorSca
set_option linter.unusedVariables false
set_option linter.unusedSimpArgs false
set_option maxRecDepth 100000
set_option maxHeartbeats 0
namespace Go.Dx
open Go.Proofs
namespace GL

theorem QLr (t:TupI (QKP.ins.map PS.sh)):runF QK5 Tryz.f7 QKP t=QKP.F t:=by kernel_rfl
theorem Qur (t:TupI (Qch.ins.map PS.sh)):runF Qlf Tryz.f109 Qch t=Qch.F t:=by kernel_rfl
theorem QyB (t:TupI (Qa8.ins.map PS.sh)):runF Qnf Tryz.f99 Qa8 t=Qa8.F t:=by kernel_rfl
theorem Qt0 (t:TupI (Qcs.ins.map PS.sh)):runF Qlh Tryz.f145 Qcs t=Qcs.F t:=by kernel_rfl
theorem QLH (t:TupI (QKZ.ins.map PS.sh)):runF QLn Tryz.f32 QKZ t=QKZ.F t:=by kernel_rfl
theorem Qn3 (t:TupI (JM.ins.map PS.sh)):runF Qiy Tryz.f134 JM t=JM.F t:=by kernel_rfl
theorem Qtw (t:TupI (Qcm.ins.map PS.sh)):runF QlI Tryz.f98 Qcm t=Qcm.F t:=by kernel_rfl
theorem QLP (t:TupI (QK3.ins.map PS.sh)):runF QLy Tryz.f72 QK3 t=QK3.F t:=by kernel_rfl
theorem Qso (t:TupI (J3.ins.map PS.sh)):runF QkF Tryz.f18 J3 t=J3.F t:=by kernel_rfl
theorem Qt8 (t:TupI (Qcg.ins.map PS.sh)):runF Qlu Tryz.f230 Qcg t=Qcg.F t:=by kernel_rfl
theorem QLI (t:TupI (QKY.ins.map PS.sh)):runF QLm Tryz.f74 QKY t=QKY.F t:=by kernel_rfl
theorem Qlg (t:TupI (YI.ins.map PS.sh)):runF QgL Tryz.f103 YI t=YI.F t:=by kernel_rfl
theorem QxR (t:TupI (Qdr.ins.map PS.sh)):runF Qnp Tryz.f91 Qdr t=Qdr.F t:=by kernel_rfl
theorem QLC (t:TupI (QKU.ins.map PS.sh)):runF QLg Tryz.f34 QKU t=QKU.F t:=by kernel_rfl
theorem Qoo (t:TupI (Z8.ins.map PS.sh)):runF Qio Tryz.f169 Z8 t=Z8.F t:=by kernel_rfl
theorem Quh (t:TupI (Qcz.ins.map PS.sh)):runF Ql7 Tryz.f116 Qcz t=Qcz.F t:=by kernel_rfl
theorem Qym (t:TupI (Q4.ins.map PS.sh)):runF Qm5 Tryz.f123 Q4 t=Q4.F t:=by kernel_rfl
theorem QyZ (t:TupI (Qb8.ins.map PS.sh)):runF QoM Tryz.f148 Qb8 t=Qb8.F t:=by kernel_rfl
theorem QgY (t:TupI (Zs.ins.map PS.sh)):runF Qa2 Tryz.f257 Zs t=Zs.F t:=by kernel_rfl
theorem QJu (t:TupI (QIh.ins.map PS.sh)):runF QIM Tryz.f66 QIh t=QIh.F t:=by kernel_rfl
theorem QhD (t:TupI (Zu.ins.map PS.sh)):runF Qbr Tryz.f85 Zu t=Zu.F t:=by kernel_rfl
theorem QJX (t:TupI (QIt.ins.map PS.sh)):runF QIU Tryz.f64 QIt t=QIt.F t:=by kernel_rfl
theorem Qc7 (t:TupI (QU.ins.map PS.sh)):runF Y3 Tryz.f131 QU t=QU.F t:=by kernel_rfl
theorem QwQ (t:TupI (QdI.ins.map PS.sh)):runF QnA Tryz.f164 QdI t=QdI.F t:=by kernel_rfl
theorem Qol (t:TupI (JG.ins.map PS.sh)):runF Qif Tryz.f172 JG t=JG.F t:=by kernel_rfl
theorem Qw9 (t:TupI (Qds.ins.map PS.sh)):runF Qnu Tryz.f146 Qds t=Qds.F t:=by kernel_rfl
theorem QBt (t:TupI (Qd2.ins.map PS.sh)):runF Qqc Tryz.f97 Qd2 t=Qd2.F t:=by kernel_rfl
theorem Qse (t:TupI (QbG.ins.map PS.sh)):runF Qko Tryz.f156 QbG t=QbG.F t:=by kernel_rfl
theorem Qiw (t:TupI (ZL.ins.map PS.sh)):runF QcV Tryz.f135 ZL t=ZL.F t:=by kernel_rfl
theorem Qxt (t:TupI (Qdt.ins.map PS.sh)):runF QnE Tryz.f78 Qdt t=Qdt.F t:=by kernel_rfl
theorem Qsc (t:TupI (Y9.ins.map PS.sh)):runF QkJ Tryz.f159 Y9 t=Y9.F t:=by kernel_rfl
theorem QtX (t:TupI (Qcj.ins.map PS.sh)):runF Qll Tryz.f211 Qcj t=Qcj.F t:=by kernel_rfl
end GL
end Go.Dx

