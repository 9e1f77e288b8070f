/- The executor finds what each function computes: by computation -/
import Derived.Test.YtogdlhmjdmhbbaaGreatDoorSca
set_option linter.unusedVariables false
set_option linter.unusedSimpArgs false
set_option maxRecDepth 100000
set_option maxHeartbeats 0
namespace Go.Dx
open Go.Proofs
namespace GL

theorem QvA (t:TupI (Qca.ins.map PS.sh)):runF Qmd Tryz.f163 Qca t=Qca.F t:=by kernel_rfl
theorem QnO (t:TupI (Jh.ins.map PS.sh)):runF QhL Tryz.f126 Jh t=Jh.F t:=by kernel_rfl
theorem QrE (t:TupI (Qbq.ins.map PS.sh)):runF QkB Tryz.f218 Qbq t=Qbq.F t:=by kernel_rfl
theorem Qn3 (t:TupI (JM.ins.map PS.sh)):runF Qiy Tryz.f134 JM t=JM.F t:=by kernel_rfl
theorem Qu1 (t:TupI (QcE.ins.map PS.sh)):runF QlY Tryz.f76 QcE t=QcE.F t:=by kernel_rfl
theorem QBk (t:TupI (QcI.ins.map PS.sh)):runF Qo3 Tryz.f138 QcI t=QcI.F t:=by kernel_rfl
theorem Qf4 (t:TupI (Zk.ins.map PS.sh)):runF Qas Tryz.f179 Zk t=Zk.F t:=by kernel_rfl
theorem Qo2 (t:TupI (JN.ins.map PS.sh)):runF Qix Tryz.f100 JN t=JN.F t:=by kernel_rfl
theorem QxR (t:TupI (Qdr.ins.map PS.sh)):runF Qnp Tryz.f91 Qdr t=Qdr.F t:=by kernel_rfl
theorem QAV (t:TupI (Qez.ins.map PS.sh)):runF Qn2 Tryz.f208 Qez t=Qez.F t:=by kernel_rfl
theorem QqZ (t:TupI (QaC.ins.map PS.sh)):runF QjD Tryz.f47 QaC t=QaC.F t:=by kernel_rfl
theorem QAO (t:TupI (JJ.ins.map PS.sh)):runF Qoy Tryz.f114 JJ t=JJ.F t:=by kernel_rfl
theorem QeH (t:TupI (Qv.ins.map PS.sh)):runF JP Tryz.f133 Qv t=Qv.F t:=by kernel_rfl
theorem Qju (t:TupI (Z7.ins.map PS.sh)):runF QeD Tryz.f89 Z7 t=Z7.F t:=by kernel_rfl
theorem Qwy (t:TupI (QdS.ins.map PS.sh)):runF Qm4 Tryz.f80 QdS t=QdS.F t:=by kernel_rfl
theorem QAf (t:TupI (QaT.ins.map PS.sh)):runF Qof Tryz.f140 QaT t=QaT.F t:=by kernel_rfl
theorem Qu8 (t:TupI (Qck.ins.map PS.sh)):runF QlH Tryz.f142 Qck t=Qck.F t:=by kernel_rfl
theorem Qq7 (t:TupI (QaJ.ins.map PS.sh)):runF QjN Tryz.f42 QaJ t=QaJ.F t:=by kernel_rfl
theorem Qd9 (t:TupI (QK.ins.map PS.sh)):runF Jk Tryz.f86 QK t=QK.F t:=by kernel_rfl
theorem QrX (t:TupI (QbD.ins.map PS.sh)):runF Qkn Tryz.f158 QbD t=QbD.F t:=by kernel_rfl
theorem Qol (t:TupI (JG.ins.map PS.sh)):runF Qif Tryz.f172 JG t=JG.F t:=by kernel_rfl
theorem QrI (t:TupI (Qbk.ins.map PS.sh)):runF Qkv Tryz.f210 Qbk t=Qbk.F t:=by kernel_rfl
theorem QBt (t:TupI (Qd2.ins.map PS.sh)):runF Qqc Tryz.f97 Qd2 t=Qd2.F t:=by kernel_rfl
theorem Qx8 (t:TupI (Qdx.ins.map PS.sh)):runF Qnk Tryz.f105 Qdx t=Qdx.F t:=by kernel_rfl
theorem QtE (t:TupI (QcJ.ins.map PS.sh)):runF Qlw Tryz.f45 QcJ t=QcJ.F t:=by kernel_rfl
theorem Qzl (t:TupI (Qcx.ins.map PS.sh)):runF Qow Tryz.f119 Qcx t=Qcx.F t:=by kernel_rfl
theorem Qls (t:TupI (Z6.ins.map PS.sh)):runF QgT Tryz.f106 Z6 t=Z6.F t:=by kernel_rfl
end GL
end Go.Dx

