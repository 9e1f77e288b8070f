/- The executor finds what each function computes: by computation -/
import Derived.Test.YtogdlhmjdmhbbaaGreatDoorSca
set_option linter.unusedVariables false
set_option linter.unusedSimpArgs false
set_option maxRecDepth 100000
set_option maxHeartbeats 0
namespace Go.Dx
open Go.Proofs
namespace GL

theorem QxM (t:TupI (Qbb.ins.map PS.sh)):runF Qm1 Tryz.f144 Qbb t=Qbb.F t:=by kernel_rfl
theorem Qyd (t:TupI (QdV.ins.map PS.sh)):runF Qm2 Tryz.f128 QdV t=QdV.F t:=by kernel_rfl
theorem QtS (t:TupI (Qcd.ins.map PS.sh)):runF QlU Tryz.f209 Qcd t=Qcd.F t:=by kernel_rfl
theorem Qvt (t:TupI (Jr.ins.map PS.sh)):runF Ql2 Tryz.f191 Jr t=Jr.F t:=by kernel_rfl
theorem QMd (t:TupI (QLU.ins.map PS.sh)):runF QL3 Tryz.f77 QLU t=QLU.F t:=by kernel_rfl
theorem QqU (t:TupI (QaB.ins.map PS.sh)):runF Qjv Tryz.f50 QaB t=QaB.F t:=by kernel_rfl
theorem Qu1 (t:TupI (QcE.ins.map PS.sh)):runF QlY Tryz.f76 QcE t=QcE.F t:=by kernel_rfl
theorem Qq9 (t:TupI (QaI.ins.map PS.sh)):runF Qjq Tryz.f53 QaI t=QaI.F t:=by kernel_rfl
theorem Qf4 (t:TupI (Zk.ins.map PS.sh)):runF Qas Tryz.f179 Zk t=Zk.F t:=by kernel_rfl
theorem Qo2 (t:TupI (JN.ins.map PS.sh)):runF Qix Tryz.f100 JN t=JN.F t:=by kernel_rfl
theorem Qxy (t:TupI (QdP.ins.map PS.sh)):runF QnC Tryz.f157 QdP t=QdP.F t:=by kernel_rfl
theorem QxR (t:TupI (Qdr.ins.map PS.sh)):runF Qnp Tryz.f91 Qdr t=Qdr.F t:=by kernel_rfl
theorem QBb (t:TupI (Qey.ins.map PS.sh)):runF QoG Tryz.f147 Qey t=Qey.F t:=by kernel_rfl
theorem QyM (t:TupI (QdZ.ins.map PS.sh)):runF Qns Tryz.f224 QdZ t=QdZ.F t:=by kernel_rfl
theorem Qsn (t:TupI (QbE.ins.map PS.sh)):runF QkH Tryz.f220 QbE t=QbE.F t:=by kernel_rfl
theorem Qtk (t:TupI (Qbf.ins.map PS.sh)):runF Qkl Tryz.f92 Qbf t=Qbf.F t:=by kernel_rfl
theorem QBD (t:TupI (QfS.ins.map PS.sh)):runF Qp7 Tryz.f75 QfS t=QfS.F t:=by kernel_rfl
theorem QgY (t:TupI (Zs.ins.map PS.sh)):runF Qa2 Tryz.f257 Zs t=Zs.F t:=by kernel_rfl
theorem Qqo (t:TupI (QaL.ins.map PS.sh)):runF QjQ Tryz.f44 QaL t=QaL.F t:=by kernel_rfl
theorem QDh (t:TupI (Qdb.ins.map PS.sh)):runF QsB Tryz.f152 Qdb t=Qdb.F t:=by kernel_rfl
theorem QKa (t:TupI (QIw.ins.map PS.sh)):runF QIW Tryz.f112 QIw t=QIw.F t:=by kernel_rfl
theorem QJk (t:TupI (QIf.ins.map PS.sh)):runF QIL Tryz.f24 QIf t=QIf.F t:=by kernel_rfl
theorem QBJ (t:TupI (Qd4.ins.map PS.sh)):runF Qp5 Tryz.f180 Qd4 t=Qd4.F t:=by kernel_rfl
theorem QsD (t:TupI (Qbx.ins.map PS.sh)):runF Qkm Tryz.f12 Qbx t=Qbx.F t:=by kernel_rfl
theorem Qs4 (t:TupI (Qbe.ins.map PS.sh)):runF QkA Tryz.f132 Qbe t=Qbe.F t:=by kernel_rfl
theorem QyI (t:TupI (Qdp.ins.map PS.sh)):runF Qnx Tryz.f79 Qdp t=Qdp.F t:=by kernel_rfl
theorem QBt (t:TupI (Qd2.ins.map PS.sh)):runF Qqc Tryz.f97 Qd2 t=Qd2.F t:=by kernel_rfl
theorem Qse (t:TupI (QbG.ins.map PS.sh)):runF Qko Tryz.f156 QbG t=QbG.F t:=by kernel_rfl
theorem Qvb (t:TupI (QcA.ins.map PS.sh)):runF QlB Tryz.f40 QcA t=QcA.F t:=by kernel_rfl
theorem Qxt (t:TupI (Qdt.ins.map PS.sh)):runF QnE Tryz.f78 Qdt t=Qdt.F t:=by kernel_rfl
theorem QfL (t:TupI (Zf.ins.map PS.sh)):runF Qak Tryz.f231 Zf t=Zf.F t:=by kernel_rfl
theorem QtX (t:TupI (Qcj.ins.map PS.sh)):runF Qll Tryz.f211 Qcj t=Qcj.F t:=by kernel_rfl
end GL
end Go.Dx

