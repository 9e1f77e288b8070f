/- The executor finds what each function computes: by computation -/
import Derived.Test.YtogdlhmjdmhbbaaGreatDoorSca
set_option linter.unusedVariables false
set_option linter.unusedSimpArgs false
set_option maxRecDepth 100000
set_option maxHeartbeats 0
namespace Go.Dx
open Go.Proofs
namespace GL

theorem Qux (t:TupI (Jp.ins.map PS.sh)):runF QlL Tryz.f59 Jp t=Jp.F t:=by kernel_rfl
theorem QnO (t:TupI (Jh.ins.map PS.sh)):runF QhL Tryz.f126 Jh t=Jh.F t:=by kernel_rfl
theorem QrE (t:TupI (Qbq.ins.map PS.sh)):runF QkB Tryz.f218 Qbq t=Qbq.F t:=by kernel_rfl
theorem Qog (t:TupI (JS.ins.map PS.sh)):runF QiG Tryz.f82 JS t=JS.F t:=by kernel_rfl
theorem QuN (t:TupI (Qb7.ins.map PS.sh)):runF QlS Tryz.f176 Qb7 t=Qb7.F t:=by kernel_rfl
theorem Qu1 (t:TupI (QcE.ins.map PS.sh)):runF QlY Tryz.f76 QcE t=QcE.F t:=by kernel_rfl
theorem QBk (t:TupI (QcI.ins.map PS.sh)):runF Qo3 Tryz.f138 QcI t=QcI.F t:=by kernel_rfl
theorem Quo (t:TupI (QcL.ins.map PS.sh)):runF QlT Tryz.f52 QcL t=QcL.F t:=by kernel_rfl
theorem Qx6 (t:TupI (QdL.ins.map PS.sh)):runF Qna Tryz.f115 QdL t=QdL.F t:=by kernel_rfl
theorem Qw8 (t:TupI (QdE.ins.map PS.sh)):runF Qnv Tryz.f190 QdE t=QdE.F t:=by kernel_rfl
theorem QqJ (t:TupI (YE.ins.map PS.sh)):runF Qjz Tryz.f168 YE t=YE.F t:=by kernel_rfl
theorem QAN (t:TupI (QaU.ins.map PS.sh)):runF Qn4 Tryz.f206 QaU t=QaU.F t:=by kernel_rfl
theorem QyD (t:TupI (QdW.ins.map PS.sh)):runF QnB Tryz.f143 QdW t=QdW.F t:=by kernel_rfl
theorem QyM (t:TupI (QdZ.ins.map PS.sh)):runF Qns Tryz.f224 QdZ t=QdZ.F t:=by kernel_rfl
theorem Qk6 (t:TupI (Yy.ins.map PS.sh)):runF QfQ Tryz.f171 Yy t=Yy.F t:=by kernel_rfl
theorem Qtk (t:TupI (Qbf.ins.map PS.sh)):runF Qkl Tryz.f92 Qbf t=Qbf.F t:=by kernel_rfl
theorem QBD (t:TupI (QfS.ins.map PS.sh)):runF Qp7 Tryz.f75 QfS t=QfS.F t:=by kernel_rfl
theorem Qto (t:TupI (Yf.ins.map PS.sh)):runF QlC Tryz.f117 Yf t=Yf.F t:=by kernel_rfl
theorem Qqo (t:TupI (QaL.ins.map PS.sh)):runF QjQ Tryz.f44 QaL t=QaL.F t:=by kernel_rfl
theorem QtM (t:TupI (Qcn.ins.map PS.sh)):runF Qmf Tryz.f10 Qcn t=Qcn.F t:=by kernel_rfl
theorem Qmw (t:TupI (YU.ins.map PS.sh)):runF Qhi Tryz.f56 YU t=YU.F t:=by kernel_rfl
theorem Qvx (t:TupI (Qcq.ins.map PS.sh)):runF Ql5 Tryz.f239 Qcq t=Qcq.F t:=by kernel_rfl
theorem Qs5 (t:TupI (Qaa.ins.map PS.sh)):runF Qkc Tryz.f108 Qaa t=Qaa.F t:=by kernel_rfl
theorem Qit (t:TupI (ZM.ins.map PS.sh)):runF QcQ Tryz.f137 ZM t=ZM.F t:=by kernel_rfl
theorem QAp (t:TupI (QeM.ins.map PS.sh)):runF Qok Tryz.f149 QeM t=QeM.F t:=by kernel_rfl
theorem Qya (t:TupI (Qdw.ins.map PS.sh)):runF Qnq Tryz.f165 Qdw t=Qdw.F t:=by kernel_rfl
theorem QjY (t:TupI (Yl.ins.map PS.sh)):runF QfH Tryz.f58 Yl t=Yl.F t:=by kernel_rfl
theorem Qvb (t:TupI (QcA.ins.map PS.sh)):runF QlB Tryz.f40 QcA t=QcA.F t:=by kernel_rfl
theorem QtE (t:TupI (QcJ.ins.map PS.sh)):runF Qlw Tryz.f45 QcJ t=QcJ.F t:=by kernel_rfl
theorem Qzt (t:TupI (JL.ins.map PS.sh)):runF Qo1 Tryz.f69 JL t=JL.F t:=by kernel_rfl
end GL
end Go.Dx

