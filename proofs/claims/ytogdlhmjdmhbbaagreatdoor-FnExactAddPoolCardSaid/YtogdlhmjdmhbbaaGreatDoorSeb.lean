/- The executor finds what each function computes: by computation -/
import Derived.Test.YtogdlhmjdmhbbaaGreatDoorSca
set_option linter.unusedVariables false
set_option linter.unusedSimpArgs false
set_option maxRecDepth 100000
set_option maxHeartbeats 0
namespace Go.Dx
open Go.Proofs
namespace GL

theorem QvA (t:TupI (Qca.ins.map PS.sh)):runF Qmd Tryz.f163 Qca t=Qca.F t:=by kernel_rfl
theorem Qps (t:TupI (Qaf.ins.map PS.sh)):runF QiV Tryz.f125 Qaf t=Qaf.F t:=by kernel_rfl
theorem Qi7 (t:TupI (ZX.ins.map PS.sh)):runF Qel Tryz.f49 ZX t=ZX.F t:=by kernel_rfl
theorem Qog (t:TupI (JS.ins.map PS.sh)):runF QiG Tryz.f82 JS t=JS.F t:=by kernel_rfl
theorem QqU (t:TupI (QaB.ins.map PS.sh)):runF Qjv Tryz.f50 QaB t=QaB.F t:=by kernel_rfl
theorem QhJ (t:TupI (QY.ins.map PS.sh)):runF QbX Tryz.f155 QY t=QY.F t:=by kernel_rfl
theorem Quo (t:TupI (QcL.ins.map PS.sh)):runF QlT Tryz.f52 QcL t=QcL.F t:=by kernel_rfl
theorem Qxh (t:TupI (Qdy.ins.map PS.sh)):runF Qnl Tryz.f121 Qdy t=Qdy.F t:=by kernel_rfl
theorem QgD (t:TupI (Zq.ins.map PS.sh)):runF QaE Tryz.f122 Zq t=Zq.F t:=by kernel_rfl
theorem QqJ (t:TupI (YE.ins.map PS.sh)):runF Qjz Tryz.f168 YE t=YE.F t:=by kernel_rfl
theorem Qex (t:TupI (Q3.ins.map PS.sh)):runF Jz Tryz.f178 Q3 t=Q3.F t:=by kernel_rfl
theorem QBb (t:TupI (Qey.ins.map PS.sh)):runF QoG Tryz.f147 Qey t=Qey.F t:=by kernel_rfl
theorem QzK (t:TupI (Qe2.ins.map PS.sh)):runF Qom Tryz.f70 Qe2 t=Qe2.F t:=by kernel_rfl
theorem Qk6 (t:TupI (Yy.ins.map PS.sh)):runF QfQ Tryz.f171 Yy t=Yy.F t:=by kernel_rfl
theorem QhO (t:TupI (ZD.ins.map PS.sh)):runF Qcu Tryz.f87 ZD t=ZD.F t:=by kernel_rfl
theorem QBI (t:TupI (QfO.ins.map PS.sh)):runF Qqd Tryz.f162 QfO t=QfO.F t:=by kernel_rfl
theorem Qrl (t:TupI (QaW.ins.map PS.sh)):runF QjJ Tryz.f48 QaW t=QaW.F t:=by kernel_rfl
theorem Qu8 (t:TupI (Qck.ins.map PS.sh)):runF QlH Tryz.f142 Qck t=Qck.F t:=by kernel_rfl
theorem QhD (t:TupI (Zu.ins.map PS.sh)):runF Qbr Tryz.f85 Zu t=Zu.F t:=by kernel_rfl
theorem QKa (t:TupI (QIw.ins.map PS.sh)):runF QIW Tryz.f112 QIw t=QIw.F t:=by kernel_rfl
theorem Qc7 (t:TupI (QU.ins.map PS.sh)):runF Y3 Tryz.f131 QU t=QU.F t:=by kernel_rfl
theorem QwQ (t:TupI (QdI.ins.map PS.sh)):runF QnA Tryz.f164 QdI t=QdI.F t:=by kernel_rfl
theorem Qit (t:TupI (ZM.ins.map PS.sh)):runF QcQ Tryz.f137 ZM t=ZM.F t:=by kernel_rfl
theorem QrI (t:TupI (Qbk.ins.map PS.sh)):runF Qkv Tryz.f210 Qbk t=Qbk.F t:=by kernel_rfl
theorem QBt (t:TupI (Qd2.ins.map PS.sh)):runF Qqc Tryz.f97 Qd2 t=Qd2.F t:=by kernel_rfl
theorem QJe (t:TupI (QIa.ins.map PS.sh)):runF QIK Tryz.f29 QIa t=QIa.F t:=by kernel_rfl
theorem Qiw (t:TupI (ZL.ins.map PS.sh)):runF QcV Tryz.f135 ZL t=ZL.F t:=by kernel_rfl
theorem Qvb (t:TupI (QcA.ins.map PS.sh)):runF QlB Tryz.f40 QcA t=QcA.F t:=by kernel_rfl
theorem Qsp (t:TupI (J7.ins.map PS.sh)):runF Qki Tryz.f14 J7 t=J7.F t:=by kernel_rfl
theorem Qsc (t:TupI (Y9.ins.map PS.sh)):runF QkJ Tryz.f159 Y9 t=Y9.F t:=by kernel_rfl
end GL
end Go.Dx

