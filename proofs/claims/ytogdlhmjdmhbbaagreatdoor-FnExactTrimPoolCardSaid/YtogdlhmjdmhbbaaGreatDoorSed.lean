/- The executor finds what each function computes: by computation -/
import Derived.Test.YtogdlhmjdmhbbaaGreatDoorSca
set_option linter.unusedVariables false
set_option linter.unusedSimpArgs false
set_option maxRecDepth 100000
set_option maxHeartbeats 0
namespace Go.Dx
open Go.Proofs
namespace GL

theorem QxM (t:TupI (Qbb.ins.map PS.sh)):runF Qm1 Tryz.f144 Qbb t=Qbb.F t:=by kernel_rfl
theorem Qur (t:TupI (Qch.ins.map PS.sh)):runF Qlf Tryz.f109 Qch t=Qch.F t:=by kernel_rfl
theorem QtS (t:TupI (Qcd.ins.map PS.sh)):runF QlU Tryz.f209 Qcd t=Qcd.F t:=by kernel_rfl
theorem Qvt (t:TupI (Jr.ins.map PS.sh)):runF Ql2 Tryz.f191 Jr t=Jr.F t:=by kernel_rfl
theorem Qlp (t:TupI (YN.ins.map PS.sh)):runF QgS Tryz.f57 YN t=YN.F t:=by kernel_rfl
theorem QqU (t:TupI (QaB.ins.map PS.sh)):runF Qjv Tryz.f50 QaB t=QaB.F t:=by kernel_rfl
theorem QhJ (t:TupI (QY.ins.map PS.sh)):runF QbX Tryz.f155 QY t=QY.F t:=by kernel_rfl
theorem Jt (t:TupI (Qr.ins.map PS.sh)):runF ZC Tryz.f187 Qr t=Qr.F t:=by kernel_rfl
theorem QKb (t:TupI (QIy.ins.map PS.sh)):runF QIV Tryz.f23 QIy t=QIy.F t:=by kernel_rfl
theorem QgD (t:TupI (Zq.ins.map PS.sh)):runF QaE Tryz.f122 Zq t=Zq.F t:=by kernel_rfl
theorem QqJ (t:TupI (YE.ins.map PS.sh)):runF Qjz Tryz.f168 YE t=YE.F t:=by kernel_rfl
theorem QAV (t:TupI (Qez.ins.map PS.sh)):runF Qn2 Tryz.f208 Qez t=Qez.F t:=by kernel_rfl
theorem Qqj (t:TupI (QaP.ins.map PS.sh)):runF Qjp Tryz.f39 QaP t=QaP.F t:=by kernel_rfl
theorem Qon (t:TupI (YO.ins.map PS.sh)):runF QiC Tryz.f84 YO t=YO.F t:=by kernel_rfl
theorem QI7 (t:TupI (QIb.ins.map PS.sh)):runF QIJ Tryz.f68 QIb t=QIb.F t:=by kernel_rfl
theorem QhO (t:TupI (ZD.ins.map PS.sh)):runF Qcu Tryz.f87 ZD t=ZD.F t:=by kernel_rfl
theorem QpA (t:TupI (Qaj.ins.map PS.sh)):runF QiQ Tryz.f219 Qaj t=Qaj.F t:=by kernel_rfl
theorem QdN (t:TupI (QW.ins.map PS.sh)):runF Jd Tryz.f181 QW t=QW.F t:=by kernel_rfl
theorem QDh (t:TupI (Qdb.ins.map PS.sh)):runF QsB Tryz.f152 Qdb t=Qdb.F t:=by kernel_rfl
theorem Qo6 (t:TupI (JQ.ins.map PS.sh)):runF QiH Tryz.f202 JQ t=JQ.F t:=by kernel_rfl
theorem QKa (t:TupI (QIw.ins.map PS.sh)):runF QIW Tryz.f112 QIw t=QIw.F t:=by kernel_rfl
theorem Qd9 (t:TupI (QK.ins.map PS.sh)):runF Jk Tryz.f86 QK t=QK.F t:=by kernel_rfl
theorem QsD (t:TupI (Qbx.ins.map PS.sh)):runF Qkm Tryz.f12 Qbx t=Qbx.F t:=by kernel_rfl
theorem Qs4 (t:TupI (Qbe.ins.map PS.sh)):runF QkA Tryz.f132 Qbe t=Qbe.F t:=by kernel_rfl
theorem Qzo (t:TupI (QeR.ins.map PS.sh)):runF Qoz Tryz.f141 QeR t=QeR.F t:=by kernel_rfl
theorem QmH (t:TupI (Y7.ins.map PS.sh)):runF Qhl Tryz.f188 Y7 t=Y7.F t:=by kernel_rfl
theorem QjY (t:TupI (Yl.ins.map PS.sh)):runF QfH Tryz.f58 Yl t=Yl.F t:=by kernel_rfl
theorem QpO (t:TupI (Jb.ins.map PS.sh)):runF QiP Tryz.f136 Jb t=Jb.F t:=by kernel_rfl
theorem Qsi (t:TupI (Y8.ins.map PS.sh)):runF Qkr Tryz.f95 Y8 t=Y8.F t:=by kernel_rfl
theorem Qsp (t:TupI (J7.ins.map PS.sh)):runF Qki Tryz.f14 J7 t=J7.F t:=by kernel_rfl
theorem QfL (t:TupI (Zf.ins.map PS.sh)):runF Qak Tryz.f231 Zf t=Zf.F t:=by kernel_rfl
end GL
end Go.Dx

