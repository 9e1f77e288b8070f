/- The executor finds what each function computes: by computation -/
import Derived.Test.YtogdlhmjdmhbbaaGreatDoorSca
set_option linter.unusedVariables false
set_option linter.unusedSimpArgs false
set_option maxRecDepth 100000
set_option maxHeartbeats 0
namespace Go.Dx
open Go.Proofs
namespace GL

theorem QxM (t:TupI (Qbb.ins.map PS.sh)):runF Qm1 Tryz.f144 Qbb t=Qbb.F t:=by kernel_rfl
theorem Qyd (t:TupI (QdV.ins.map PS.sh)):runF Qm2 Tryz.f128 QdV t=QdV.F t:=by kernel_rfl
theorem QtS (t:TupI (Qcd.ins.map PS.sh)):runF QlU Tryz.f209 Qcd t=Qcd.F t:=by kernel_rfl
theorem Qvt (t:TupI (Jr.ins.map PS.sh)):runF Ql2 Tryz.f191 Jr t=Jr.F t:=by kernel_rfl
theorem QuV (t:TupI (QcH.ins.map PS.sh)):runF Ql9 Tryz.f60 QcH t=QcH.F t:=by kernel_rfl
theorem QqU (t:TupI (QaB.ins.map PS.sh)):runF Qjv Tryz.f50 QaB t=QaB.F t:=by kernel_rfl
theorem Qvw (t:TupI (Qcc.ins.map PS.sh)):runF Qlv Tryz.f51 Qcc t=Qcc.F t:=by kernel_rfl
theorem QvK (t:TupI (QcF.ins.map PS.sh)):runF Qlk Tryz.f54 QcF t=QcF.F t:=by kernel_rfl
theorem QLu (t:TupI (QKQ.ins.map PS.sh)):runF QK7 Tryz.f36 QKQ t=QKQ.F t:=by kernel_rfl
theorem Qpy (t:TupI (Qah.ins.map PS.sh)):runF QiS Tryz.f83 Qah t=Qah.F t:=by kernel_rfl
theorem Qo2 (t:TupI (JN.ins.map PS.sh)):runF Qix Tryz.f100 JN t=JN.F t:=by kernel_rfl
theorem QbS (t:TupI (QN.ins.map PS.sh)):runF Yx Tryz.f183 QN t=QN.F t:=by kernel_rfl
theorem Qft (t:TupI (Zc.ins.map PS.sh)):runF Qac Tryz.f130 Zc t=Zc.F t:=by kernel_rfl
theorem QwF (t:TupI (QdR.ins.map PS.sh)):runF Qng Tryz.f90 QdR t=QdR.F t:=by kernel_rfl
theorem Qon (t:TupI (YO.ins.map PS.sh)):runF QiC Tryz.f84 YO t=YO.F t:=by kernel_rfl
theorem Qsn (t:TupI (QbE.ins.map PS.sh)):runF QkH Tryz.f220 QbE t=QbE.F t:=by kernel_rfl
theorem QhO (t:TupI (ZD.ins.map PS.sh)):runF Qcu Tryz.f87 ZD t=ZD.F t:=by kernel_rfl
theorem QpA (t:TupI (Qaj.ins.map PS.sh)):runF QiQ Tryz.f219 Qaj t=Qaj.F t:=by kernel_rfl
theorem Qrl (t:TupI (QaW.ins.map PS.sh)):runF QjJ Tryz.f48 QaW t=QaW.F t:=by kernel_rfl
theorem QAf (t:TupI (QaT.ins.map PS.sh)):runF Qof Tryz.f140 QaT t=QaT.F t:=by kernel_rfl
theorem Ql4 (t:TupI (YJ.ins.map PS.sh)):runF QgM Tryz.f185 YJ t=YJ.F t:=by kernel_rfl
theorem QBT (t:TupI (ZI.ins.map PS.sh)):runF QpW Tryz.f107 ZI t=ZI.F t:=by kernel_rfl
theorem QzC (t:TupI (QeV.ins.map PS.sh)):runF Qob Tryz.f104 QeV t=QeV.F t:=by kernel_rfl
theorem QwS (t:TupI (Qdq.ins.map PS.sh)):runF Qnm Tryz.f205 Qdq t=Qdq.F t:=by kernel_rfl
theorem Qsl (t:TupI (Qbu.ins.map PS.sh)):runF Qj7 Tryz.f16 Qbu t=Qbu.F t:=by kernel_rfl
theorem QrI (t:TupI (Qbk.ins.map PS.sh)):runF Qkv Tryz.f210 Qbk t=Qbk.F t:=by kernel_rfl
theorem Qx8 (t:TupI (Qdx.ins.map PS.sh)):runF Qnk Tryz.f105 Qdx t=Qdx.F t:=by kernel_rfl
theorem QBB (t:TupI (QbP.ins.map PS.sh)):runF QpY Tryz.f160 QbP t=QbP.F t:=by kernel_rfl
theorem QnH (t:TupI (Yt.ins.map PS.sh)):runF QhN Tryz.f189 Yt t=Yt.F t:=by kernel_rfl
theorem Qzl (t:TupI (Qcx.ins.map PS.sh)):runF Qow Tryz.f119 Qcx t=Qcx.F t:=by kernel_rfl
theorem QfL (t:TupI (Zf.ins.map PS.sh)):runF Qak Tryz.f231 Zf t=Zf.F t:=by kernel_rfl
theorem Qpu (t:TupI (Qam.ins.map PS.sh)):runF QiT Tryz.f232 Qam t=Qam.F t:=by kernel_rfl
end GL
end Go.Dx

