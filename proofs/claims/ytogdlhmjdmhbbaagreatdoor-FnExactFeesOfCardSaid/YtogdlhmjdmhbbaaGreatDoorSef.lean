/- The executor finds what each function computes: by computation -/
import Derived.Test.YtogdlhmjdmhbbaaGreatDoorSca
set_option linter.unusedVariables false
set_option linter.unusedSimpArgs false
set_option maxRecDepth 100000
set_option maxHeartbeats 0
namespace Go.Dx
open Go.Proofs
namespace GL

theorem Qsu (t:TupI (Qby.ins.map PS.sh)):runF Qkx Tryz.f110 Qby t=Qby.F t:=by kernel_rfl
theorem Qyd (t:TupI (QdV.ins.map PS.sh)):runF Qm2 Tryz.f128 QdV t=QdV.F t:=by kernel_rfl
theorem QyB (t:TupI (Qa8.ins.map PS.sh)):runF Qnf Tryz.f99 Qa8 t=Qa8.F t:=by kernel_rfl
theorem Qxo (t:TupI (QdG.ins.map PS.sh)):runF Qm3 Tryz.f161 QdG t=QdG.F t:=by kernel_rfl
theorem Qi7 (t:TupI (ZX.ins.map PS.sh)):runF Qel Tryz.f49 ZX t=ZX.F t:=by kernel_rfl
theorem QqQ (t:TupI (QaN.ins.map PS.sh)):runF QjU Tryz.f15 QaN t=QaN.F t:=by kernel_rfl
theorem Qu1 (t:TupI (QcE.ins.map PS.sh)):runF QlY Tryz.f76 QcE t=QcE.F t:=by kernel_rfl
theorem QBk (t:TupI (QcI.ins.map PS.sh)):runF Qo3 Tryz.f138 QcI t=QcI.F t:=by kernel_rfl
theorem Qso (t:TupI (J3.ins.map PS.sh)):runF QkF Tryz.f18 J3 t=J3.F t:=by kernel_rfl
theorem Qxh (t:TupI (Qdy.ins.map PS.sh)):runF Qnl Tryz.f121 Qdy t=Qdy.F t:=by kernel_rfl
theorem QqJ (t:TupI (YE.ins.map PS.sh)):runF Qjz Tryz.f168 YE t=YE.F t:=by kernel_rfl
theorem Qft (t:TupI (Zc.ins.map PS.sh)):runF Qac Tryz.f130 Zc t=Zc.F t:=by kernel_rfl
theorem QwF (t:TupI (QdR.ins.map PS.sh)):runF Qng Tryz.f90 QdR t=QdR.F t:=by kernel_rfl
theorem Qq1 (t:TupI (QaO.ins.map PS.sh)):runF Qjs Tryz.f204 QaO t=QaO.F t:=by kernel_rfl
theorem Qsn (t:TupI (QbE.ins.map PS.sh)):runF QkH Tryz.f220 QbE t=QbE.F t:=by kernel_rfl
theorem Qym (t:TupI (Q4.ins.map PS.sh)):runF Qm5 Tryz.f123 Q4 t=Q4.F t:=by kernel_rfl
theorem QyZ (t:TupI (Qb8.ins.map PS.sh)):runF QoM Tryz.f148 Qb8 t=Qb8.F t:=by kernel_rfl
theorem Qrl (t:TupI (QaW.ins.map PS.sh)):runF QjJ Tryz.f48 QaW t=QaW.F t:=by kernel_rfl
theorem QxF (t:TupI (QdF.ins.map PS.sh)):runF Qm9 Tryz.f102 QdF t=QdF.F t:=by kernel_rfl
theorem Quy (t:TupI (Qcp.ins.map PS.sh)):runF QlD Tryz.f17 Qcp t=Qcp.F t:=by kernel_rfl
theorem QzC (t:TupI (QeV.ins.map PS.sh)):runF Qob Tryz.f104 QeV t=QeV.F t:=by kernel_rfl
theorem Qd9 (t:TupI (QK.ins.map PS.sh)):runF Jk Tryz.f86 QK t=QK.F t:=by kernel_rfl
theorem Qs5 (t:TupI (Qaa.ins.map PS.sh)):runF Qkc Tryz.f108 Qaa t=Qaa.F t:=by kernel_rfl
theorem Qol (t:TupI (JG.ins.map PS.sh)):runF Qif Tryz.f172 JG t=JG.F t:=by kernel_rfl
theorem QBi (t:TupI (QeJ.ins.map PS.sh)):runF Qot Tryz.f88 QeJ t=QeJ.F t:=by kernel_rfl
theorem QjY (t:TupI (Yl.ins.map PS.sh)):runF QfH Tryz.f58 Yl t=Yl.F t:=by kernel_rfl
theorem QpO (t:TupI (Jb.ins.map PS.sh)):runF QiP Tryz.f136 Jb t=Jb.F t:=by kernel_rfl
theorem QBl (t:TupI (QeK.ins.map PS.sh)):runF Qn9 Tryz.f120 QeK t=QeK.F t:=by kernel_rfl
theorem Qzt (t:TupI (JL.ins.map PS.sh)):runF Qo1 Tryz.f69 JL t=JL.F t:=by kernel_rfl
end GL
end Go.Dx

