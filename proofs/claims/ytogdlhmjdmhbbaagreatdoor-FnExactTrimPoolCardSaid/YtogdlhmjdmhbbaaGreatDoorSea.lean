/- The executor finds what each function computes: by computation -/
import Derived.Test.YtogdlhmjdmhbbaaGreatDoorSca
set_option linter.unusedVariables false
set_option linter.unusedSimpArgs false
set_option maxRecDepth 100000
set_option maxHeartbeats 0
namespace Go.Dx
open Go.Proofs
namespace GL

theorem Qux (t:TupI (Jp.ins.map PS.sh)):runF QlL Tryz.f59 Jp t=Jp.F t:=by kernel_rfl
theorem QnO (t:TupI (Jh.ins.map PS.sh)):runF QhL Tryz.f126 Jh t=Jh.F t:=by kernel_rfl
theorem Qi7 (t:TupI (ZX.ins.map PS.sh)):runF Qel Tryz.f49 ZX t=ZX.F t:=by kernel_rfl
theorem Qn3 (t:TupI (JM.ins.map PS.sh)):runF Qiy Tryz.f134 JM t=JM.F t:=by kernel_rfl
theorem Qu1 (t:TupI (QcE.ins.map PS.sh)):runF QlY Tryz.f76 QcE t=QcE.F t:=by kernel_rfl
theorem Qq9 (t:TupI (QaI.ins.map PS.sh)):runF Qjq Tryz.f53 QaI t=QaI.F t:=by kernel_rfl
theorem Quo (t:TupI (QcL.ins.map PS.sh)):runF QlT Tryz.f52 QcL t=QcL.F t:=by kernel_rfl
theorem Qpy (t:TupI (Qah.ins.map PS.sh)):runF QiS Tryz.f83 Qah t=Qah.F t:=by kernel_rfl
theorem Qql (t:TupI (Js.ins.map PS.sh)):runF QjB Tryz.f151 Js t=Js.F t:=by kernel_rfl
theorem QxR (t:TupI (Qdr.ins.map PS.sh)):runF Qnp Tryz.f91 Qdr t=Qdr.F t:=by kernel_rfl
theorem QwF (t:TupI (QdR.ins.map PS.sh)):runF Qng Tryz.f90 QdR t=QdR.F t:=by kernel_rfl
theorem QyM (t:TupI (QdZ.ins.map PS.sh)):runF Qns Tryz.f224 QdZ t=QdZ.F t:=by kernel_rfl
theorem QAO (t:TupI (JJ.ins.map PS.sh)):runF Qoy Tryz.f114 JJ t=JJ.F t:=by kernel_rfl
theorem QsC (t:TupI (Qbv.ins.map PS.sh)):runF QkE Tryz.f81 Qbv t=Qbv.F t:=by kernel_rfl
theorem Qzy (t:TupI (QeB.ins.map PS.sh)):runF QnW Tryz.f118 QeB t=QeB.F t:=by kernel_rfl
theorem QAv (t:TupI (QaA.ins.map PS.sh)):runF QnR Tryz.f167 QaA t=QaA.F t:=by kernel_rfl
theorem QAf (t:TupI (QaT.ins.map PS.sh)):runF Qof Tryz.f140 QaT t=QaT.F t:=by kernel_rfl
theorem Qzf (t:TupI (QeU.ins.map PS.sh)):runF QoH Tryz.f150 QeU t=QeU.F t:=by kernel_rfl
theorem Qq7 (t:TupI (QaJ.ins.map PS.sh)):runF QjN Tryz.f42 QaJ t=QaJ.F t:=by kernel_rfl
theorem Qmw (t:TupI (YU.ins.map PS.sh)):runF Qhi Tryz.f56 YU t=YU.F t:=by kernel_rfl
theorem Qa3 (t:TupI (Qw.ins.map PS.sh)):runF Yk Tryz.f170 Qw t=Qw.F t:=by kernel_rfl
theorem Qs5 (t:TupI (Qaa.ins.map PS.sh)):runF Qkc Tryz.f108 Qaa t=Qaa.F t:=by kernel_rfl
theorem Qtv (t:TupI (Qce.ins.map PS.sh)):runF QlA Tryz.f46 Qce t=Qce.F t:=by kernel_rfl
theorem Qw9 (t:TupI (Qds.ins.map PS.sh)):runF Qnu Tryz.f146 Qds t=Qds.F t:=by kernel_rfl
theorem Qya (t:TupI (Qdw.ins.map PS.sh)):runF Qnq Tryz.f165 Qdw t=Qdw.F t:=by kernel_rfl
theorem QJH (t:TupI (QIl.ins.map PS.sh)):runF QIO Tryz.f25 QIl t=QIl.F t:=by kernel_rfl
theorem QnH (t:TupI (Yt.ins.map PS.sh)):runF QhN Tryz.f189 Yt t=Yt.F t:=by kernel_rfl
theorem Qxt (t:TupI (Qdt.ins.map PS.sh)):runF QnE Tryz.f78 Qdt t=Qdt.F t:=by kernel_rfl
theorem QpJ (t:TupI (Qai.ins.map PS.sh)):runF QiU Tryz.f223 Qai t=Qai.F t:=by kernel_rfl
theorem Qpu (t:TupI (Qam.ins.map PS.sh)):runF QiT Tryz.f232 Qam t=Qam.F t:=by kernel_rfl
end GL
end Go.Dx

