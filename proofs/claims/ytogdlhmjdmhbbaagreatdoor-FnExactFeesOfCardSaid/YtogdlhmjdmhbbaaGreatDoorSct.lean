/- The contracts of the functions -/
import Derived.Test.YtogdlhmjdmhbbaaGreatDoorSea
import Derived.Test.YtogdlhmjdmhbbaaGreatDoorSeb
import Derived.Test.YtogdlhmjdmhbbaaGreatDoorSec
import Derived.Test.YtogdlhmjdmhbbaaGreatDoorSed
import Derived.Test.YtogdlhmjdmhbbaaGreatDoorSee
import Derived.Test.YtogdlhmjdmhbbaaGreatDoorSef
import Derived.Test.YtogdlhmjdmhbbaaGreatDoorHdDigW192
import Derived.Test.YtogdlhmjdmhbbaaGreatDoorHdSwpW193
import Derived.Test.YtogdlhmjdmhbbaaGreatDoorHdFmtW196
import Derived.Test.YtogdlhmjdmhbbaaGreatDoorHdJoinW153
import Derived.Test.YtogdlhmjdmhbbaaGreatDoorHdSplitW173
import Derived.Test.YtogdlhmjdmhbbaaGreatDoorHdNumW174
import Derived.Test.YtogdlhmjdmhbbaaGreatDoorHdCutW175
import Derived.Test.YtogdlhmjdmhbbaaGreatDoorHdSortW203
import Derived.Test.YtogdlhmjdmhbbaaGreatDoorHdDelW182
import Derived.Test.YtogdlhmjdmhbbaaGreatDoorHdInsW186
set_option linter.unusedVariables false
set_option linter.unusedSimpArgs false
set_option maxRecDepth 100000
set_option maxHeartbeats 0
namespace Go.Dx
open Go.Proofs
namespace GL

theorem Qq4:Tryz.f39.body.isSome=true:=by kernel_rfl
theorem QqE:(Tryz.f39.name == "runtime.NumGoroutine")=false:=by kernel_rfl
theorem Qqy {W0:World}:Contract Tryz.prog W0 39 QaP:=Qa (C:=Qjp) (fn:=Tryz.f39) (Qc (C:=X0) rfl Qe) (Qb (P:=Tryz.prog) trivial) follows Tryz.func39 Qq4 QqE (fun t ys h=>(Qqj t).trans h)
theorem Qvn:Tryz.f40.body.isSome=true:=by kernel_rfl
theorem Qu5:(Tryz.f40.name == "runtime.NumGoroutine")=false:=by kernel_rfl
theorem Qu7 {W0:World}:Contract Tryz.prog W0 40 QcA:=Qa (C:=QlB) (fn:=Tryz.f40) (Qc (C:=X0) rfl Qe) (Qb (P:=Tryz.prog) trivial) follows Tryz.func40 Qvn Qu5 (fun t ys h=>(Qvb t).trans h)
theorem Qs7:Tryz.f9.body.isSome=true:=by kernel_rfl
theorem QrN:(Tryz.f9.name == "runtime.NumGoroutine")=false:=by kernel_rfl
theorem QsJ {W0:World}:Contract Tryz.prog W0 9 Qbi:=Qa (C:=Qku) (fn:=Tryz.f9) (Qc (C:=X0) rfl Qe) (Qb (P:=Tryz.prog) ⟨Qqy,Qu7,trivial⟩) follows Tryz.func9 Qs7 QrN (fun t ys h=>(QsK t).trans h)
theorem Qr8:Tryz.f210.body.isSome=true:=by kernel_rfl
theorem Qtj:(Tryz.f210.name == "runtime.NumGoroutine")=false:=by kernel_rfl
theorem Qst {W0:World}:Contract Tryz.prog W0 210 Qbk:=Qa (C:=Qkv) (fn:=Tryz.f210) (Qc (C:=X0) rfl Qe) (Qb (P:=Tryz.prog) trivial) follows Tryz.func210 Qr8 Qtj (fun t ys h=>(QrI t).trans h)
theorem QyO:Tryz.f164.body.isSome=true:=by kernel_rfl
theorem Qxg:(Tryz.f164.name == "runtime.NumGoroutine")=false:=by kernel_rfl
theorem Qyu {W0:World}:Contract Tryz.prog W0 164 QdI:=Qa (C:=QnA) (fn:=Tryz.f164) (Qc (C:=X0) rfl Qe) (Qb (P:=Tryz.prog) ⟨Qst,trivial⟩) follows Tryz.func164 QyO Qxg (fun t ys h=>(QwQ t).trans h)
theorem QAo:Tryz.f118.body.isSome=true:=by kernel_rfl
theorem QAh:(Tryz.f118.name == "runtime.NumGoroutine")=false:=by kernel_rfl
theorem Qy2 {W0:World}:Contract Tryz.prog W0 118 QeB:=Qa (C:=QnW) (fn:=Tryz.f118) (Qc (C:=X0) rfl Qe) (Qb (P:=Tryz.prog) ⟨Qyu,trivial⟩) follows Tryz.func118 QAo QAh (fun t ys h=>(Qzy t).trans h)
theorem QwV:Tryz.f78.body.isSome=true:=by kernel_rfl
theorem Qxj:(Tryz.f78.name == "runtime.NumGoroutine")=false:=by kernel_rfl
theorem QxV {W0:World}:Contract Tryz.prog W0 78 Qdt:=Qa (C:=QnE) (fn:=Tryz.f78) (Qc (C:=X0) rfl Qe) (Qb (P:=Tryz.prog) ⟨Qy2,trivial⟩) follows Tryz.func78 QwV Qxj (fun t ys h=>(Qxt t).trans h)
theorem Qua:Tryz.f41.body.isSome=true:=by kernel_rfl
theorem QuO:(Tryz.f41.name == "runtime.NumGoroutine")=false:=by kernel_rfl
theorem Quu {W0:World}:Contract Tryz.prog W0 41 QcG:=Qa (C:=Qlq) (fn:=Tryz.f41) (Qc (C:=X0) rfl Qe) (Qb (P:=Tryz.prog) ⟨QxV,trivial⟩) follows Tryz.func41 Qua QuO (fun t ys h=>(Qtp t).trans h)
theorem Qrx:Tryz.f42.body.isSome=true:=by kernel_rfl
theorem QqT:(Tryz.f42.name == "runtime.NumGoroutine")=false:=by kernel_rfl
theorem QqF {W0:World}:Contract Tryz.prog W0 42 QaJ:=Qa (C:=QjN) (fn:=Tryz.f42) (Qc (C:=X0) rfl Qe) (Qb (P:=Tryz.prog) trivial) follows Tryz.func42 Qrx QqT (fun t ys h=>(Qq7 t).trans h)
theorem Qva:Tryz.f10.body.isSome=true:=by kernel_rfl
theorem Qtt:(Tryz.f10.name == "runtime.NumGoroutine")=false:=by kernel_rfl
theorem Qt4 {W0:World}:Contract Tryz.prog W0 10 Qcn:=Qa (C:=Qmf) (fn:=Tryz.f10) (Qc (C:=X0) rfl Qe) (Qb (P:=Tryz.prog) ⟨Quu,QqF,trivial⟩) follows Tryz.func10 Qva Qtt (fun t ys h=>(QtM t).trans h)
theorem QB1:Tryz.f107.body.isSome=true:=by kernel_rfl
theorem QB0:(Tryz.f107.name == "runtime.NumGoroutine")=false:=by kernel_rfl
theorem YQ {W0:World}:Contract Tryz.prog W0 107 ZI:=Qa (C:=QpW) (fn:=Tryz.f107) (Qc (C:=X0) rfl Qe) (Qb (P:=Tryz.prog) trivial) follows Tryz.func107 QB1 QB0 (fun t ys h=>(QBT t).trans h)
theorem QAM:Tryz.f69.body.isSome=true:=by kernel_rfl
theorem Qz9:(Tryz.f69.name == "runtime.NumGoroutine")=false:=by kernel_rfl
theorem Qhc {W0:World}:Contract Tryz.prog W0 69 JL:=Qa (C:=Qo1) (fn:=Tryz.f69) (Qc (C:=X0) rfl Qe) (Qb (P:=Tryz.prog) ⟨YQ,trivial⟩) follows Tryz.func69 QAM Qz9 (fun t ys h=>(Qzt t).trans h)
theorem QBU:Tryz.f97.body.isSome=true:=by kernel_rfl
theorem QBz:(Tryz.f97.name == "runtime.NumGoroutine")=false:=by kernel_rfl
theorem QpT {W0:World}:Contract Tryz.prog W0 97 Qd2:=Qa (C:=Qqc) (fn:=Tryz.f97) (Qc (C:=X0) rfl Qe) (Qb (P:=Tryz.prog) trivial) follows Tryz.func97 QBU QBz (fun t ys h=>(QBt t).trans h)
theorem Qrz:Tryz.f108.body.isSome=true:=by kernel_rfl
theorem QsS:(Tryz.f108.name == "runtime.NumGoroutine")=false:=by kernel_rfl
theorem QkI {W0:World}:Contract Tryz.prog W0 108 Qaa:=Qa (C:=Qkc) (fn:=Tryz.f108) (Qc (C:=X0) rfl Qe) (Qb (P:=Tryz.prog) trivial) follows Tryz.func108 Qrz QsS (fun t ys h=>(Qs5 t).trans h)
theorem Qud:Tryz.f59.body.isSome=true:=by kernel_rfl
theorem QvH:(Tryz.f59.name == "runtime.NumGoroutine")=false:=by kernel_rfl
theorem Qh2 {W0:World}:Contract Tryz.prog W0 59 Jp:=Qa (C:=QlL) (fn:=Tryz.f59) (Qc (C:=X0) rfl Qe) (Qb (P:=Tryz.prog) ⟨Qhc,QpT,YQ,QkI,trivial⟩) follows Tryz.func59 Qud QvH (fun t ys h=>(Qux t).trans h)
theorem Qr3:Tryz.f95.body.isSome=true:=by kernel_rfl
theorem Qr4:(Tryz.f95.name == "runtime.NumGoroutine")=false:=by kernel_rfl
theorem QhA {W0:World}:Contract Tryz.prog W0 95 Y8:=Qa (C:=Qkr) (fn:=Tryz.f95) (Qc (C:=X0) rfl Qe) (Qb (P:=Tryz.prog) ⟨YQ,trivial⟩) follows Tryz.func95 Qr3 Qr4 (fun t ys h=>(Qsi t).trans h)
theorem QAR:Tryz.f140.body.isSome=true:=by kernel_rfl
theorem QzB:(Tryz.f140.name == "runtime.NumGoroutine")=false:=by kernel_rfl
theorem QjX {W0:World}:Contract Tryz.prog W0 140 QaT:=Qa (C:=Qof) (fn:=Tryz.f140) (Qc (C:=X0) rfl Qe) (Qb (P:=Tryz.prog) ⟨YQ,trivial⟩) follows Tryz.func140 QAR QzB (fun t ys h=>(QAf t).trans h)
theorem QuD:Tryz.f191.body.isSome=true:=by kernel_rfl
theorem QuG:(Tryz.f191.name == "runtime.NumGoroutine")=false:=by kernel_rfl
theorem Qh6 {W0:World}:Contract Tryz.prog W0 191 Jr:=Qa (C:=Ql2) (fn:=Tryz.f191) (Qc (C:=X0) rfl Qe) (Qb (P:=Tryz.prog) ⟨Qhc,QhA,YQ,trivial⟩) follows Tryz.func191 QuD QuG (fun t ys h=>(Qvt t).trans h)
theorem Qzj:Tryz.f141.body.isSome=true:=by kernel_rfl
theorem Qze:(Tryz.f141.name == "runtime.NumGoroutine")=false:=by kernel_rfl
theorem QAE {W0:World}:Contract Tryz.prog W0 141 QeR:=Qa (C:=Qoz) (fn:=Tryz.f141) (Qc (C:=X0) rfl Qe) (Qb (P:=Tryz.prog) ⟨YQ,Qh6,trivial⟩) follows Tryz.func141 Qzj Qze (fun t ys h=>(Qzo t).trans h)
theorem QvB:Tryz.f142.body.isSome=true:=by kernel_rfl
theorem QuI:(Tryz.f142.name == "runtime.NumGoroutine")=false:=by kernel_rfl
theorem Qvq {W0:World}:Contract Tryz.prog W0 142 Qck:=Qa (C:=QlH) (fn:=Tryz.f142) (Qc (C:=X0) rfl Qe) (Qb (P:=Tryz.prog) trivial) follows Tryz.func142 QvB QuI (fun t ys h=>(Qu8 t).trans h)
theorem Qub:Tryz.f93.body.isSome=true:=by kernel_rfl
theorem QvQ:(Tryz.f93.name == "runtime.NumGoroutine")=false:=by kernel_rfl
theorem QlX {W0:World}:Contract Tryz.prog W0 93 Qav:=Qa (C:=QlR) (fn:=Tryz.f93) (Qc (C:=X0) rfl Qe) (Qb (P:=Tryz.prog) ⟨QhA,QjX,QAE,Qvq,trivial⟩) follows Tryz.func93 Qub QvQ (fun t ys h=>(QvR t).trans h)
theorem QuL:Tryz.f109.body.isSome=true:=by kernel_rfl
theorem QuZ:(Tryz.f109.name == "runtime.NumGoroutine")=false:=by kernel_rfl
theorem QtA {W0:World}:Contract Tryz.prog W0 109 Qch:=Qa (C:=Qlf) (fn:=Tryz.f109) (Qc (C:=X0) rfl Qe) (Qb (P:=Tryz.prog) ⟨Qhc,QjX,trivial⟩) follows Tryz.func109 QuL QuZ (fun t ys h=>(Qur t).trans h)
theorem QvC:Tryz.f60.body.isSome=true:=by kernel_rfl
theorem Qus:(Tryz.f60.name == "runtime.NumGoroutine")=false:=by kernel_rfl
theorem Qt3 {W0:World}:Contract Tryz.prog W0 60 QcH:=Qa (C:=Ql9) (fn:=Tryz.f60) (Qc (C:=X0) rfl Qe) (Qb (P:=Tryz.prog) ⟨QlX,YQ,QtA,trivial⟩) follows Tryz.func60 QvC Qus (fun t ys h=>(QuV t).trans h)
theorem QvL:Tryz.f117.body.isSome=true:=by kernel_rfl
theorem Qvm:(Tryz.f117.name == "runtime.NumGoroutine")=false:=by kernel_rfl
theorem QcB {W0:World}:Contract Tryz.prog W0 117 Yf:=Qa (C:=QlC) (fn:=Tryz.f117) (Qc (C:=X0) rfl Qe) (Qb (P:=Tryz.prog) trivial) follows Tryz.func117 QvL Qvm (fun t ys h=>(Qto t).trans h)
theorem Qyg:Tryz.f143.body.isSome=true:=by kernel_rfl
theorem Qw4:(Tryz.f143.name == "runtime.NumGoroutine")=false:=by kernel_rfl
theorem Qx5 {W0:World}:Contract Tryz.prog W0 143 QdW:=Qa (C:=QnB) (fn:=Tryz.f143) (Qc (C:=X0) rfl Qe) (Qb (P:=Tryz.prog) ⟨YQ,Qh6,trivial⟩) follows Tryz.func143 Qyg Qw4 (fun t ys h=>(QyD t).trans h)
theorem Qve:Tryz.f94.body.isSome=true:=by kernel_rfl
theorem Qt6:(Tryz.f94.name == "runtime.NumGoroutine")=false:=by kernel_rfl
theorem QhT {W0:World}:Contract Tryz.prog W0 94 Jx:=Qa (C:=Ql1) (fn:=Tryz.f94) (Qc (C:=X0) rfl Qe) (Qb (P:=Tryz.prog) ⟨Qhc,YQ,QcB,QjX,Qx5,trivial⟩) follows Tryz.func94 Qve Qt6 (fun t ys h=>(QtB t).trans h)
theorem QFE:Tryz.f192.body.isSome=true:=by kernel_rfl
theorem QFy:(Tryz.f192.name == "runtime.NumGoroutine")=false:=by kernel_rfl
theorem Qky {W0:World}:Contract Tryz.prog W0 192 Qg6:=QFD 19
theorem QxX:Tryz.f193.body.isSome=true:=by kernel_rfl
theorem Qx1:(Tryz.f193.name == "runtime.NumGoroutine")=false:=by kernel_rfl
theorem Qnd {W0:World}:Contract Tryz.prog W0 193 QiN:=QE2 ⟨Tryz.f193,Tryz.func193,QxX,Qx1⟩
theorem QxK:Tryz.f194.body.isSome=true:=by kernel_rfl
theorem Qx2:(Tryz.f194.name == "runtime.NumGoroutine")=false:=by kernel_rfl
theorem QxZ {W0:World}:Contract Tryz.prog W0 194 QdO:=Qa (C:=Qnh) (fn:=Tryz.f194) (Qc (C:=X0) rfl Qe) (Qb (P:=Tryz.prog) ⟨Qky,trivial⟩) follows Tryz.func194 QxK Qx2 (fun t ys h=>(Qxv t).trans h)
theorem QxO:Tryz.f144.body.isSome=true:=by kernel_rfl
theorem Qws:(Tryz.f144.name == "runtime.NumGoroutine")=false:=by kernel_rfl
theorem Qnb {W0:World}:Contract Tryz.prog W0 144 Qbb:=Qa (C:=Qm1) (fn:=Tryz.f144) (Qc (C:=X0) rfl Qe) (Qb (P:=Tryz.prog) ⟨Qky,Qnd,QxZ,trivial⟩) follows Tryz.func144 QxO Qws (fun t ys h=>(QxM t).trans h)
theorem QwO:Tryz.f96.body.isSome=true:=by kernel_rfl
theorem QxB:(Tryz.f96.name == "runtime.NumGoroutine")=false:=by kernel_rfl
theorem Qyx {W0:World}:Contract Tryz.prog W0 96 Qdo:=Qa (C:=Qnj) (fn:=Tryz.f96) (Qc (C:=X0) rfl Qe) (Qb (P:=Tryz.prog) ⟨QhT,Qnb,trivial⟩) follows Tryz.func96 QwO QxB (fun t ys h=>(Qxr t).trans h)
theorem Qwx:Tryz.f224.body.isSome=true:=by kernel_rfl
theorem QwR:(Tryz.f224.name == "runtime.NumGoroutine")=false:=by kernel_rfl
theorem QwH {W0:World}:Contract Tryz.prog W0 224 QdZ:=Qa (C:=Qns) (fn:=Tryz.f224) (Qc (C:=X0) rfl Qe) (Qb (P:=Tryz.prog) trivial) follows Tryz.func224 Qwx QwR (fun t ys h=>(QyM t).trans h)
theorem QxN:Tryz.f195.body.isSome=true:=by kernel_rfl
theorem Qyk:(Tryz.f195.name == "runtime.NumGoroutine")=false:=by kernel_rfl
theorem QwZ {W0:World}:Contract Tryz.prog W0 195 QdU:=Qa (C:=Qni) (fn:=Tryz.f195) (Qc (C:=X0) rfl Qe) (Qb (P:=Tryz.prog) ⟨QwH,trivial⟩) follows Tryz.func195 QxN Qyk (fun t ys h=>(Qye t).trans h)
theorem QvM:Tryz.f145.body.isSome=true:=by kernel_rfl
theorem QuM:(Tryz.f145.name == "runtime.NumGoroutine")=false:=by kernel_rfl
theorem QvG {W0:World}:Contract Tryz.prog W0 145 Qcs:=Qa (C:=Qlh) (fn:=Tryz.f145) (Qc (C:=X0) rfl Qe) (Qb (P:=Tryz.prog) ⟨QcB,QwZ,trivial⟩) follows Tryz.func145 QvM QuM (fun t ys h=>(Qt0 t).trans h)
theorem QxY:Tryz.f146.body.isSome=true:=by kernel_rfl
theorem Qw0:(Tryz.f146.name == "runtime.NumGoroutine")=false:=by kernel_rfl
theorem QxQ {W0:World}:Contract Tryz.prog W0 146 Qds:=Qa (C:=Qnu) (fn:=Tryz.f146) (Qc (C:=X0) rfl Qe) (Qb (P:=Tryz.prog) trivial) follows Tryz.func146 QxY Qw0 (fun t ys h=>(Qw9 t).trans h)
theorem QAj:Tryz.f148.body.isSome=true:=by kernel_rfl
theorem QzX:(Tryz.f148.name == "runtime.NumGoroutine")=false:=by kernel_rfl
theorem Qop {W0:World}:Contract Tryz.prog W0 148 Qb8:=Qa (C:=QoM) (fn:=Tryz.f148) (Qc (C:=X0) rfl Qe) (Qb (P:=Tryz.prog) ⟨QkI,trivial⟩) follows Tryz.func148 QAj QzX (fun t ys h=>(QyZ t).trans h)
theorem QBj:Tryz.f147.body.isSome=true:=by kernel_rfl
theorem QzH:(Tryz.f147.name == "runtime.NumGoroutine")=false:=by kernel_rfl
theorem QzE {W0:World}:Contract Tryz.prog W0 147 Qey:=Qa (C:=QoG) (fn:=Tryz.f147) (Qc (C:=X0) rfl Qe) (Qb (P:=Tryz.prog) ⟨Qop,trivial⟩) follows Tryz.func147 QBj QzH (fun t ys h=>(QBb t).trans h)
theorem QzT:Tryz.f149.body.isSome=true:=by kernel_rfl
theorem QzY:(Tryz.f149.name == "runtime.NumGoroutine")=false:=by kernel_rfl
theorem QAI {W0:World}:Contract Tryz.prog W0 149 QeM:=Qa (C:=Qok) (fn:=Tryz.f149) (Qc (C:=X0) rfl Qe) (Qb (P:=Tryz.prog) trivial) follows Tryz.func149 QzT QzY (fun t ys h=>(QAp t).trans h)
theorem QzP:Tryz.f150.body.isSome=true:=by kernel_rfl
theorem Qz4:(Tryz.f150.name == "runtime.NumGoroutine")=false:=by kernel_rfl
theorem QzU {W0:World}:Contract Tryz.prog W0 150 QeU:=Qa (C:=QoH) (fn:=Tryz.f150) (Qc (C:=X0) rfl Qe) (Qb (P:=Tryz.prog) trivial) follows Tryz.func150 QzP Qz4 (fun t ys h=>(Qzf t).trans h)
theorem Qty:Tryz.f98.body.isSome=true:=by kernel_rfl
theorem Qvy:(Tryz.f98.name == "runtime.NumGoroutine")=false:=by kernel_rfl
theorem Qvd {W0:World}:Contract Tryz.prog W0 98 Qcm:=Qa (C:=QlI) (fn:=Tryz.f98) (Qc (C:=X0) rfl Qe) (Qb (P:=Tryz.prog) ⟨QvG,QxQ,QzE,Qop,QAI,QzU,trivial⟩) follows Tryz.func98 Qty Qvy (fun t ys h=>(Qtw t).trans h)
theorem QuY:Tryz.f54.body.isSome=true:=by kernel_rfl
theorem Qtn:(Tryz.f54.name == "runtime.NumGoroutine")=false:=by kernel_rfl
theorem QuC {W0:World}:Contract Tryz.prog W0 54 QcF:=Qa (C:=Qlk) (fn:=Tryz.f54) (Qc (C:=X0) rfl Qe) (Qb (P:=Tryz.prog) ⟨Qh2,QlX,QhT,QhA,Qyx,QpT,Qvd,trivial⟩) follows Tryz.func54 QuY Qtn (fun t ys h=>(QvK t).trans h)
theorem Qz2:Tryz.f70.body.isSome=true:=by kernel_rfl
theorem QAc:(Tryz.f70.name == "runtime.NumGoroutine")=false:=by kernel_rfl
theorem QBa {W0:World}:Contract Tryz.prog W0 70 Qe2:=Qa (C:=Qom) (fn:=Tryz.f70) (Qc (C:=X0) rfl Qe) (Qb (P:=Tryz.prog) trivial) follows Tryz.func70 Qz2 QAc (fun t ys h=>(QzK t).trans h)
theorem QvE:Tryz.f55.body.isSome=true:=by kernel_rfl
theorem Qu3:(Tryz.f55.name == "runtime.NumGoroutine")=false:=by kernel_rfl
theorem QuT {W0:World}:Contract Tryz.prog W0 55 Qcy:=Qa (C:=Qmh) (fn:=Tryz.f55) (Qc (C:=X0) rfl Qe) (Qb (P:=Tryz.prog) ⟨QBa,trivial⟩) follows Tryz.func55 QvE Qu3 (fun t ys h=>(Qvi t).trans h)
theorem QBC:Tryz.f162.body.isSome=true:=by kernel_rfl
theorem QBM:(Tryz.f162.name == "runtime.NumGoroutine")=false:=by kernel_rfl
theorem QB4 {W0:World}:Contract Tryz.prog W0 162 QfO:=Qa (C:=Qqd) (fn:=Tryz.f162) (Qc (C:=X0) rfl Qe) (Qb (P:=Tryz.prog) ⟨YQ,trivial⟩) follows Tryz.func162 QBC QBM (fun t ys h=>(QBI t).trans h)
theorem QwD:Tryz.f115.body.isSome=true:=by kernel_rfl
theorem QwA:(Tryz.f115.name == "runtime.NumGoroutine")=false:=by kernel_rfl
theorem QwG {W0:World}:Contract Tryz.prog W0 115 QdL:=Qa (C:=Qna) (fn:=Tryz.f115) (Qc (C:=X0) rfl Qe) (Qb (P:=Tryz.prog) ⟨Qh2,QB4,trivial⟩) follows Tryz.func115 QwD QwA (fun t ys h=>(Qx6 t).trans h)
theorem QzN:Tryz.f206.body.isSome=true:=by kernel_rfl
theorem Qzu:(Tryz.f206.name == "runtime.NumGoroutine")=false:=by kernel_rfl
theorem Qjn {W0:World}:Contract Tryz.prog W0 206 QaU:=Qa (C:=Qn4) (fn:=Tryz.f206) (Qc (C:=X0) rfl Qe) (Qb (P:=Tryz.prog) trivial) follows Tryz.func206 QzN Qzu (fun t ys h=>(QAN t).trans h)
theorem QsO:Tryz.f207.body.isSome=true:=by kernel_rfl
theorem Qs2:(Tryz.f207.name == "runtime.NumGoroutine")=false:=by kernel_rfl
theorem Qhq {W0:World}:Contract Tryz.prog W0 207 YV:=Qa (C:=QkN) (fn:=Tryz.f207) (Qc (C:=X0) rfl Qe) (Qb (P:=Tryz.prog) trivial) follows Tryz.func207 QsO Qs2 (fun t ys h=>(Qry t).trans h)
theorem QzQ:Tryz.f208.body.isSome=true:=by kernel_rfl
theorem QzZ:(Tryz.f208.name == "runtime.NumGoroutine")=false:=by kernel_rfl
theorem QAZ {W0:World}:Contract Tryz.prog W0 208 Qez:=Qa (C:=Qn2) (fn:=Tryz.f208) (Qc (C:=X0) rfl Qe) (Qb (P:=Tryz.prog) ⟨Qjn,Qhq,trivial⟩) follows Tryz.func208 QzQ QzZ (fun t ys h=>(QAV t).trans h)
theorem QtZ:Tryz.f209.body.isSome=true:=by kernel_rfl
theorem Que:(Tryz.f209.name == "runtime.NumGoroutine")=false:=by kernel_rfl
theorem Qu9 {W0:World}:Contract Tryz.prog W0 209 Qcd:=Qa (C:=QlU) (fn:=Tryz.f209) (Qc (C:=X0) rfl Qe) (Qb (P:=Tryz.prog) ⟨Qh6,Qjn,Qhq,trivial⟩) follows Tryz.func209 QtZ Que (fun t ys h=>(QtS t).trans h)
theorem Qut:Tryz.f163.body.isSome=true:=by kernel_rfl
theorem QvI:(Tryz.f163.name == "runtime.NumGoroutine")=false:=by kernel_rfl
theorem Quj {W0:World}:Contract Tryz.prog W0 163 Qca:=Qa (C:=Qmd) (fn:=Tryz.f163) (Qc (C:=X0) rfl Qe) (Qb (P:=Tryz.prog) ⟨QhT,Qnb,Qnd,Qjn,Qhq,QAZ,Qu9,trivial⟩) follows Tryz.func163 Qut QvI (fun t ys h=>(QvA t).trans h)
theorem QuS:Tryz.f116.body.isSome=true:=by kernel_rfl
theorem QtF:(Tryz.f116.name == "runtime.NumGoroutine")=false:=by kernel_rfl
theorem QuW {W0:World}:Contract Tryz.prog W0 116 Qcz:=Qa (C:=Ql7) (fn:=Tryz.f116) (Qc (C:=X0) rfl Qe) (Qb (P:=Tryz.prog) ⟨Quj,trivial⟩) follows Tryz.func116 QuS QtF (fun t ys h=>(Quh t).trans h)
theorem QBv:Tryz.f75.body.isSome=true:=by kernel_rfl
theorem QBH:(Tryz.f75.name == "runtime.NumGoroutine")=false:=by kernel_rfl
theorem QBA {W0:World}:Contract Tryz.prog W0 75 QfS:=Qa (C:=Qp7) (fn:=Tryz.f75) (Qc (C:=X0) rfl Qe) (Qb (P:=Tryz.prog) ⟨QwG,QuW,trivial⟩) follows Tryz.func75 QBv QBH (fun t ys h=>(QBD t).trans h)
theorem Qvg:Tryz.f76.body.isSome=true:=by kernel_rfl
theorem Qvs:(Tryz.f76.name == "runtime.NumGoroutine")=false:=by kernel_rfl
theorem QtT {W0:World}:Contract Tryz.prog W0 76 QcE:=Qa (C:=QlY) (fn:=Tryz.f76) (Qc (C:=X0) rfl Qe) (Qb (P:=Tryz.prog) ⟨QcB,trivial⟩) follows Tryz.func76 Qvg Qvs (fun t ys h=>(Qu1 t).trans h)
theorem QB2:Tryz.f160.body.isSome=true:=by kernel_rfl
theorem QBW:(Tryz.f160.name == "runtime.NumGoroutine")=false:=by kernel_rfl
theorem QkZ {W0:World}:Contract Tryz.prog W0 160 QbP:=Qa (C:=QpY) (fn:=Tryz.f160) (Qc (C:=X0) rfl Qe) (Qb (P:=Tryz.prog) trivial) follows Tryz.func160 QB2 QBW (fun t ys h=>(QBB t).trans h)
theorem Qr9:Tryz.f110.body.isSome=true:=by kernel_rfl
theorem Qs6:(Tryz.f110.name == "runtime.NumGoroutine")=false:=by kernel_rfl
theorem Qsd {W0:World}:Contract Tryz.prog W0 110 Qby:=Qa (C:=Qkx) (fn:=Tryz.f110) (Qc (C:=X0) rfl Qe) (Qb (P:=Tryz.prog) ⟨QcB,QkZ,trivial⟩) follows Tryz.func110 Qr9 Qs6 (fun t ys h=>(Qsu t).trans h)
theorem Qyb:Tryz.f161.body.isSome=true:=by kernel_rfl
theorem Qxc:(Tryz.f161.name == "runtime.NumGoroutine")=false:=by kernel_rfl
theorem QwN {W0:World}:Contract Tryz.prog W0 161 QdG:=Qa (C:=Qm3) (fn:=Tryz.f161) (Qc (C:=X0) rfl Qe) (Qb (P:=Tryz.prog) ⟨QkZ,trivial⟩) follows Tryz.func161 Qyb Qxc (fun t ys h=>(Qxo t).trans h)
theorem Qw7:Tryz.f111.body.isSome=true:=by kernel_rfl
theorem Qx7:(Tryz.f111.name == "runtime.NumGoroutine")=false:=by kernel_rfl
theorem QxD {W0:World}:Contract Tryz.prog W0 111 QdC:=Qa (C:=Qno) (fn:=Tryz.f111) (Qc (C:=X0) rfl Qe) (Qb (P:=Tryz.prog) ⟨QcB,QkZ,QwN,trivial⟩) follows Tryz.func111 Qw7 Qx7 (fun t ys h=>(Qxk t).trans h)
theorem QwT:Tryz.f61.body.isSome=true:=by kernel_rfl
theorem QxU:(Tryz.f61.name == "runtime.NumGoroutine")=false:=by kernel_rfl
theorem Qyv {W0:World}:Contract Tryz.prog W0 61 QdH:=Qa (C:=Qnn) (fn:=Tryz.f61) (Qc (C:=X0) rfl Qe) (Qb (P:=Tryz.prog) ⟨QuC,QuT,QBA,QtT,Qsd,QxD,trivial⟩) follows Tryz.func61 QwT QxU (fun t ys h=>(QwK t).trans h)
theorem Qx9:Tryz.f43.body.isSome=true:=by kernel_rfl
theorem Qw1:(Tryz.f43.name == "runtime.NumGoroutine")=false:=by kernel_rfl
theorem Qxq {W0:World}:Contract Tryz.prog W0 43 Qd0:=Qa (C:=QnF) (fn:=Tryz.f43) (Qc (C:=X0) rfl Qe) (Qb (P:=Tryz.prog) ⟨Qh2,Qt3,Qyv,trivial⟩) follows Tryz.func43 Qx9 Qw1 (fun t ys h=>(Qys t).trans h)
theorem QqA:Tryz.f44.body.isSome=true:=by kernel_rfl
theorem Qq5:(Tryz.f44.name == "runtime.NumGoroutine")=false:=by kernel_rfl
theorem Qru {W0:World}:Contract Tryz.prog W0 44 QaL:=Qa (C:=QjQ) (fn:=Tryz.f44) (Qc (C:=X0) rfl Qe) (Qb (P:=Tryz.prog) trivial) follows Tryz.func44 QqA Qq5 (fun t ys h=>(Qqo t).trans h)
theorem QwE:Tryz.f79.body.isSome=true:=by kernel_rfl
theorem Qyq:(Tryz.f79.name == "runtime.NumGoroutine")=false:=by kernel_rfl
theorem QxT {W0:World}:Contract Tryz.prog W0 79 Qdp:=Qa (C:=Qnx) (fn:=Tryz.f79) (Qc (C:=X0) rfl Qe) (Qb (P:=Tryz.prog) trivial) follows Tryz.func79 QwE Qyq (fun t ys h=>(QyI t).trans h)
theorem QtN:Tryz.f45.body.isSome=true:=by kernel_rfl
theorem Quz:(Tryz.f45.name == "runtime.NumGoroutine")=false:=by kernel_rfl
theorem QtR {W0:World}:Contract Tryz.prog W0 45 QcJ:=Qa (C:=Qlw) (fn:=Tryz.f45) (Qc (C:=X0) rfl Qe) (Qb (P:=Tryz.prog) ⟨QxT,trivial⟩) follows Tryz.func45 QtN Quz (fun t ys h=>(QtE t).trans h)
theorem Qsb:Tryz.f12.body.isSome=true:=by kernel_rfl
theorem Qs8:(Tryz.f12.name == "runtime.NumGoroutine")=false:=by kernel_rfl
theorem Qr1 {W0:World}:Contract Tryz.prog W0 12 Qbx:=Qa (C:=Qkm) (fn:=Tryz.f12) (Qc (C:=X0) rfl Qe) (Qb (P:=Tryz.prog) ⟨Qru,QtR,trivial⟩) follows Tryz.func12 Qsb Qs8 (fun t ys h=>(QsD t).trans h)
theorem Qz7:Tryz.f119.body.isSome=true:=by kernel_rfl
theorem Qzh:(Tryz.f119.name == "runtime.NumGoroutine")=false:=by kernel_rfl
theorem QoN {W0:World}:Contract Tryz.prog W0 119 Qcx:=Qa (C:=Qow) (fn:=Tryz.f119) (Qc (C:=X0) rfl Qe) (Qb (P:=Tryz.prog) trivial) follows Tryz.func119 Qz7 Qzh (fun t ys h=>(Qzl t).trans h)
theorem QrM:Tryz.f14.body.isSome=true:=by kernel_rfl
theorem QsX:(Tryz.f14.name == "runtime.NumGoroutine")=false:=by kernel_rfl
theorem QkM {W0:World}:Contract Tryz.prog W0 14 J7:=Qa (C:=Qki) (fn:=Tryz.f14) (Qc (C:=X0) rfl Qe) (Qb (P:=Tryz.prog) trivial) follows Tryz.func14 QrM QsX (fun t ys h=>(Qsp t).trans h)
theorem Qyc:Tryz.f165.body.isSome=true:=by kernel_rfl
theorem QwB:(Tryz.f165.name == "runtime.NumGoroutine")=false:=by kernel_rfl
theorem Qyw {W0:World}:Contract Tryz.prog W0 165 Qdw:=Qa (C:=Qnq) (fn:=Tryz.f165) (Qc (C:=X0) rfl Qe) (Qb (P:=Tryz.prog) ⟨QkM,trivial⟩) follows Tryz.func165 Qyc QwB (fun t ys h=>(Qya t).trans h)
theorem Qzp:Tryz.f120.body.isSome=true:=by kernel_rfl
theorem QA7:(Tryz.f120.name == "runtime.NumGoroutine")=false:=by kernel_rfl
theorem Qza {W0:World}:Contract Tryz.prog W0 120 QeK:=Qa (C:=Qn9) (fn:=Tryz.f120) (Qc (C:=X0) rfl Qe) (Qb (P:=Tryz.prog) ⟨Qyw,trivial⟩) follows Tryz.func120 Qzp QA7 (fun t ys h=>(QBl t).trans h)
theorem QxI:Tryz.f80.body.isSome=true:=by kernel_rfl
theorem Qyf:(Tryz.f80.name == "runtime.NumGoroutine")=false:=by kernel_rfl
theorem Qwv {W0:World}:Contract Tryz.prog W0 80 QdS:=Qa (C:=Qm4) (fn:=Tryz.f80) (Qc (C:=X0) rfl Qe) (Qb (P:=Tryz.prog) ⟨QoN,Qza,trivial⟩) follows Tryz.func80 QxI Qyf (fun t ys h=>(Qwy t).trans h)
theorem QvF:Tryz.f46.body.isSome=true:=by kernel_rfl
theorem Qvz:(Tryz.f46.name == "runtime.NumGoroutine")=false:=by kernel_rfl
theorem Qtm {W0:World}:Contract Tryz.prog W0 46 Qce:=Qa (C:=QlA) (fn:=Tryz.f46) (Qc (C:=X0) rfl Qe) (Qb (P:=Tryz.prog) ⟨Qwv,trivial⟩) follows Tryz.func46 QvF Qvz (fun t ys h=>(Qtv t).trans h)
theorem Qsw:Tryz.f81.body.isSome=true:=by kernel_rfl
theorem QrJ:(Tryz.f81.name == "runtime.NumGoroutine")=false:=by kernel_rfl
theorem Qth {W0:World}:Contract Tryz.prog W0 81 Qbv:=Qa (C:=QkE) (fn:=Tryz.f81) (Qc (C:=X0) rfl Qe) (Qb (P:=Tryz.prog) ⟨QoN,trivial⟩) follows Tryz.func81 Qsw QrJ (fun t ys h=>(QsC t).trans h)
theorem QqC:Tryz.f47.body.isSome=true:=by kernel_rfl
theorem Qrm:(Tryz.f47.name == "runtime.NumGoroutine")=false:=by kernel_rfl
theorem Qq6 {W0:World}:Contract Tryz.prog W0 47 QaC:=Qa (C:=QjD) (fn:=Tryz.f47) (Qc (C:=X0) rfl Qe) (Qb (P:=Tryz.prog) ⟨Qth,trivial⟩) follows Tryz.func47 QqC Qrm (fun t ys h=>(QqZ t).trans h)
theorem QvD:Tryz.f13.body.isSome=true:=by kernel_rfl
theorem QuH:(Tryz.f13.name == "runtime.NumGoroutine")=false:=by kernel_rfl
theorem Qt9 {W0:World}:Contract Tryz.prog W0 13 Qct:=Qa (C:=Ql6) (fn:=Tryz.f13) (Qc (C:=X0) rfl Qe) (Qb (P:=Tryz.prog) ⟨Qtm,Qq6,trivial⟩) follows Tryz.func13 QvD QuH (fun t ys h=>(QvW t).trans h)
theorem QxW:Tryz.f123.body.isSome=true:=by kernel_rfl
theorem Qxp:(Tryz.f123.name == "runtime.NumGoroutine")=false:=by kernel_rfl
theorem ZA {W0:World}:Contract Tryz.prog W0 123 Q4:=Qa (C:=Qm5) (fn:=Tryz.f123) (Qc (C:=X0) rfl Qe) (Qb (P:=Tryz.prog) trivial) follows Tryz.func123 QxW Qxp (fun t ys h=>(Qym t).trans h)
theorem Qzr:Tryz.f114.body.isSome=true:=by kernel_rfl
theorem Qy6:(Tryz.f114.name == "runtime.NumGoroutine")=false:=by kernel_rfl
theorem Qg5 {W0:World}:Contract Tryz.prog W0 114 JJ:=Qa (C:=Qoy) (fn:=Tryz.f114) (Qc (C:=X0) rfl Qe) (Qb (P:=Tryz.prog) ⟨ZA,trivial⟩) follows Tryz.func114 Qzr Qy6 (fun t ys h=>(QAO t).trans h)
theorem Qww:Tryz.f121.body.isSome=true:=by kernel_rfl
theorem Qx3:(Tryz.f121.name == "runtime.NumGoroutine")=false:=by kernel_rfl
theorem QyE {W0:World}:Contract Tryz.prog W0 121 Qdy:=Qa (C:=Qnl) (fn:=Tryz.f121) (Qc (C:=X0) rfl Qe) (Qb (P:=Tryz.prog) ⟨ZA,trivial⟩) follows Tryz.func121 Qww Qx3 (fun t ys h=>(Qxh t).trans h)
theorem QhH:Tryz.f155.body.isSome=true:=by kernel_rfl
theorem QhI:(Tryz.f155.name == "runtime.NumGoroutine")=false:=by kernel_rfl
theorem Jf {W0:World}:Contract Tryz.prog W0 155 QY:=Qa (C:=QbX) (fn:=Tryz.f155) (Qc (C:=X0) rfl Qe) (Qb (P:=Tryz.prog) trivial) follows Tryz.func155 QhH QhI (fun t ys h=>(QhJ t).trans h)
theorem Qgz:Tryz.f122.body.isSome=true:=by kernel_rfl
theorem QgB:(Tryz.f122.name == "runtime.NumGoroutine")=false:=by kernel_rfl
theorem Qgv {W0:World}:Contract Tryz.prog W0 122 Zq:=Qa (C:=QaE) (fn:=Tryz.f122) (Qc (C:=X0) rfl Qe) (Qb (P:=Tryz.prog) ⟨Jf,trivial⟩) follows Tryz.func122 Qgz QgB (fun t ys h=>(QgD t).trans h)
theorem Qfn:Tryz.f166.body.isSome=true:=by kernel_rfl
theorem Qfc:(Tryz.f166.name == "runtime.NumGoroutine")=false:=by kernel_rfl
theorem QfF {W0:World}:Contract Tryz.prog W0 166 Zb:=Qa (C:=JX) (fn:=Tryz.f166) (Qc (C:=X0) rfl Qe) (Qb (P:=Tryz.prog) trivial) follows Tryz.func166 Qfn Qfc (fun t ys h=>(Qe8 t).trans h)
theorem Qeb:Tryz.f124.body.isSome=true:=by kernel_rfl
theorem Qd8:(Tryz.f124.name == "runtime.NumGoroutine")=false:=by kernel_rfl
theorem Jl {W0:World}:Contract Tryz.prog W0 124 QJ:=Qa (C:=Jm) (fn:=Tryz.f124) (Qc (C:=X0) rfl Qe) (Qb (P:=Tryz.prog) ⟨QfF,trivial⟩) follows Tryz.func124 Qeb Qd8 (fun t ys h=>(Qee t).trans h)
theorem QoQ:Tryz.f82.body.isSome=true:=by kernel_rfl
theorem Qn5:(Tryz.f82.name == "runtime.NumGoroutine")=false:=by kernel_rfl
theorem QnS {W0:World}:Contract Tryz.prog W0 82 JS:=Qa (C:=QiG) (fn:=Tryz.f82) (Qc (C:=X0) rfl Qe) (Qb (P:=Tryz.prog) ⟨Qg5,QyE,Qgv,ZA,Jl,trivial⟩) follows Tryz.func82 QoQ Qn5 (fun t ys h=>(Qog t).trans h)
theorem Qr0:Tryz.f159.body.isSome=true:=by kernel_rfl
theorem QrW:(Tryz.f159.name == "runtime.NumGoroutine")=false:=by kernel_rfl
theorem Qhd {W0:World}:Contract Tryz.prog W0 159 Y9:=Qa (C:=QkJ) (fn:=Tryz.f159) (Qc (C:=X0) rfl Qe) (Qb (P:=Tryz.prog) ⟨ZA,trivial⟩) follows Tryz.func159 Qr0 QrW (fun t ys h=>(Qsc t).trans h)
theorem QBF:Tryz.f180.body.isSome=true:=by kernel_rfl
theorem QBN:(Tryz.f180.name == "runtime.NumGoroutine")=false:=by kernel_rfl
theorem Qqg {W0:World}:Contract Tryz.prog W0 180 Qd4:=Qa (C:=Qp5) (fn:=Tryz.f180) (Qc (C:=X0) rfl Qe) (Qb (P:=Tryz.prog) ⟨ZA,trivial⟩) follows Tryz.func180 QBF QBN (fun t ys h=>(QBJ t).trans h)
theorem Qzb:Tryz.f167.body.isSome=true:=by kernel_rfl
theorem QAD:(Tryz.f167.name == "runtime.NumGoroutine")=false:=by kernel_rfl
theorem QjP {W0:World}:Contract Tryz.prog W0 167 QaA:=Qa (C:=QnR) (fn:=Tryz.f167) (Qc (C:=X0) rfl Qe) (Qb (P:=Tryz.prog) ⟨ZA,Qqg,trivial⟩) follows Tryz.func167 Qzb QAD (fun t ys h=>(QAv t).trans h)
theorem QgW:Tryz.f257.body.isSome=true:=by kernel_rfl
theorem QgX:(Tryz.f257.name == "runtime.NumGoroutine")=false:=by kernel_rfl
theorem QgZ {W0:World}:Contract Tryz.prog W0 257 Zs:=Qa (C:=Qa2) (fn:=Tryz.f257) (Qc (C:=X0) rfl Qe) (Qb (P:=Tryz.prog) trivial) follows Tryz.func257 QgW QgX (fun t ys h=>(QgY t).trans h)
theorem QfN:Tryz.f231.body.isSome=true:=by kernel_rfl
theorem QfK:(Tryz.f231.name == "runtime.NumGoroutine")=false:=by kernel_rfl
theorem QfM {W0:World}:Contract Tryz.prog W0 231 Zf:=Qa (C:=Qak) (fn:=Tryz.f231) (Qc (C:=X0) rfl Qe) (Qb (P:=Tryz.prog) ⟨QgZ,trivial⟩) follows Tryz.func231 QfN QfK (fun t ys h=>(QfL t).trans h)
theorem QpD:Tryz.f232.body.isSome=true:=by kernel_rfl
theorem QpC:(Tryz.f232.name == "runtime.NumGoroutine")=false:=by kernel_rfl
theorem Qpp {W0:World}:Contract Tryz.prog W0 232 Qam:=Qa (C:=QiT) (fn:=Tryz.f232) (Qc (C:=X0) rfl Qe) (Qb (P:=Tryz.prog) ⟨Qg5,trivial⟩) follows Tryz.func232 QpD QpC (fun t ys h=>(Qpu t).trans h)
theorem Qt2:Tryz.f211.body.isSome=true:=by kernel_rfl
theorem Qvc:(Tryz.f211.name == "runtime.NumGoroutine")=false:=by kernel_rfl
theorem QvJ {W0:World}:Contract Tryz.prog W0 211 Qcj:=Qa (C:=Qll) (fn:=Tryz.f211) (Qc (C:=X0) rfl Qe) (Qb (P:=Tryz.prog) ⟨QfM,Qpp,trivial⟩) follows Tryz.func211 Qt2 Qvc (fun t ys h=>(QtX t).trans h)
theorem Qs3:Tryz.f212.body.isSome=true:=by kernel_rfl
theorem QsE:(Tryz.f212.name == "runtime.NumGoroutine")=false:=by kernel_rfl
theorem QrG {W0:World}:Contract Tryz.prog W0 212 QbF:=Qa (C:=Qkw) (fn:=Tryz.f212) (Qc (C:=X0) rfl Qe) (Qb (P:=Tryz.prog) trivial) follows Tryz.func212 Qs3 QsE (fun t ys h=>(Qtb t).trans h)
theorem Qrn:Tryz.f168.body.isSome=true:=by kernel_rfl
theorem Qrf:(Tryz.f168.name == "runtime.NumGoroutine")=false:=by kernel_rfl
theorem Qgy {W0:World}:Contract Tryz.prog W0 168 YE:=Qa (C:=Qjz) (fn:=Tryz.f168) (Qc (C:=X0) rfl Qe) (Qb (P:=Tryz.prog) ⟨ZA,Qhd,QvJ,QrG,trivial⟩) follows Tryz.func168 Qrn Qrf (fun t ys h=>(QqJ t).trans h)
theorem Qpt:Tryz.f223.body.isSome=true:=by kernel_rfl
theorem Qpw:(Tryz.f223.name == "runtime.NumGoroutine")=false:=by kernel_rfl
theorem QpM {W0:World}:Contract Tryz.prog W0 223 Qai:=Qa (C:=QiU) (fn:=Tryz.f223) (Qc (C:=X0) rfl Qe) (Qb (P:=Tryz.prog) trivial) follows Tryz.func223 Qpt Qpw (fun t ys h=>(QpJ t).trans h)
theorem QnN:Tryz.f189.body.isSome=true:=by kernel_rfl
theorem QnP:(Tryz.f189.name == "runtime.NumGoroutine")=false:=by kernel_rfl
theorem QhK {W0:World}:Contract Tryz.prog W0 189 Yt:=Qa (C:=QhN) (fn:=Tryz.f189) (Qc (C:=X0) rfl Qe) (Qb (P:=Tryz.prog) ⟨QpM,trivial⟩) follows Tryz.func189 QnN QnP (fun t ys h=>(QnH t).trans h)
theorem QAd:Tryz.f213.body.isSome=true:=by kernel_rfl
theorem Qzi:(Tryz.f213.name == "runtime.NumGoroutine")=false:=by kernel_rfl
theorem QAa {W0:World}:Contract Tryz.prog W0 213 Qe0:=Qa (C:=Qor) (fn:=Tryz.f213) (Qc (C:=X0) rfl Qe) (Qb (P:=Tryz.prog) trivial) follows Tryz.func213 QAd Qzi (fun t ys h=>(QAq t).trans h)
theorem Qn7:Tryz.f169.body.isSome=true:=by kernel_rfl
theorem QnV:(Tryz.f169.name == "runtime.NumGoroutine")=false:=by kernel_rfl
theorem QeT {W0:World}:Contract Tryz.prog W0 169 Z8:=Qa (C:=Qio) (fn:=Tryz.f169) (Qc (C:=X0) rfl Qe) (Qb (P:=Tryz.prog) ⟨QhK,QAa,trivial⟩) follows Tryz.func169 Qn7 QnV (fun t ys h=>(Qoo t).trans h)
theorem QpH:Tryz.f125.body.isSome=true:=by kernel_rfl
theorem Qpz:(Tryz.f125.name == "runtime.NumGoroutine")=false:=by kernel_rfl
theorem Qpx {W0:World}:Contract Tryz.prog W0 125 Qaf:=Qa (C:=QiV) (fn:=Tryz.f125) (Qc (C:=X0) rfl Qe) (Qb (P:=Tryz.prog) ⟨ZA,Qhd,QjP,Qgy,QeT,trivial⟩) follows Tryz.func125 QpH Qpz (fun t ys h=>(Qps t).trans h)
theorem Qb0:Tryz.f214.body.isSome=true:=by kernel_rfl
theorem QbZ:(Tryz.f214.name == "runtime.NumGoroutine")=false:=by kernel_rfl
theorem YC {W0:World}:Contract Tryz.prog W0 214 QA:=Qa (C:=YD) (fn:=Tryz.f214) (Qc (C:=X0) rfl Qe) (Qb (P:=Tryz.prog) trivial) follows Tryz.func214 Qb0 QbZ (fun t ys h=>(QbY t).trans h)
theorem Qa6:Tryz.f170.body.isSome=true:=by kernel_rfl
theorem Qa5:(Tryz.f170.name == "runtime.NumGoroutine")=false:=by kernel_rfl
theorem Ym {W0:World}:Contract Tryz.prog W0 170 Qw:=Qa (C:=Yk) (fn:=Tryz.f170) (Qc (C:=X0) rfl Qe) (Qb (P:=Tryz.prog) ⟨YC,trivial⟩) follows Tryz.func170 Qa6 Qa5 (fun t ys h=>(Qa3 t).trans h)
theorem QkX:Tryz.f171.body.isSome=true:=by kernel_rfl
theorem Qk0:(Tryz.f171.name == "runtime.NumGoroutine")=false:=by kernel_rfl
theorem Qk5 {W0:World}:Contract Tryz.prog W0 171 Yy:=Qa (C:=QfQ) (fn:=Tryz.f171) (Qc (C:=X0) rfl Qe) (Qb (P:=Tryz.prog) trivial) follows Tryz.func171 QkX Qk0 (fun t ys h=>(Qk6 t).trans h)
theorem QnM:Tryz.f126.body.isSome=true:=by kernel_rfl
theorem QnG:(Tryz.f126.name == "runtime.NumGoroutine")=false:=by kernel_rfl
theorem QnQ {W0:World}:Contract Tryz.prog W0 126 Jh:=Qa (C:=QhL) (fn:=Tryz.f126) (Qc (C:=X0) rfl Qe) (Qb (P:=Tryz.prog) ⟨Qg5,QjP,Ym,Qk5,trivial⟩) follows Tryz.func126 QnM QnG (fun t ys h=>(QnO t).trans h)
theorem QpN:Tryz.f83.body.isSome=true:=by kernel_rfl
theorem QpL:(Tryz.f83.name == "runtime.NumGoroutine")=false:=by kernel_rfl
theorem QpG {W0:World}:Contract Tryz.prog W0 83 Qah:=Qa (C:=QiS) (fn:=Tryz.f83) (Qc (C:=X0) rfl Qe) (Qb (P:=Tryz.prog) ⟨ZA,Qpx,QnQ,trivial⟩) follows Tryz.func83 QpN QpL (fun t ys h=>(Qpy t).trans h)
theorem Qq3:Tryz.f48.body.isSome=true:=by kernel_rfl
theorem QqI:(Tryz.f48.name == "runtime.NumGoroutine")=false:=by kernel_rfl
theorem Qqu {W0:World}:Contract Tryz.prog W0 48 QaW:=Qa (C:=QjJ) (fn:=Tryz.f48) (Qc (C:=X0) rfl Qe) (Qb (P:=Tryz.prog) ⟨QnS,QpG,trivial⟩) follows Tryz.func48 Qq3 QqI (fun t ys h=>(Qrl t).trans h)
theorem QnZ:Tryz.f172.body.isSome=true:=by kernel_rfl
theorem Qn6:(Tryz.f172.name == "runtime.NumGoroutine")=false:=by kernel_rfl
theorem Qn0 {W0:World}:Contract Tryz.prog W0 172 JG:=Qa (C:=Qif) (fn:=Tryz.f172) (Qc (C:=X0) rfl Qe) (Qb (P:=Tryz.prog) ⟨ZA,trivial⟩) follows Tryz.func172 QnZ Qn6 (fun t ys h=>(Qol t).trans h)
theorem Qmx:Tryz.f127.body.isSome=true:=by kernel_rfl
theorem Qmo:(Tryz.f127.name == "runtime.NumGoroutine")=false:=by kernel_rfl
theorem QmR {W0:World}:Contract Tryz.prog W0 127 YX:=Qa (C:=Qht) (fn:=Tryz.f127) (Qc (C:=X0) rfl Qe) (Qb (P:=Tryz.prog) ⟨Qn0,trivial⟩) follows Tryz.func127 Qmx Qmo (fun t ys h=>(QmW t).trans h)
theorem QqH:Tryz.f151.body.isSome=true:=by kernel_rfl
theorem Qq8:(Tryz.f151.name == "runtime.NumGoroutine")=false:=by kernel_rfl
theorem Qjx {W0:World}:Contract Tryz.prog W0 151 Js:=Qa (C:=QjB) (fn:=Tryz.f151) (Qc (C:=X0) rfl Qe) (Qb (P:=Tryz.prog) trivial) follows Tryz.func151 QqH Qq8 (fun t ys h=>(Qql t).trans h)
theorem QnJ:Tryz.f196.body.isSome=true:=by kernel_rfl
theorem QnL:(Tryz.f196.name == "runtime.NumGoroutine")=false:=by kernel_rfl
theorem QnI {W0:World} (hT:Lib.TabIs Tryz.prog W0 "internal/strconv.uint64pow10" .u64 Lib.pow10Tab):Contract Tryz.prog W0 196 QhM:=QFb ⟨Tryz.f196,Tryz.func196,QnJ,QnL⟩ hT
theorem QDe:Tryz.f152.body.isSome=true:=by kernel_rfl
theorem QDw:(Tryz.f152.name == "runtime.NumGoroutine")=false:=by kernel_rfl
theorem Qmi {W0:World} (hT:Lib.TabIs Tryz.prog W0 "internal/strconv.uint64pow10" .u64 Lib.pow10Tab):Contract Tryz.prog W0 152 Qdb:=Qa (C:=QsB) (fn:=Tryz.f152) (Qc (C:=X0) rfl Qe) (Qb (P:=Tryz.prog) ⟨QnI hT,trivial⟩) follows Tryz.func152 QDe QDw (fun t ys h=>(QDh t).trans h)
theorem Qvj:Tryz.f153.body.isSome=true:=by kernel_rfl
theorem QvX:(Tryz.f153.name == "runtime.NumGoroutine")=false:=by kernel_rfl
theorem QlV {W0:World}:Contract Tryz.prog W0 153 QhY:=QEn ⟨Tryz.f153,Tryz.func153,Qvj,QvX⟩
theorem QwY:Tryz.f200.body.isSome=true:=by kernel_rfl
theorem Qxz:(Tryz.f200.name == "runtime.NumGoroutine")=false:=by kernel_rfl
theorem Qxn {W0:World} (hT:Lib.TabIs Tryz.prog W0 "internal/strconv.uint64pow10" .u64 Lib.pow10Tab):Contract Tryz.prog W0 200 QdA:=Qa (C:=Qnr) (fn:=Tryz.f200) (Qc (C:=X0) rfl Qe) (Qb (P:=Tryz.prog) ⟨Qmi hT,QlV,trivial⟩) follows Tryz.func200 QwY Qxz (fun t ys h=>(Qyi t).trans h)
theorem Qtl:Tryz.f154.body.isSome=true:=by kernel_rfl
theorem Qs1:(Tryz.f154.name == "runtime.NumGoroutine")=false:=by kernel_rfl
theorem QkD {W0:World} (hT:Lib.TabIs Tryz.prog W0 "internal/strconv.uint64pow10" .u64 Lib.pow10Tab):Contract Tryz.prog W0 154 J6:=Qa (C:=Qkz) (fn:=Tryz.f154) (Qc (C:=X0) rfl Qe) (Qb (P:=Tryz.prog) ⟨Qmi hT,Qxn hT,trivial⟩) follows Tryz.func154 Qtl Qs1 (fun t ys h=>(QrC t).trans h)
theorem QxS:Tryz.f99.body.isSome=true:=by kernel_rfl
theorem QwC:(Tryz.f99.name == "runtime.NumGoroutine")=false:=by kernel_rfl
theorem Qnz {W0:World} (hT:Lib.TabIs Tryz.prog W0 "internal/strconv.uint64pow10" .u64 Lib.pow10Tab):Contract Tryz.prog W0 99 Qa8:=Qa (C:=Qnf) (fn:=Tryz.f99) (Qc (C:=X0) rfl Qe) (Qb (P:=Tryz.prog) ⟨Qjx,Qmi hT,QlV,QkD hT,trivial⟩) follows Tryz.func99 QxS QwC (fun t ys h=>(QyB t).trans h)
theorem Qtg:Tryz.f173.body.isSome=true:=by kernel_rfl
theorem QrQ:(Tryz.f173.name == "runtime.NumGoroutine")=false:=by kernel_rfl
theorem Qhj {W0:World} (hM:∃m,W0.cell? ⟨0,0,none⟩=some (.int .i64 m)):Contract Tryz.prog W0 173 Qen:=QCS ⟨Tryz.f173,Tryz.func173,Qtg,QrQ⟩ hM
theorem QyF:Tryz.f174.body.isSome=true:=by kernel_rfl
theorem Qyo:(Tryz.f174.name == "runtime.NumGoroutine")=false:=by kernel_rfl
theorem Qga {W0:World} (hT:Lib.TabIs Tryz.prog W0 "internal/strconv.uint64pow10" .u64 Lib.pow10Tab) (hS:JV Tryz.prog W0):Contract Tryz.prog W0 174 Qdz:=QFp ⟨Tryz.f174,Tryz.func174,QyF,Qyo⟩ hT hS
theorem QxL:Tryz.f175.body.isSome=true:=by kernel_rfl
theorem QyJ:(Tryz.f175.name == "runtime.NumGoroutine")=false:=by kernel_rfl
theorem Qm8 {W0:World} (hM:∃m,W0.cell? ⟨0,0,none⟩=some (.int .i64 m)):Contract Tryz.prog W0 175 QiM:=QEI ⟨Tryz.f175,Tryz.func175,QxL,QyJ⟩ hM
theorem QuJ:Tryz.f239.body.isSome=true:=by kernel_rfl
theorem QuB:(Tryz.f239.name == "runtime.NumGoroutine")=false:=by kernel_rfl
theorem Qup {W0:World} (hT:Lib.TabIs Tryz.prog W0 "internal/strconv.uint64pow10" .u64 Lib.pow10Tab) (hM:∃m,W0.cell? ⟨0,0,none⟩=some (.int .i64 m)) (hS:JV Tryz.prog W0):Contract Tryz.prog W0 239 Qcq:=Qa (C:=Ql5) (fn:=Tryz.f239) (Qc (C:=X0) rfl Qe) (Qb (P:=Tryz.prog) ⟨Qhj hM,Qga hT hS,trivial⟩) follows Tryz.func239 QuJ QuB (fun t ys h=>(Qvx t).trans h)
theorem Qsz:Tryz.f218.body.isSome=true:=by kernel_rfl
theorem QsZ:(Tryz.f218.name == "runtime.NumGoroutine")=false:=by kernel_rfl
theorem QrP {W0:World} (hT:Lib.TabIs Tryz.prog W0 "internal/strconv.uint64pow10" .u64 Lib.pow10Tab) (hM:∃m,W0.cell? ⟨0,0,none⟩=some (.int .i64 m)) (hS:JV Tryz.prog W0):Contract Tryz.prog W0 218 Qbq:=Qa (C:=QkB) (fn:=Tryz.f218) (Qc (C:=X0) rfl Qe) (Qb (P:=Tryz.prog) ⟨QkD hT,Qgy,Qhj hM,Qga hT hS,Qup hT hM hS,trivial⟩) follows Tryz.func218 Qsz QsZ (fun t ys h=>(QrE t).trans h)
theorem Qvf:Tryz.f176.body.isSome=true:=by kernel_rfl
theorem QvO:(Tryz.f176.name == "runtime.NumGoroutine")=false:=by kernel_rfl
theorem QuX {W0:World} (hT:Lib.TabIs Tryz.prog W0 "internal/strconv.uint64pow10" .u64 Lib.pow10Tab) (hM:∃m,W0.cell? ⟨0,0,none⟩=some (.int .i64 m)) (hS:JV Tryz.prog W0):Contract Tryz.prog W0 176 Qb7:=Qa (C:=QlS) (fn:=Tryz.f176) (Qc (C:=X0) rfl Qe) (Qb (P:=Tryz.prog) ⟨Qga hT hS,Qm8 hM,QrP hT hM hS,trivial⟩) follows Tryz.func176 Qvf QvO (fun t ys h=>(QuN t).trans h)
theorem QfY:Tryz.f179.body.isSome=true:=by kernel_rfl
theorem QfU:(Tryz.f179.name == "runtime.NumGoroutine")=false:=by kernel_rfl
theorem QfW {W0:World}:Contract Tryz.prog W0 179 Zk:=Qa (C:=Qas) (fn:=Tryz.f179) (Qc (C:=X0) rfl Qe) (Qb (P:=Tryz.prog) trivial) follows Tryz.func179 QfY QfU (fun t ys h=>(Qf4 t).trans h)
theorem QeX:Tryz.f133.body.isSome=true:=by kernel_rfl
theorem QeO:(Tryz.f133.name == "runtime.NumGoroutine")=false:=by kernel_rfl
theorem Zv {W0:World}:Contract Tryz.prog W0 133 Qv:=Qa (C:=JP) (fn:=Tryz.f133) (Qc (C:=X0) rfl Qe) (Qb (P:=Tryz.prog) ⟨QfW,trivial⟩) follows Tryz.func133 QeX QeO (fun t ys h=>(QeH t).trans h)
theorem QpF:Tryz.f219.body.isSome=true:=by kernel_rfl
theorem Qpq:(Tryz.f219.name == "runtime.NumGoroutine")=false:=by kernel_rfl
theorem QpK {W0:World}:Contract Tryz.prog W0 219 Qaj:=Qa (C:=QiQ) (fn:=Tryz.f219) (Qc (C:=X0) rfl Qe) (Qb (P:=Tryz.prog) trivial) follows Tryz.func219 QpF Qpq (fun t ys h=>(QpA t).trans h)
theorem QrK:Tryz.f220.body.isSome=true:=by kernel_rfl
theorem QrD:(Tryz.f220.name == "runtime.NumGoroutine")=false:=by kernel_rfl
theorem Qsx {W0:World}:Contract Tryz.prog W0 220 QbE:=Qa (C:=QkH) (fn:=Tryz.f220) (Qc (C:=X0) rfl Qe) (Qb (P:=Tryz.prog) ⟨ZA,Qgy,trivial⟩) follows Tryz.func220 QrK QrD (fun t ys h=>(Qsn t).trans h)
theorem Qvu:Tryz.f177.body.isSome=true:=by kernel_rfl
theorem Qts:(Tryz.f177.name == "runtime.NumGoroutine")=false:=by kernel_rfl
theorem Quq {W0:World}:Contract Tryz.prog W0 177 Qco:=Qa (C:=Qlt) (fn:=Tryz.f177) (Qc (C:=X0) rfl Qe) (Qb (P:=Tryz.prog) ⟨Qg5,ZA,Zv,QjP,QpK,Qsx,trivial⟩) follows Tryz.func177 Qvu Qts (fun t ys h=>(QtC t).trans h)
theorem Qxd:Tryz.f128.body.isSome=true:=by kernel_rfl
theorem Qxl:(Tryz.f128.name == "runtime.NumGoroutine")=false:=by kernel_rfl
theorem Qxu {W0:World} (hT:Lib.TabIs Tryz.prog W0 "internal/strconv.uint64pow10" .u64 Lib.pow10Tab) (hM:∃m,W0.cell? ⟨0,0,none⟩=some (.int .i64 m)) (hS:JV Tryz.prog W0):Contract Tryz.prog W0 128 QdV:=Qa (C:=Qm2) (fn:=Tryz.f128) (Qc (C:=X0) rfl Qe) (Qb (P:=Tryz.prog) ⟨Qnz hT,Qjx,Jf,Qhj hM,Qga hT hS,Qm8 hM,QuX hT hM hS,Quq,trivial⟩) follows Tryz.func128 Qxd Qxl (fun t ys h=>(Qyd t).trans h)
theorem Qo7:Tryz.f84.body.isSome=true:=by kernel_rfl
theorem QoP:(Tryz.f84.name == "runtime.NumGoroutine")=false:=by kernel_rfl
theorem Qiq {W0:World} (hT:Lib.TabIs Tryz.prog W0 "internal/strconv.uint64pow10" .u64 Lib.pow10Tab) (hM:∃m,W0.cell? ⟨0,0,none⟩=some (.int .i64 m)) (hS:JV Tryz.prog W0):Contract Tryz.prog W0 84 YO:=Qa (C:=QiC) (fn:=Tryz.f84) (Qc (C:=X0) rfl Qe) (Qb (P:=Tryz.prog) ⟨QmR,Qxu hT hM hS,trivial⟩) follows Tryz.func84 Qo7 QoP (fun t ys h=>(Qon t).trans h)
theorem QmG:Tryz.f56.body.isSome=true:=by kernel_rfl
theorem QmQ:(Tryz.f56.name == "runtime.NumGoroutine")=false:=by kernel_rfl
theorem Qm0 {W0:World} (hT:Lib.TabIs Tryz.prog W0 "internal/strconv.uint64pow10" .u64 Lib.pow10Tab) (hM:∃m,W0.cell? ⟨0,0,none⟩=some (.int .i64 m)) (hS:JV Tryz.prog W0):Contract Tryz.prog W0 56 YU:=Qa (C:=Qhi) (fn:=Tryz.f56) (Qc (C:=X0) rfl Qe) (Qb (P:=Tryz.prog) ⟨Qiq hT hM hS,trivial⟩) follows Tryz.func56 QmG QmQ (fun t ys h=>(Qmw t).trans h)
theorem Qou:Tryz.f100.body.isSome=true:=by kernel_rfl
theorem Qoi:(Tryz.f100.name == "runtime.NumGoroutine")=false:=by kernel_rfl
theorem QoV {W0:World}:Contract Tryz.prog W0 100 JN:=Qa (C:=Qix) (fn:=Tryz.f100) (Qc (C:=X0) rfl Qe) (Qb (P:=Tryz.prog) ⟨Jf,trivial⟩) follows Tryz.func100 Qou Qoi (fun t ys h=>(Qo2 t).trans h)
theorem JB:Tryz.f201.body.isSome=true:=by kernel_rfl
theorem JD:(Tryz.f201.name == "runtime.NumGoroutine")=false:=by kernel_rfl
theorem JA {W0:World}:Contract Tryz.prog W0 201 Qs:=Qa (C:=ZH) (fn:=Tryz.f201) (Qc (C:=X0) rfl Qe) (Qb (P:=Tryz.prog) trivial) follows Tryz.func201 JB JD (fun t ys h=>(JE t).trans h)
theorem Qn1:Tryz.f202.body.isSome=true:=by kernel_rfl
theorem QoS:(Tryz.f202.name == "runtime.NumGoroutine")=false:=by kernel_rfl
theorem QoE {W0:World}:Contract Tryz.prog W0 202 JQ:=Qa (C:=QiH) (fn:=Tryz.f202) (Qc (C:=X0) rfl Qe) (Qb (P:=Tryz.prog) ⟨QeT,trivial⟩) follows Tryz.func202 Qn1 QoS (fun t ys h=>(Qo6 t).trans h)
theorem QrB:Tryz.f156.body.isSome=true:=by kernel_rfl
theorem QrH:(Tryz.f156.name == "runtime.NumGoroutine")=false:=by kernel_rfl
theorem Qtd {W0:World}:Contract Tryz.prog W0 156 QbG:=Qa (C:=Qko) (fn:=Tryz.f156) (Qc (C:=X0) rfl Qe) (Qb (P:=Tryz.prog) ⟨JA,QoE,trivial⟩) follows Tryz.func156 QrB QrH (fun t ys h=>(Qse t).trans h)
theorem Qd7:Tryz.f203.body.isSome=true:=by kernel_rfl
theorem Qec:(Tryz.f203.name == "runtime.NumGoroutine")=false:=by kernel_rfl
theorem Qd5 {W0:World}:Contract Tryz.prog W0 203 Jj:=QEi ⟨Tryz.f203,Tryz.func203,Qd7,Qec⟩
theorem Qqn:Tryz.f204.body.isSome=true:=by kernel_rfl
theorem Qqp:(Tryz.f204.name == "runtime.NumGoroutine")=false:=by kernel_rfl
theorem Qqr {W0:World}:Contract Tryz.prog W0 204 QaO:=Qa (C:=Qjs) (fn:=Tryz.f204) (Qc (C:=X0) rfl Qe) (Qb (P:=Tryz.prog) ⟨QeT,trivial⟩) follows Tryz.func204 Qqn Qqp (fun t ys h=>(Qq1 t).trans h)
theorem QxA:Tryz.f157.body.isSome=true:=by kernel_rfl
theorem QwL:(Tryz.f157.name == "runtime.NumGoroutine")=false:=by kernel_rfl
theorem QxJ {W0:World}:Contract Tryz.prog W0 157 QdP:=Qa (C:=QnC) (fn:=Tryz.f157) (Qc (C:=X0) rfl Qe) (Qb (P:=Tryz.prog) ⟨Qd5,Qqr,trivial⟩) follows Tryz.func157 QxA QwL (fun t ys h=>(Qxy t).trans h)
theorem QiA:Tryz.f113.body.isSome=true:=by kernel_rfl
theorem Qih:(Tryz.f113.name == "runtime.NumGoroutine")=false:=by kernel_rfl
theorem Qis {W0:World}:Contract Tryz.prog W0 113 ZK:=Qa (C:=QcS) (fn:=Tryz.f113) (Qc (C:=X0) rfl Qe) (Qb (P:=Tryz.prog) trivial) follows Tryz.func113 QiA Qih (fun t ys h=>(QiK t).trans h)
theorem QvS:Tryz.f230.body.isSome=true:=by kernel_rfl
theorem Quf:(Tryz.f230.name == "runtime.NumGoroutine")=false:=by kernel_rfl
theorem Qtu {W0:World}:Contract Tryz.prog W0 230 Qcg:=Qa (C:=Qlu) (fn:=Tryz.f230) (Qc (C:=X0) rfl Qe) (Qb (P:=Tryz.prog) ⟨Qis,trivial⟩) follows Tryz.func230 QvS Quf (fun t ys h=>(Qt8 t).trans h)
theorem Qwz:Tryz.f205.body.isSome=true:=by kernel_rfl
theorem QyG:(Tryz.f205.name == "runtime.NumGoroutine")=false:=by kernel_rfl
theorem QwX {W0:World}:Contract Tryz.prog W0 205 Qdq:=Qa (C:=Qnm) (fn:=Tryz.f205) (Qc (C:=X0) rfl Qe) (Qb (P:=Tryz.prog) ⟨Qtu,trivial⟩) follows Tryz.func205 Qwz QyG (fun t ys h=>(QwS t).trans h)
theorem Qsv:Tryz.f158.body.isSome=true:=by kernel_rfl
theorem Qte:(Tryz.f158.name == "runtime.NumGoroutine")=false:=by kernel_rfl
theorem QrV {W0:World}:Contract Tryz.prog W0 158 QbD:=Qa (C:=Qkn) (fn:=Tryz.f158) (Qc (C:=X0) rfl Qe) (Qb (P:=Tryz.prog) ⟨QwX,trivial⟩) follows Tryz.func158 Qsv Qte (fun t ys h=>(QrX t).trans h)
theorem Qvl:Tryz.f101.body.isSome=true:=by kernel_rfl
theorem QtH:(Tryz.f101.name == "runtime.NumGoroutine")=false:=by kernel_rfl
theorem QuA {W0:World}:Contract Tryz.prog W0 101 QcK:=Qa (C:=QlQ) (fn:=Tryz.f101) (Qc (C:=X0) rfl Qe) (Qb (P:=Tryz.prog) ⟨Qtd,QxJ,QrV,trivial⟩) follows Tryz.func101 Qvl QtH (fun t ys h=>(Qvr t).trans h)
theorem QxG:Tryz.f102.body.isSome=true:=by kernel_rfl
theorem Qwu:(Tryz.f102.name == "runtime.NumGoroutine")=false:=by kernel_rfl
theorem Qyj {W0:World}:Contract Tryz.prog W0 102 QdF:=Qa (C:=Qm9) (fn:=Tryz.f102) (Qc (C:=X0) rfl Qe) (Qb (P:=Tryz.prog) ⟨Qhd,trivial⟩) follows Tryz.func102 QxG Qwu (fun t ys h=>(QxF t).trans h)
theorem Qlr:Tryz.f106.body.isSome=true:=by kernel_rfl
theorem Qli:(Tryz.f106.name == "runtime.NumGoroutine")=false:=by kernel_rfl
theorem QgJ {W0:World}:Contract Tryz.prog W0 106 Z6:=Qa (C:=QgT) (fn:=Tryz.f106) (Qc (C:=X0) rfl Qe) (Qb (P:=Tryz.prog) ⟨Jl,trivial⟩) follows Tryz.func106 Qlr Qli (fun t ys h=>(Qls t).trans h)
theorem Qlx:Tryz.f103.body.isSome=true:=by kernel_rfl
theorem Qme:(Tryz.f103.name == "runtime.NumGoroutine")=false:=by kernel_rfl
theorem Qla {W0:World}:Contract Tryz.prog W0 103 YI:=Qa (C:=QgL) (fn:=Tryz.f103) (Qc (C:=X0) rfl Qe) (Qb (P:=Tryz.prog) ⟨QgJ,trivial⟩) follows Tryz.func103 Qlx Qme (fun t ys h=>(Qlg t).trans h)
theorem Qzm:Tryz.f104.body.isSome=true:=by kernel_rfl
theorem QzI:(Tryz.f104.name == "runtime.NumGoroutine")=false:=by kernel_rfl
theorem QzJ {W0:World}:Contract Tryz.prog W0 104 QeV:=Qa (C:=Qob) (fn:=Tryz.f104) (Qc (C:=X0) rfl Qe) (Qb (P:=Tryz.prog) trivial) follows Tryz.func104 Qzm QzI (fun t ys h=>(QzC t).trans h)
theorem Qw2:Tryz.f105.body.isSome=true:=by kernel_rfl
theorem Qx0:(Tryz.f105.name == "runtime.NumGoroutine")=false:=by kernel_rfl
theorem Qxs {W0:World}:Contract Tryz.prog W0 105 Qdx:=Qa (C:=Qnk) (fn:=Tryz.f105) (Qc (C:=X0) rfl Qe) (Qb (P:=Tryz.prog) trivial) follows Tryz.func105 Qw2 Qx0 (fun t ys h=>(Qx8 t).trans h)
theorem Qlz:Tryz.f57.body.isSome=true:=by kernel_rfl
theorem QlG:(Tryz.f57.name == "runtime.NumGoroutine")=false:=by kernel_rfl
theorem Qmc {W0:World} (hT:Lib.TabIs Tryz.prog W0 "internal/strconv.uint64pow10" .u64 Lib.pow10Tab):Contract Tryz.prog W0 57 YN:=Qa (C:=QgS) (fn:=Tryz.f57) (Qc (C:=X0) rfl Qe) (Qb (P:=Tryz.prog) ⟨Qnz hT,QoV,QuA,Qyj,Qla,QzJ,Qxs,QgJ,trivial⟩) follows Tryz.func57 Qlz QlG (fun t ys h=>(Qlp t).trans h)
theorem Qj1:Tryz.f58.body.isSome=true:=by kernel_rfl
theorem Qj3:(Tryz.f58.name == "runtime.NumGoroutine")=false:=by kernel_rfl
theorem Qj0 {W0:World}:Contract Tryz.prog W0 58 Yl:=Qa (C:=QfH) (fn:=Tryz.f58) (Qc (C:=X0) rfl Qe) (Qb (P:=Tryz.prog) trivial) follows Tryz.func58 Qj1 Qj3 (fun t ys h=>(QjY t).trans h)
theorem Qik:Tryz.f129.body.isSome=true:=by kernel_rfl
theorem QiB:(Tryz.f129.name == "runtime.NumGoroutine")=false:=by kernel_rfl
theorem Qiu {W0:World}:Contract Tryz.prog W0 129 ZN:=Qa (C:=QcO) (fn:=Tryz.f129) (Qc (C:=X0) rfl Qe) (Qb (P:=Tryz.prog) trivial) follows Tryz.func129 Qik QiB (fun t ys h=>(Qip t).trans h)
theorem QhC:Tryz.f85.body.isSome=true:=by kernel_rfl
theorem Qhv:(Tryz.f85.name == "runtime.NumGoroutine")=false:=by kernel_rfl
theorem Qg3 {W0:World}:Contract Tryz.prog W0 85 Zu:=Qa (C:=Qbr) (fn:=Tryz.f85) (Qc (C:=X0) rfl Qe) (Qb (P:=Tryz.prog) ⟨Qiu,trivial⟩) follows Tryz.func85 QhC Qhv (fun t ys h=>(QhD t).trans h)
theorem Qfs:Tryz.f130.body.isSome=true:=by kernel_rfl
theorem Qfx:(Tryz.f130.name == "runtime.NumGoroutine")=false:=by kernel_rfl
theorem QfB {W0:World}:Contract Tryz.prog W0 130 Zc:=Qa (C:=Qac) (fn:=Tryz.f130) (Qc (C:=X0) rfl Qe) (Qb (P:=Tryz.prog) trivial) follows Tryz.func130 Qfs Qfx (fun t ys h=>(Qft t).trans h)
theorem Qea:Tryz.f86.body.isSome=true:=by kernel_rfl
theorem Qd6:(Tryz.f86.name == "runtime.NumGoroutine")=false:=by kernel_rfl
theorem Ji {W0:World}:Contract Tryz.prog W0 86 QK:=Qa (C:=Jk) (fn:=Tryz.f86) (Qc (C:=X0) rfl Qe) (Qb (P:=Tryz.prog) ⟨QfB,trivial⟩) follows Tryz.func86 Qea Qd6 (fun t ys h=>(Qd9 t).trans h)
theorem Qeu:Tryz.f178.body.isSome=true:=by kernel_rfl
theorem Qew:(Tryz.f178.name == "runtime.NumGoroutine")=false:=by kernel_rfl
theorem Qev {W0:World}:Contract Tryz.prog W0 178 Q3:=Qa (C:=Jz) (fn:=Tryz.f178) (Qc (C:=X0) rfl Qe) (Qb (P:=Tryz.prog) trivial) follows Tryz.func178 Qeu Qew (fun t ys h=>(Qex t).trans h)
theorem Qdm:Tryz.f131.body.isSome=true:=by kernel_rfl
theorem Qdh:(Tryz.f131.name == "runtime.NumGoroutine")=false:=by kernel_rfl
theorem Qde {W0:World}:Contract Tryz.prog W0 131 QU:=Qa (C:=Y3) (fn:=Tryz.f131) (Qc (C:=X0) rfl Qe) (Qb (P:=Tryz.prog) ⟨Qev,trivial⟩) follows Tryz.func131 Qdm Qdh (fun t ys h=>(Qc7 t).trans h)
theorem QsU:Tryz.f132.body.isSome=true:=by kernel_rfl
theorem Qr7:(Tryz.f132.name == "runtime.NumGoroutine")=false:=by kernel_rfl
theorem QrA {W0:World}:Contract Tryz.prog W0 132 Qbe:=Qa (C:=QkA) (fn:=Tryz.f132) (Qc (C:=X0) rfl Qe) (Qb (P:=Tryz.prog) ⟨Zv,trivial⟩) follows Tryz.func132 QsU Qr7 (fun t ys h=>(Qs4 t).trans h)
theorem QBh:Tryz.f88.body.isSome=true:=by kernel_rfl
theorem QA6:(Tryz.f88.name == "runtime.NumGoroutine")=false:=by kernel_rfl
theorem Qzn {W0:World}:Contract Tryz.prog W0 88 QeJ:=Qa (C:=Qot) (fn:=Tryz.f88) (Qc (C:=X0) rfl Qe) (Qb (P:=Tryz.prog) ⟨Qde,QrA,trivial⟩) follows Tryz.func88 QBh QA6 (fun t ys h=>(QBi t).trans h)
theorem Jw:Tryz.f187.body.isSome=true:=by kernel_rfl
theorem Jv:(Tryz.f187.name == "runtime.NumGoroutine")=false:=by kernel_rfl
theorem Jq {W0:World}:Contract Tryz.prog W0 187 Qr:=Qa (C:=ZC) (fn:=Tryz.f187) (Qc (C:=X0) rfl Qe) (Qb (P:=Tryz.prog) trivial) follows Tryz.func187 Jw Jv (fun t ys h=>(Jt t).trans h)
theorem QmD:Tryz.f188.body.isSome=true:=by kernel_rfl
theorem QmS:(Tryz.f188.name == "runtime.NumGoroutine")=false:=by kernel_rfl
theorem QmK {W0:World}:Contract Tryz.prog W0 188 Y7:=Qa (C:=Qhl) (fn:=Tryz.f188) (Qc (C:=X0) rfl Qe) (Qb (P:=Tryz.prog) ⟨QhK,trivial⟩) follows Tryz.func188 QmD QmS (fun t ys h=>(QmH t).trans h)
theorem QpI:Tryz.f136.body.isSome=true:=by kernel_rfl
theorem Qpr:(Tryz.f136.name == "runtime.NumGoroutine")=false:=by kernel_rfl
theorem QiR {W0:World}:Contract Tryz.prog W0 136 Jb:=Qa (C:=QiP) (fn:=Tryz.f136) (Qc (C:=X0) rfl Qe) (Qb (P:=Tryz.prog) ⟨Jq,QmK,trivial⟩) follows Tryz.func136 QpI Qpr (fun t ys h=>(QpO t).trans h)
theorem Qdu:Tryz.f181.body.isSome=true:=by kernel_rfl
theorem QdM:(Tryz.f181.name == "runtime.NumGoroutine")=false:=by kernel_rfl
theorem QdY {W0:World}:Contract Tryz.prog W0 181 QW:=Qa (C:=Jd) (fn:=Tryz.f181) (Qc (C:=X0) rfl Qe) (Qb (P:=Tryz.prog) trivial) follows Tryz.func181 Qdu QdM (fun t ys h=>(QdN t).trans h)
theorem QcX:Tryz.f182.body.isSome=true:=by kernel_rfl
theorem Qdi:(Tryz.f182.name == "runtime.NumGoroutine")=false:=by kernel_rfl
theorem Qc5 {W0:World}:Contract Tryz.prog W0 182 YY:=QEO ⟨Tryz.f182,Tryz.func182,QcX,Qdi⟩
theorem QbM:Tryz.f183.body.isSome=true:=by kernel_rfl
theorem QbU:(Tryz.f183.name == "runtime.NumGoroutine")=false:=by kernel_rfl
theorem QbW {W0:World}:Contract Tryz.prog W0 183 QN:=Qa (C:=Yx) (fn:=Tryz.f183) (Qc (C:=X0) rfl Qe) (Qb (P:=Tryz.prog) ⟨YC,trivial⟩) follows Tryz.func183 QbM QbU (fun t ys h=>(QbS t).trans h)
theorem Qdd:Tryz.f186.body.isSome=true:=by kernel_rfl
theorem Qdl:(Tryz.f186.name == "runtime.NumGoroutine")=false:=by kernel_rfl
theorem QcY {W0:World}:Contract Tryz.prog W0 186 Ja:=QEK ⟨Tryz.f186,Tryz.func186,Qdd,Qdl⟩
theorem Qlm:Tryz.f184.body.isSome=true:=by kernel_rfl
theorem Qld:(Tryz.f184.name == "runtime.NumGoroutine")=false:=by kernel_rfl
theorem QlK {W0:World}:Contract Tryz.prog W0 184 YL:=Qa (C:=QgI) (fn:=Tryz.f184) (Qc (C:=X0) rfl Qe) (Qb (P:=Tryz.prog) ⟨Zv,trivial⟩) follows Tryz.func184 Qlm Qld (fun t ys h=>(QlW t).trans h)
theorem QlF:Tryz.f185.body.isSome=true:=by kernel_rfl
theorem QlM:(Tryz.f185.name == "runtime.NumGoroutine")=false:=by kernel_rfl
theorem QlJ {W0:World}:Contract Tryz.prog W0 185 YJ:=Qa (C:=QgM) (fn:=Tryz.f185) (Qc (C:=X0) rfl Qe) (Qb (P:=Tryz.prog) trivial) follows Tryz.func185 QlF QlM (fun t ys h=>(Ql4 t).trans h)
theorem QoL:Tryz.f134.body.isSome=true:=by kernel_rfl
theorem Qoa:(Tryz.f134.name == "runtime.NumGoroutine")=false:=by kernel_rfl
theorem QoW {W0:World}:Contract Tryz.prog W0 134 JM:=Qa (C:=Qiy) (fn:=Tryz.f134) (Qc (C:=X0) rfl Qe) (Qb (P:=Tryz.prog) ⟨QiR,Ym,Qqg,QdY,Qc5,QbW,QlK,QlJ,QcY,trivial⟩) follows Tryz.func134 QoL Qoa (fun t ys h=>(Qn3 t).trans h)
theorem QiE:Tryz.f135.body.isSome=true:=by kernel_rfl
theorem Qin:(Tryz.f135.name == "runtime.NumGoroutine")=false:=by kernel_rfl
theorem QiI {W0:World}:Contract Tryz.prog W0 135 ZL:=Qa (C:=QcV) (fn:=Tryz.f135) (Qc (C:=X0) rfl Qe) (Qb (P:=Tryz.prog) trivial) follows Tryz.func135 QiE Qin (fun t ys h=>(Qiw t).trans h)
theorem Qig:Tryz.f137.body.isSome=true:=by kernel_rfl
theorem Qil:(Tryz.f137.name == "runtime.NumGoroutine")=false:=by kernel_rfl
theorem Qie {W0:World}:Contract Tryz.prog W0 137 ZM:=Qa (C:=QcQ) (fn:=Tryz.f137) (Qc (C:=X0) rfl Qe) (Qb (P:=Tryz.prog) ⟨Zv,trivial⟩) follows Tryz.func137 Qig Qil (fun t ys h=>(Qit t).trans h)
theorem QjM:Tryz.f89.body.isSome=true:=by kernel_rfl
theorem Qjr:(Tryz.f89.name == "runtime.NumGoroutine")=false:=by kernel_rfl
theorem Qjm {W0:World}:Contract Tryz.prog W0 89 Z7:=Qa (C:=QeD) (fn:=Tryz.f89) (Qc (C:=X0) rfl Qe) (Qb (P:=Tryz.prog) ⟨Ji,QoW,QiI,QiR,Qie,trivial⟩) follows Tryz.func89 QjM Qjr (fun t ys h=>(Qju t).trans h)
theorem Qh1:Tryz.f87.body.isSome=true:=by kernel_rfl
theorem QhW:(Tryz.f87.name == "runtime.NumGoroutine")=false:=by kernel_rfl
theorem QhP {W0:World}:Contract Tryz.prog W0 87 ZD:=Qa (C:=Qcu) (fn:=Tryz.f87) (Qc (C:=X0) rfl Qe) (Qb (P:=Tryz.prog) ⟨Qzn,trivial⟩) follows Tryz.func87 Qh1 QhW (fun t ys h=>(QhO t).trans h)
theorem Qi0:Tryz.f49.body.isSome=true:=by kernel_rfl
theorem Qi6:(Tryz.f49.name == "runtime.NumGoroutine")=false:=by kernel_rfl
theorem Qi3 {W0:World} (hT:Lib.TabIs Tryz.prog W0 "internal/strconv.uint64pow10" .u64 Lib.pow10Tab) (hM:∃m,W0.cell? ⟨0,0,none⟩=some (.int .i64 m)) (hS:JV Tryz.prog W0):Contract Tryz.prog W0 49 ZX:=Qa (C:=Qel) (fn:=Tryz.f49) (Qc (C:=X0) rfl Qe) (Qb (P:=Tryz.prog) ⟨Qm0 hT hM hS,Qmc hT,Qj0,Qiq hT hM hS,Qg3,Ji,QhP,Qjm,trivial⟩) follows Tryz.func49 Qi0 Qi6 (fun t ys h=>(Qi7 t).trans h)
theorem Qqh:Tryz.f15.body.isSome=true:=by kernel_rfl
theorem Qq0:(Tryz.f15.name == "runtime.NumGoroutine")=false:=by kernel_rfl
theorem QqB {W0:World} (hT:Lib.TabIs Tryz.prog W0 "internal/strconv.uint64pow10" .u64 Lib.pow10Tab) (hM:∃m,W0.cell? ⟨0,0,none⟩=some (.int .i64 m)) (hS:JV Tryz.prog W0):Contract Tryz.prog W0 15 QaN:=Qa (C:=QjU) (fn:=Tryz.f15) (Qc (C:=X0) rfl Qe) (Qb (P:=Tryz.prog) ⟨Qqu,Qi3 hT hM hS,trivial⟩) follows Tryz.func15 Qqh Qq0 (fun t ys h=>(QqQ t).trans h)
theorem Qrt:Tryz.f50.body.isSome=true:=by kernel_rfl
theorem Qre:(Tryz.f50.name == "runtime.NumGoroutine")=false:=by kernel_rfl
theorem QqW {W0:World}:Contract Tryz.prog W0 50 QaB:=Qa (C:=Qjv) (fn:=Tryz.f50) (Qc (C:=X0) rfl Qe) (Qb (P:=Tryz.prog) trivial) follows Tryz.func50 Qrt Qre (fun t ys h=>(QqU t).trans h)
theorem QwJ:Tryz.f90.body.isSome=true:=by kernel_rfl
theorem QxC:(Tryz.f90.name == "runtime.NumGoroutine")=false:=by kernel_rfl
theorem Qyn {W0:World}:Contract Tryz.prog W0 90 QdR:=Qa (C:=Qng) (fn:=Tryz.f90) (Qc (C:=X0) rfl Qe) (Qb (P:=Tryz.prog) trivial) follows Tryz.func90 QwJ QxC (fun t ys h=>(QwF t).trans h)
theorem Quv:Tryz.f51.body.isSome=true:=by kernel_rfl
theorem Qt7:(Tryz.f51.name == "runtime.NumGoroutine")=false:=by kernel_rfl
theorem QuF {W0:World}:Contract Tryz.prog W0 51 Qcc:=Qa (C:=Qlv) (fn:=Tryz.f51) (Qc (C:=X0) rfl Qe) (Qb (P:=Tryz.prog) ⟨Qyn,trivial⟩) follows Tryz.func51 Quv Qt7 (fun t ys h=>(Qvw t).trans h)
theorem Qr6:Tryz.f16.body.isSome=true:=by kernel_rfl
theorem Qsf:(Tryz.f16.name == "runtime.NumGoroutine")=false:=by kernel_rfl
theorem QsF {W0:World}:Contract Tryz.prog W0 16 Qbu:=Qa (C:=Qj7) (fn:=Tryz.f16) (Qc (C:=X0) rfl Qe) (Qb (P:=Tryz.prog) ⟨QqW,QuF,trivial⟩) follows Tryz.func16 Qr6 Qsf (fun t ys h=>(Qsl t).trans h)
theorem QzA:Tryz.f138.body.isSome=true:=by kernel_rfl
theorem QAe:(Tryz.f138.name == "runtime.NumGoroutine")=false:=by kernel_rfl
theorem QoJ {W0:World}:Contract Tryz.prog W0 138 QcI:=Qa (C:=Qo3) (fn:=Tryz.f138) (Qc (C:=X0) rfl Qe) (Qb (P:=Tryz.prog) trivial) follows Tryz.func138 QzA QAe (fun t ys h=>(QBk t).trans h)
theorem Qsr:Tryz.f18.body.isSome=true:=by kernel_rfl
theorem Qti:(Tryz.f18.name == "runtime.NumGoroutine")=false:=by kernel_rfl
theorem Qka {W0:World}:Contract Tryz.prog W0 18 J3:=Qa (C:=QkF) (fn:=Tryz.f18) (Qc (C:=X0) rfl Qe) (Qb (P:=Tryz.prog) trivial) follows Tryz.func18 Qsr Qti (fun t ys h=>(Qso t).trans h)
theorem Qxw:Tryz.f190.body.isSome=true:=by kernel_rfl
theorem Qx4:(Tryz.f190.name == "runtime.NumGoroutine")=false:=by kernel_rfl
theorem Qxb {W0:World}:Contract Tryz.prog W0 190 QdE:=Qa (C:=Qnv) (fn:=Tryz.f190) (Qc (C:=X0) rfl Qe) (Qb (P:=Tryz.prog) ⟨Qka,trivial⟩) follows Tryz.func190 Qxw Qx4 (fun t ys h=>(Qw8 t).trans h)
theorem QA9:Tryz.f139.body.isSome=true:=by kernel_rfl
theorem QAx:(Tryz.f139.name == "runtime.NumGoroutine")=false:=by kernel_rfl
theorem QAb {W0:World}:Contract Tryz.prog W0 139 QeI:=Qa (C:=QoR) (fn:=Tryz.f139) (Qc (C:=X0) rfl Qe) (Qb (P:=Tryz.prog) ⟨Qxb,trivial⟩) follows Tryz.func139 QA9 QAx (fun t ys h=>(QAK t).trans h)
theorem Qxa:Tryz.f91.body.isSome=true:=by kernel_rfl
theorem Qyl:(Tryz.f91.name == "runtime.NumGoroutine")=false:=by kernel_rfl
theorem QxE {W0:World}:Contract Tryz.prog W0 91 Qdr:=Qa (C:=Qnp) (fn:=Tryz.f91) (Qc (C:=X0) rfl Qe) (Qb (P:=Tryz.prog) ⟨QoJ,QAb,trivial⟩) follows Tryz.func91 Qxa Qyl (fun t ys h=>(QxR t).trans h)
theorem QvN:Tryz.f52.body.isSome=true:=by kernel_rfl
theorem QtL:(Tryz.f52.name == "runtime.NumGoroutine")=false:=by kernel_rfl
theorem QuE {W0:World}:Contract Tryz.prog W0 52 QcL:=Qa (C:=QlT) (fn:=Tryz.f52) (Qc (C:=X0) rfl Qe) (Qb (P:=Tryz.prog) ⟨QxE,trivial⟩) follows Tryz.func52 QvN QtL (fun t ys h=>(Quo t).trans h)
theorem Qsh:Tryz.f92.body.isSome=true:=by kernel_rfl
theorem Qr5:(Tryz.f92.name == "runtime.NumGoroutine")=false:=by kernel_rfl
theorem Qr2 {W0:World}:Contract Tryz.prog W0 92 Qbf:=Qa (C:=Qkl) (fn:=Tryz.f92) (Qc (C:=X0) rfl Qe) (Qb (P:=Tryz.prog) ⟨QoJ,trivial⟩) follows Tryz.func92 Qsh Qr5 (fun t ys h=>(Qtk t).trans h)
theorem Qqm:Tryz.f53.body.isSome=true:=by kernel_rfl
theorem QqN:(Tryz.f53.name == "runtime.NumGoroutine")=false:=by kernel_rfl
theorem Qrw {W0:World}:Contract Tryz.prog W0 53 QaI:=Qa (C:=Qjq) (fn:=Tryz.f53) (Qc (C:=X0) rfl Qe) (Qb (P:=Tryz.prog) ⟨Qr2,trivial⟩) follows Tryz.func53 Qqm QqN (fun t ys h=>(Qq9 t).trans h)
theorem QuQ:Tryz.f17.body.isSome=true:=by kernel_rfl
theorem Qvk:(Tryz.f17.name == "runtime.NumGoroutine")=false:=by kernel_rfl
theorem Quw {W0:World}:Contract Tryz.prog W0 17 Qcp:=Qa (C:=QlD) (fn:=Tryz.f17) (Qc (C:=X0) rfl Qe) (Qb (P:=Tryz.prog) ⟨QuE,Qrw,trivial⟩) follows Tryz.func17 QuQ Qvk (fun t ys h=>(Quy t).trans h)
theorem QHT:Tryz.f19.body.isSome=true:=by kernel_rfl
theorem QHR:(Tryz.f19.name == "runtime.NumGoroutine")=false:=by kernel_rfl
theorem QHN {W0:World}:Contract Tryz.prog W0 19 QHv:=Qa (C:=QHG) (fn:=Tryz.f19) (Qc (C:=X0) rfl Qe) (Qb (P:=Tryz.prog) ⟨Qxq,QuC,QuT,trivial⟩) follows Tryz.func19 QHT QHR (fun t ys h=>(QHW t).trans h)
theorem QHV:Tryz.f20.body.isSome=true:=by kernel_rfl
theorem QHO:(Tryz.f20.name == "runtime.NumGoroutine")=false:=by kernel_rfl
theorem QHU {W0:World} (hT:Lib.TabIs Tryz.prog W0 "internal/strconv.uint64pow10" .u64 Lib.pow10Tab) (hM:∃m,W0.cell? ⟨0,0,none⟩=some (.int .i64 m)) (hS:JV Tryz.prog W0):Contract Tryz.prog W0 20 QHw:=Qa (C:=QHF) (fn:=Tryz.f20) (Qc (C:=X0) rfl Qe) (Qb (P:=Tryz.prog) ⟨QqB hT hM hS,Qm0 hT hM hS,Qmc hT,Qj0,trivial⟩) follows Tryz.func20 QHV QHO (fun t ys h=>(QHQ t).trans h)
theorem QHI:Tryz.f21.body.isSome=true:=by kernel_rfl
theorem QHJ:(Tryz.f21.name == "runtime.NumGoroutine")=false:=by kernel_rfl
theorem QHK {W0:World}:Contract Tryz.prog W0 21 QHs:=Qa (C:=QHA) (fn:=Tryz.f21) (Qc (C:=X0) rfl Qe) (Qb (P:=Tryz.prog) trivial) follows Tryz.func21 QHI QHJ (fun t ys h=>(QHH t).trans h)
theorem QHC:Tryz.f4.body.isSome=true:=by kernel_rfl
theorem QHB:(Tryz.f4.name == "runtime.NumGoroutine")=false:=by kernel_rfl
theorem QHE {W0:World} (hT:Lib.TabIs Tryz.prog W0 "internal/strconv.uint64pow10" .u64 Lib.pow10Tab) (hM:∃m,W0.cell? ⟨0,0,none⟩=some (.int .i64 m)) (hS:JV Tryz.prog W0):Contract Tryz.prog W0 4 QHr:=Qa (C:=QHz) (fn:=Tryz.f4) (Qc (C:=X0) rfl Qe) (Qb (P:=Tryz.prog) ⟨QsJ,Qt4,Qr1,Qt9,QkM,QsF,Quw,Qka,QHN,QHU hT hM hS,QHK,trivial⟩) follows Tryz.func4 QHC QHB (fun t ys h=>(QHD t).trans h)
end GL
end Go.Dx

