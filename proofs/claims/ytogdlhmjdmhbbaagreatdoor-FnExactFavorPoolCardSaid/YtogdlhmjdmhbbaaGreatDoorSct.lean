/- The contracts of the functions -/
import Derived.Test.YtogdlhmjdmhbbaaGreatDoorSea
import Derived.Test.YtogdlhmjdmhbbaaGreatDoorSeb
import Derived.Test.YtogdlhmjdmhbbaaGreatDoorSec
import Derived.Test.YtogdlhmjdmhbbaaGreatDoorSed
import Derived.Test.YtogdlhmjdmhbbaaGreatDoorSee
import Derived.Test.YtogdlhmjdmhbbaaGreatDoorSef
import Derived.Test.YtogdlhmjdmhbbaaGreatDoorHdDigW192
import Derived.Test.YtogdlhmjdmhbbaaGreatDoorHdSwpW193
import Derived.Test.YtogdlhmjdmhbbaaGreatDoorHdFmtW196
import Derived.Test.YtogdlhmjdmhbbaaGreatDoorHdJoinW153
import Derived.Test.YtogdlhmjdmhbbaaGreatDoorHdSplitW173
import Derived.Test.YtogdlhmjdmhbbaaGreatDoorHdNumW174
import Derived.Test.YtogdlhmjdmhbbaaGreatDoorHdCutW175
import Derived.Test.YtogdlhmjdmhbbaaGreatDoorHdSortW203
import Derived.Test.YtogdlhmjdmhbbaaGreatDoorHdDelW182
import Derived.Test.YtogdlhmjdmhbbaaGreatDoorHdInsW186
set_option linter.unusedVariables false
set_option linter.unusedSimpArgs false
set_option maxRecDepth 100000
set_option maxHeartbeats 0
namespace Go.Dx
open Go.Proofs
namespace GL

theorem Qq4:entB Tryz.f39=true:=by kernel_rfl
theorem Qqy {W0:World}:Contract Tryz.prog W0 39 QaP:=Qa (C:=Qjp) (fn:=Tryz.f39) (Qc (C:=X0) rfl Qe) (Qb (P:=Tryz.prog) trivial) follows Tryz.func39 (ent1 Qq4) (ent2 Qq4) (fun t ys h=>(Qqj t).trans h)
theorem Qvn:entB Tryz.f40=true:=by kernel_rfl
theorem Qu7 {W0:World}:Contract Tryz.prog W0 40 QcA:=Qa (C:=QlB) (fn:=Tryz.f40) (Qc (C:=X0) rfl Qe) (Qb (P:=Tryz.prog) trivial) follows Tryz.func40 (ent1 Qvn) (ent2 Qvn) (fun t ys h=>(Qvb t).trans h)
theorem Qs7:entB Tryz.f9=true:=by kernel_rfl
theorem QsJ {W0:World}:Contract Tryz.prog W0 9 Qbi:=Qa (C:=Qku) (fn:=Tryz.f9) (Qc (C:=X0) rfl Qe) (Qb (P:=Tryz.prog) ⟨Qqy,Qu7,trivial⟩) follows Tryz.func9 (ent1 Qs7) (ent2 Qs7) (fun t ys h=>(QsK t).trans h)
theorem Qr8:entB Tryz.f210=true:=by kernel_rfl
theorem Qst {W0:World}:Contract Tryz.prog W0 210 Qbk:=Qa (C:=Qkv) (fn:=Tryz.f210) (Qc (C:=X0) rfl Qe) (Qb (P:=Tryz.prog) trivial) follows Tryz.func210 (ent1 Qr8) (ent2 Qr8) (fun t ys h=>(QrI t).trans h)
theorem QyO:entB Tryz.f164=true:=by kernel_rfl
theorem Qyu {W0:World}:Contract Tryz.prog W0 164 QdI:=Qa (C:=QnA) (fn:=Tryz.f164) (Qc (C:=X0) rfl Qe) (Qb (P:=Tryz.prog) ⟨Qst,trivial⟩) follows Tryz.func164 (ent1 QyO) (ent2 QyO) (fun t ys h=>(QwQ t).trans h)
theorem QAo:entB Tryz.f118=true:=by kernel_rfl
theorem Qy2 {W0:World}:Contract Tryz.prog W0 118 QeB:=Qa (C:=QnW) (fn:=Tryz.f118) (Qc (C:=X0) rfl Qe) (Qb (P:=Tryz.prog) ⟨Qyu,trivial⟩) follows Tryz.func118 (ent1 QAo) (ent2 QAo) (fun t ys h=>(Qzy t).trans h)
theorem QwV:entB Tryz.f78=true:=by kernel_rfl
theorem QxV {W0:World}:Contract Tryz.prog W0 78 Qdt:=Qa (C:=QnE) (fn:=Tryz.f78) (Qc (C:=X0) rfl Qe) (Qb (P:=Tryz.prog) ⟨Qy2,trivial⟩) follows Tryz.func78 (ent1 QwV) (ent2 QwV) (fun t ys h=>(Qxt t).trans h)
theorem Qua:entB Tryz.f41=true:=by kernel_rfl
theorem Quu {W0:World}:Contract Tryz.prog W0 41 QcG:=Qa (C:=Qlq) (fn:=Tryz.f41) (Qc (C:=X0) rfl Qe) (Qb (P:=Tryz.prog) ⟨QxV,trivial⟩) follows Tryz.func41 (ent1 Qua) (ent2 Qua) (fun t ys h=>(Qtp t).trans h)
theorem Qrx:entB Tryz.f42=true:=by kernel_rfl
theorem QqF {W0:World}:Contract Tryz.prog W0 42 QaJ:=Qa (C:=QjN) (fn:=Tryz.f42) (Qc (C:=X0) rfl Qe) (Qb (P:=Tryz.prog) trivial) follows Tryz.func42 (ent1 Qrx) (ent2 Qrx) (fun t ys h=>(Qq7 t).trans h)
theorem Qva:entB Tryz.f10=true:=by kernel_rfl
theorem Qt4 {W0:World}:Contract Tryz.prog W0 10 Qcn:=Qa (C:=Qmf) (fn:=Tryz.f10) (Qc (C:=X0) rfl Qe) (Qb (P:=Tryz.prog) ⟨Quu,QqF,trivial⟩) follows Tryz.func10 (ent1 Qva) (ent2 Qva) (fun t ys h=>(QtM t).trans h)
theorem QB1:entB Tryz.f107=true:=by kernel_rfl
theorem YQ {W0:World}:Contract Tryz.prog W0 107 ZI:=Qa (C:=QpW) (fn:=Tryz.f107) (Qc (C:=X0) rfl Qe) (Qb (P:=Tryz.prog) trivial) follows Tryz.func107 (ent1 QB1) (ent2 QB1) (fun t ys h=>(QBT t).trans h)
theorem QAM:entB Tryz.f69=true:=by kernel_rfl
theorem Qhc {W0:World}:Contract Tryz.prog W0 69 JL:=Qa (C:=Qo1) (fn:=Tryz.f69) (Qc (C:=X0) rfl Qe) (Qb (P:=Tryz.prog) ⟨YQ,trivial⟩) follows Tryz.func69 (ent1 QAM) (ent2 QAM) (fun t ys h=>(Qzt t).trans h)
theorem QBU:entB Tryz.f97=true:=by kernel_rfl
theorem QpT {W0:World}:Contract Tryz.prog W0 97 Qd2:=Qa (C:=Qqc) (fn:=Tryz.f97) (Qc (C:=X0) rfl Qe) (Qb (P:=Tryz.prog) trivial) follows Tryz.func97 (ent1 QBU) (ent2 QBU) (fun t ys h=>(QBt t).trans h)
theorem Qrz:entB Tryz.f108=true:=by kernel_rfl
theorem QkI {W0:World}:Contract Tryz.prog W0 108 Qaa:=Qa (C:=Qkc) (fn:=Tryz.f108) (Qc (C:=X0) rfl Qe) (Qb (P:=Tryz.prog) trivial) follows Tryz.func108 (ent1 Qrz) (ent2 Qrz) (fun t ys h=>(Qs5 t).trans h)
theorem Qud:entB Tryz.f59=true:=by kernel_rfl
theorem Qh2 {W0:World}:Contract Tryz.prog W0 59 Jp:=Qa (C:=QlL) (fn:=Tryz.f59) (Qc (C:=X0) rfl Qe) (Qb (P:=Tryz.prog) ⟨Qhc,QpT,YQ,QkI,trivial⟩) follows Tryz.func59 (ent1 Qud) (ent2 Qud) (fun t ys h=>(Qux t).trans h)
theorem Qr3:entB Tryz.f95=true:=by kernel_rfl
theorem QhA {W0:World}:Contract Tryz.prog W0 95 Y8:=Qa (C:=Qkr) (fn:=Tryz.f95) (Qc (C:=X0) rfl Qe) (Qb (P:=Tryz.prog) ⟨YQ,trivial⟩) follows Tryz.func95 (ent1 Qr3) (ent2 Qr3) (fun t ys h=>(Qsi t).trans h)
theorem QAR:entB Tryz.f140=true:=by kernel_rfl
theorem QjX {W0:World}:Contract Tryz.prog W0 140 QaT:=Qa (C:=Qof) (fn:=Tryz.f140) (Qc (C:=X0) rfl Qe) (Qb (P:=Tryz.prog) ⟨YQ,trivial⟩) follows Tryz.func140 (ent1 QAR) (ent2 QAR) (fun t ys h=>(QAf t).trans h)
theorem QuD:entB Tryz.f191=true:=by kernel_rfl
theorem Qh6 {W0:World}:Contract Tryz.prog W0 191 Jr:=Qa (C:=Ql2) (fn:=Tryz.f191) (Qc (C:=X0) rfl Qe) (Qb (P:=Tryz.prog) ⟨Qhc,QhA,YQ,trivial⟩) follows Tryz.func191 (ent1 QuD) (ent2 QuD) (fun t ys h=>(Qvt t).trans h)
theorem Qzj:entB Tryz.f141=true:=by kernel_rfl
theorem QAE {W0:World}:Contract Tryz.prog W0 141 QeR:=Qa (C:=Qoz) (fn:=Tryz.f141) (Qc (C:=X0) rfl Qe) (Qb (P:=Tryz.prog) ⟨YQ,Qh6,trivial⟩) follows Tryz.func141 (ent1 Qzj) (ent2 Qzj) (fun t ys h=>(Qzo t).trans h)
theorem QvB:entB Tryz.f142=true:=by kernel_rfl
theorem Qvq {W0:World}:Contract Tryz.prog W0 142 Qck:=Qa (C:=QlH) (fn:=Tryz.f142) (Qc (C:=X0) rfl Qe) (Qb (P:=Tryz.prog) trivial) follows Tryz.func142 (ent1 QvB) (ent2 QvB) (fun t ys h=>(Qu8 t).trans h)
theorem Qub:entB Tryz.f93=true:=by kernel_rfl
theorem QlX {W0:World}:Contract Tryz.prog W0 93 Qav:=Qa (C:=QlR) (fn:=Tryz.f93) (Qc (C:=X0) rfl Qe) (Qb (P:=Tryz.prog) ⟨QhA,QjX,QAE,Qvq,trivial⟩) follows Tryz.func93 (ent1 Qub) (ent2 Qub) (fun t ys h=>(QvR t).trans h)
theorem QuL:entB Tryz.f109=true:=by kernel_rfl
theorem QtA {W0:World}:Contract Tryz.prog W0 109 Qch:=Qa (C:=Qlf) (fn:=Tryz.f109) (Qc (C:=X0) rfl Qe) (Qb (P:=Tryz.prog) ⟨Qhc,QjX,trivial⟩) follows Tryz.func109 (ent1 QuL) (ent2 QuL) (fun t ys h=>(Qur t).trans h)
theorem QvC:entB Tryz.f60=true:=by kernel_rfl
theorem Qt3 {W0:World}:Contract Tryz.prog W0 60 QcH:=Qa (C:=Ql9) (fn:=Tryz.f60) (Qc (C:=X0) rfl Qe) (Qb (P:=Tryz.prog) ⟨QlX,YQ,QtA,trivial⟩) follows Tryz.func60 (ent1 QvC) (ent2 QvC) (fun t ys h=>(QuV t).trans h)
theorem QvL:entB Tryz.f117=true:=by kernel_rfl
theorem QcB {W0:World}:Contract Tryz.prog W0 117 Yf:=Qa (C:=QlC) (fn:=Tryz.f117) (Qc (C:=X0) rfl Qe) (Qb (P:=Tryz.prog) trivial) follows Tryz.func117 (ent1 QvL) (ent2 QvL) (fun t ys h=>(Qto t).trans h)
theorem Qyg:entB Tryz.f143=true:=by kernel_rfl
theorem Qx5 {W0:World}:Contract Tryz.prog W0 143 QdW:=Qa (C:=QnB) (fn:=Tryz.f143) (Qc (C:=X0) rfl Qe) (Qb (P:=Tryz.prog) ⟨YQ,Qh6,trivial⟩) follows Tryz.func143 (ent1 Qyg) (ent2 Qyg) (fun t ys h=>(QyD t).trans h)
theorem Qve:entB Tryz.f94=true:=by kernel_rfl
theorem QhT {W0:World}:Contract Tryz.prog W0 94 Jx:=Qa (C:=Ql1) (fn:=Tryz.f94) (Qc (C:=X0) rfl Qe) (Qb (P:=Tryz.prog) ⟨Qhc,YQ,QcB,QjX,Qx5,trivial⟩) follows Tryz.func94 (ent1 Qve) (ent2 Qve) (fun t ys h=>(QtB t).trans h)
theorem QFE:entB Tryz.f192=true:=by kernel_rfl
theorem Qky {W0:World}:Contract Tryz.prog W0 192 Qg6:=QFD 19
theorem QxX:entB Tryz.f193=true:=by kernel_rfl
theorem Qnd {W0:World}:Contract Tryz.prog W0 193 QiN:=QE2 ⟨Tryz.f193,Tryz.func193,(ent1 QxX),(ent2 QxX)⟩
theorem QxK:entB Tryz.f194=true:=by kernel_rfl
theorem QxZ {W0:World}:Contract Tryz.prog W0 194 QdO:=Qa (C:=Qnh) (fn:=Tryz.f194) (Qc (C:=X0) rfl Qe) (Qb (P:=Tryz.prog) ⟨Qky,trivial⟩) follows Tryz.func194 (ent1 QxK) (ent2 QxK) (fun t ys h=>(Qxv t).trans h)
theorem QxO:entB Tryz.f144=true:=by kernel_rfl
theorem Qnb {W0:World}:Contract Tryz.prog W0 144 Qbb:=Qa (C:=Qm1) (fn:=Tryz.f144) (Qc (C:=X0) rfl Qe) (Qb (P:=Tryz.prog) ⟨Qky,Qnd,QxZ,trivial⟩) follows Tryz.func144 (ent1 QxO) (ent2 QxO) (fun t ys h=>(QxM t).trans h)
theorem QwO:entB Tryz.f96=true:=by kernel_rfl
theorem Qyx {W0:World}:Contract Tryz.prog W0 96 Qdo:=Qa (C:=Qnj) (fn:=Tryz.f96) (Qc (C:=X0) rfl Qe) (Qb (P:=Tryz.prog) ⟨QhT,Qnb,trivial⟩) follows Tryz.func96 (ent1 QwO) (ent2 QwO) (fun t ys h=>(Qxr t).trans h)
theorem Qwx:entB Tryz.f224=true:=by kernel_rfl
theorem QwH {W0:World}:Contract Tryz.prog W0 224 QdZ:=Qa (C:=Qns) (fn:=Tryz.f224) (Qc (C:=X0) rfl Qe) (Qb (P:=Tryz.prog) trivial) follows Tryz.func224 (ent1 Qwx) (ent2 Qwx) (fun t ys h=>(QyM t).trans h)
theorem QxN:entB Tryz.f195=true:=by kernel_rfl
theorem QwZ {W0:World}:Contract Tryz.prog W0 195 QdU:=Qa (C:=Qni) (fn:=Tryz.f195) (Qc (C:=X0) rfl Qe) (Qb (P:=Tryz.prog) ⟨QwH,trivial⟩) follows Tryz.func195 (ent1 QxN) (ent2 QxN) (fun t ys h=>(Qye t).trans h)
theorem QvM:entB Tryz.f145=true:=by kernel_rfl
theorem QvG {W0:World}:Contract Tryz.prog W0 145 Qcs:=Qa (C:=Qlh) (fn:=Tryz.f145) (Qc (C:=X0) rfl Qe) (Qb (P:=Tryz.prog) ⟨QcB,QwZ,trivial⟩) follows Tryz.func145 (ent1 QvM) (ent2 QvM) (fun t ys h=>(Qt0 t).trans h)
theorem QxY:entB Tryz.f146=true:=by kernel_rfl
theorem QxQ {W0:World}:Contract Tryz.prog W0 146 Qds:=Qa (C:=Qnu) (fn:=Tryz.f146) (Qc (C:=X0) rfl Qe) (Qb (P:=Tryz.prog) trivial) follows Tryz.func146 (ent1 QxY) (ent2 QxY) (fun t ys h=>(Qw9 t).trans h)
theorem QAj:entB Tryz.f148=true:=by kernel_rfl
theorem Qop {W0:World}:Contract Tryz.prog W0 148 Qb8:=Qa (C:=QoM) (fn:=Tryz.f148) (Qc (C:=X0) rfl Qe) (Qb (P:=Tryz.prog) ⟨QkI,trivial⟩) follows Tryz.func148 (ent1 QAj) (ent2 QAj) (fun t ys h=>(QyZ t).trans h)
theorem QBj:entB Tryz.f147=true:=by kernel_rfl
theorem QzE {W0:World}:Contract Tryz.prog W0 147 Qey:=Qa (C:=QoG) (fn:=Tryz.f147) (Qc (C:=X0) rfl Qe) (Qb (P:=Tryz.prog) ⟨Qop,trivial⟩) follows Tryz.func147 (ent1 QBj) (ent2 QBj) (fun t ys h=>(QBb t).trans h)
theorem QzT:entB Tryz.f149=true:=by kernel_rfl
theorem QAI {W0:World}:Contract Tryz.prog W0 149 QeM:=Qa (C:=Qok) (fn:=Tryz.f149) (Qc (C:=X0) rfl Qe) (Qb (P:=Tryz.prog) trivial) follows Tryz.func149 (ent1 QzT) (ent2 QzT) (fun t ys h=>(QAp t).trans h)
theorem QzP:entB Tryz.f150=true:=by kernel_rfl
theorem QzU {W0:World}:Contract Tryz.prog W0 150 QeU:=Qa (C:=QoH) (fn:=Tryz.f150) (Qc (C:=X0) rfl Qe) (Qb (P:=Tryz.prog) trivial) follows Tryz.func150 (ent1 QzP) (ent2 QzP) (fun t ys h=>(Qzf t).trans h)
theorem Qty:entB Tryz.f98=true:=by kernel_rfl
theorem Qvd {W0:World}:Contract Tryz.prog W0 98 Qcm:=Qa (C:=QlI) (fn:=Tryz.f98) (Qc (C:=X0) rfl Qe) (Qb (P:=Tryz.prog) ⟨QvG,QxQ,QzE,Qop,QAI,QzU,trivial⟩) follows Tryz.func98 (ent1 Qty) (ent2 Qty) (fun t ys h=>(Qtw t).trans h)
theorem QuY:entB Tryz.f54=true:=by kernel_rfl
theorem QuC {W0:World}:Contract Tryz.prog W0 54 QcF:=Qa (C:=Qlk) (fn:=Tryz.f54) (Qc (C:=X0) rfl Qe) (Qb (P:=Tryz.prog) ⟨Qh2,QlX,QhT,QhA,Qyx,QpT,Qvd,trivial⟩) follows Tryz.func54 (ent1 QuY) (ent2 QuY) (fun t ys h=>(QvK t).trans h)
theorem Qz2:entB Tryz.f70=true:=by kernel_rfl
theorem QBa {W0:World}:Contract Tryz.prog W0 70 Qe2:=Qa (C:=Qom) (fn:=Tryz.f70) (Qc (C:=X0) rfl Qe) (Qb (P:=Tryz.prog) trivial) follows Tryz.func70 (ent1 Qz2) (ent2 Qz2) (fun t ys h=>(QzK t).trans h)
theorem QvE:entB Tryz.f55=true:=by kernel_rfl
theorem QuT {W0:World}:Contract Tryz.prog W0 55 Qcy:=Qa (C:=Qmh) (fn:=Tryz.f55) (Qc (C:=X0) rfl Qe) (Qb (P:=Tryz.prog) ⟨QBa,trivial⟩) follows Tryz.func55 (ent1 QvE) (ent2 QvE) (fun t ys h=>(Qvi t).trans h)
theorem QBC:entB Tryz.f162=true:=by kernel_rfl
theorem QB4 {W0:World}:Contract Tryz.prog W0 162 QfO:=Qa (C:=Qqd) (fn:=Tryz.f162) (Qc (C:=X0) rfl Qe) (Qb (P:=Tryz.prog) ⟨YQ,trivial⟩) follows Tryz.func162 (ent1 QBC) (ent2 QBC) (fun t ys h=>(QBI t).trans h)
theorem QwD:entB Tryz.f115=true:=by kernel_rfl
theorem QwG {W0:World}:Contract Tryz.prog W0 115 QdL:=Qa (C:=Qna) (fn:=Tryz.f115) (Qc (C:=X0) rfl Qe) (Qb (P:=Tryz.prog) ⟨Qh2,QB4,trivial⟩) follows Tryz.func115 (ent1 QwD) (ent2 QwD) (fun t ys h=>(Qx6 t).trans h)
theorem QzN:entB Tryz.f206=true:=by kernel_rfl
theorem Qjn {W0:World}:Contract Tryz.prog W0 206 QaU:=Qa (C:=Qn4) (fn:=Tryz.f206) (Qc (C:=X0) rfl Qe) (Qb (P:=Tryz.prog) trivial) follows Tryz.func206 (ent1 QzN) (ent2 QzN) (fun t ys h=>(QAN t).trans h)
theorem QsO:entB Tryz.f207=true:=by kernel_rfl
theorem Qhq {W0:World}:Contract Tryz.prog W0 207 YV:=Qa (C:=QkN) (fn:=Tryz.f207) (Qc (C:=X0) rfl Qe) (Qb (P:=Tryz.prog) trivial) follows Tryz.func207 (ent1 QsO) (ent2 QsO) (fun t ys h=>(Qry t).trans h)
theorem QzQ:entB Tryz.f208=true:=by kernel_rfl
theorem QAZ {W0:World}:Contract Tryz.prog W0 208 Qez:=Qa (C:=Qn2) (fn:=Tryz.f208) (Qc (C:=X0) rfl Qe) (Qb (P:=Tryz.prog) ⟨Qjn,Qhq,trivial⟩) follows Tryz.func208 (ent1 QzQ) (ent2 QzQ) (fun t ys h=>(QAV t).trans h)
theorem QtZ:entB Tryz.f209=true:=by kernel_rfl
theorem Qu9 {W0:World}:Contract Tryz.prog W0 209 Qcd:=Qa (C:=QlU) (fn:=Tryz.f209) (Qc (C:=X0) rfl Qe) (Qb (P:=Tryz.prog) ⟨Qh6,Qjn,Qhq,trivial⟩) follows Tryz.func209 (ent1 QtZ) (ent2 QtZ) (fun t ys h=>(QtS t).trans h)
theorem Qut:entB Tryz.f163=true:=by kernel_rfl
theorem Quj {W0:World}:Contract Tryz.prog W0 163 Qca:=Qa (C:=Qmd) (fn:=Tryz.f163) (Qc (C:=X0) rfl Qe) (Qb (P:=Tryz.prog) ⟨QhT,Qnb,Qnd,Qjn,Qhq,QAZ,Qu9,trivial⟩) follows Tryz.func163 (ent1 Qut) (ent2 Qut) (fun t ys h=>(QvA t).trans h)
theorem QuS:entB Tryz.f116=true:=by kernel_rfl
theorem QuW {W0:World}:Contract Tryz.prog W0 116 Qcz:=Qa (C:=Ql7) (fn:=Tryz.f116) (Qc (C:=X0) rfl Qe) (Qb (P:=Tryz.prog) ⟨Quj,trivial⟩) follows Tryz.func116 (ent1 QuS) (ent2 QuS) (fun t ys h=>(Quh t).trans h)
theorem QBv:entB Tryz.f75=true:=by kernel_rfl
theorem QBA {W0:World}:Contract Tryz.prog W0 75 QfS:=Qa (C:=Qp7) (fn:=Tryz.f75) (Qc (C:=X0) rfl Qe) (Qb (P:=Tryz.prog) ⟨QwG,QuW,trivial⟩) follows Tryz.func75 (ent1 QBv) (ent2 QBv) (fun t ys h=>(QBD t).trans h)
theorem Qvg:entB Tryz.f76=true:=by kernel_rfl
theorem QtT {W0:World}:Contract Tryz.prog W0 76 QcE:=Qa (C:=QlY) (fn:=Tryz.f76) (Qc (C:=X0) rfl Qe) (Qb (P:=Tryz.prog) ⟨QcB,trivial⟩) follows Tryz.func76 (ent1 Qvg) (ent2 Qvg) (fun t ys h=>(Qu1 t).trans h)
theorem QB2:entB Tryz.f160=true:=by kernel_rfl
theorem QkZ {W0:World}:Contract Tryz.prog W0 160 QbP:=Qa (C:=QpY) (fn:=Tryz.f160) (Qc (C:=X0) rfl Qe) (Qb (P:=Tryz.prog) trivial) follows Tryz.func160 (ent1 QB2) (ent2 QB2) (fun t ys h=>(QBB t).trans h)
theorem Qr9:entB Tryz.f110=true:=by kernel_rfl
theorem Qsd {W0:World}:Contract Tryz.prog W0 110 Qby:=Qa (C:=Qkx) (fn:=Tryz.f110) (Qc (C:=X0) rfl Qe) (Qb (P:=Tryz.prog) ⟨QcB,QkZ,trivial⟩) follows Tryz.func110 (ent1 Qr9) (ent2 Qr9) (fun t ys h=>(Qsu t).trans h)
theorem Qyb:entB Tryz.f161=true:=by kernel_rfl
theorem QwN {W0:World}:Contract Tryz.prog W0 161 QdG:=Qa (C:=Qm3) (fn:=Tryz.f161) (Qc (C:=X0) rfl Qe) (Qb (P:=Tryz.prog) ⟨QkZ,trivial⟩) follows Tryz.func161 (ent1 Qyb) (ent2 Qyb) (fun t ys h=>(Qxo t).trans h)
theorem Qw7:entB Tryz.f111=true:=by kernel_rfl
theorem QxD {W0:World}:Contract Tryz.prog W0 111 QdC:=Qa (C:=Qno) (fn:=Tryz.f111) (Qc (C:=X0) rfl Qe) (Qb (P:=Tryz.prog) ⟨QcB,QkZ,QwN,trivial⟩) follows Tryz.func111 (ent1 Qw7) (ent2 Qw7) (fun t ys h=>(Qxk t).trans h)
theorem QwT:entB Tryz.f61=true:=by kernel_rfl
theorem Qyv {W0:World}:Contract Tryz.prog W0 61 QdH:=Qa (C:=Qnn) (fn:=Tryz.f61) (Qc (C:=X0) rfl Qe) (Qb (P:=Tryz.prog) ⟨QuC,QuT,QBA,QtT,Qsd,QxD,trivial⟩) follows Tryz.func61 (ent1 QwT) (ent2 QwT) (fun t ys h=>(QwK t).trans h)
theorem Qx9:entB Tryz.f43=true:=by kernel_rfl
theorem Qxq {W0:World}:Contract Tryz.prog W0 43 Qd0:=Qa (C:=QnF) (fn:=Tryz.f43) (Qc (C:=X0) rfl Qe) (Qb (P:=Tryz.prog) ⟨Qh2,Qt3,Qyv,trivial⟩) follows Tryz.func43 (ent1 Qx9) (ent2 Qx9) (fun t ys h=>(Qys t).trans h)
theorem QqA:entB Tryz.f44=true:=by kernel_rfl
theorem Qru {W0:World}:Contract Tryz.prog W0 44 QaL:=Qa (C:=QjQ) (fn:=Tryz.f44) (Qc (C:=X0) rfl Qe) (Qb (P:=Tryz.prog) trivial) follows Tryz.func44 (ent1 QqA) (ent2 QqA) (fun t ys h=>(Qqo t).trans h)
theorem QwE:entB Tryz.f79=true:=by kernel_rfl
theorem QxT {W0:World}:Contract Tryz.prog W0 79 Qdp:=Qa (C:=Qnx) (fn:=Tryz.f79) (Qc (C:=X0) rfl Qe) (Qb (P:=Tryz.prog) trivial) follows Tryz.func79 (ent1 QwE) (ent2 QwE) (fun t ys h=>(QyI t).trans h)
theorem QtN:entB Tryz.f45=true:=by kernel_rfl
theorem QtR {W0:World}:Contract Tryz.prog W0 45 QcJ:=Qa (C:=Qlw) (fn:=Tryz.f45) (Qc (C:=X0) rfl Qe) (Qb (P:=Tryz.prog) ⟨QxT,trivial⟩) follows Tryz.func45 (ent1 QtN) (ent2 QtN) (fun t ys h=>(QtE t).trans h)
theorem Qsb:entB Tryz.f12=true:=by kernel_rfl
theorem Qr1 {W0:World}:Contract Tryz.prog W0 12 Qbx:=Qa (C:=Qkm) (fn:=Tryz.f12) (Qc (C:=X0) rfl Qe) (Qb (P:=Tryz.prog) ⟨Qru,QtR,trivial⟩) follows Tryz.func12 (ent1 Qsb) (ent2 Qsb) (fun t ys h=>(QsD t).trans h)
theorem Qz7:entB Tryz.f119=true:=by kernel_rfl
theorem QoN {W0:World}:Contract Tryz.prog W0 119 Qcx:=Qa (C:=Qow) (fn:=Tryz.f119) (Qc (C:=X0) rfl Qe) (Qb (P:=Tryz.prog) trivial) follows Tryz.func119 (ent1 Qz7) (ent2 Qz7) (fun t ys h=>(Qzl t).trans h)
theorem QrM:entB Tryz.f14=true:=by kernel_rfl
theorem QkM {W0:World}:Contract Tryz.prog W0 14 J7:=Qa (C:=Qki) (fn:=Tryz.f14) (Qc (C:=X0) rfl Qe) (Qb (P:=Tryz.prog) trivial) follows Tryz.func14 (ent1 QrM) (ent2 QrM) (fun t ys h=>(Qsp t).trans h)
theorem Qyc:entB Tryz.f165=true:=by kernel_rfl
theorem Qyw {W0:World}:Contract Tryz.prog W0 165 Qdw:=Qa (C:=Qnq) (fn:=Tryz.f165) (Qc (C:=X0) rfl Qe) (Qb (P:=Tryz.prog) ⟨QkM,trivial⟩) follows Tryz.func165 (ent1 Qyc) (ent2 Qyc) (fun t ys h=>(Qya t).trans h)
theorem Qzp:entB Tryz.f120=true:=by kernel_rfl
theorem Qza {W0:World}:Contract Tryz.prog W0 120 QeK:=Qa (C:=Qn9) (fn:=Tryz.f120) (Qc (C:=X0) rfl Qe) (Qb (P:=Tryz.prog) ⟨Qyw,trivial⟩) follows Tryz.func120 (ent1 Qzp) (ent2 Qzp) (fun t ys h=>(QBl t).trans h)
theorem QxI:entB Tryz.f80=true:=by kernel_rfl
theorem Qwv {W0:World}:Contract Tryz.prog W0 80 QdS:=Qa (C:=Qm4) (fn:=Tryz.f80) (Qc (C:=X0) rfl Qe) (Qb (P:=Tryz.prog) ⟨QoN,Qza,trivial⟩) follows Tryz.func80 (ent1 QxI) (ent2 QxI) (fun t ys h=>(Qwy t).trans h)
theorem QvF:entB Tryz.f46=true:=by kernel_rfl
theorem Qtm {W0:World}:Contract Tryz.prog W0 46 Qce:=Qa (C:=QlA) (fn:=Tryz.f46) (Qc (C:=X0) rfl Qe) (Qb (P:=Tryz.prog) ⟨Qwv,trivial⟩) follows Tryz.func46 (ent1 QvF) (ent2 QvF) (fun t ys h=>(Qtv t).trans h)
theorem Qsw:entB Tryz.f81=true:=by kernel_rfl
theorem Qth {W0:World}:Contract Tryz.prog W0 81 Qbv:=Qa (C:=QkE) (fn:=Tryz.f81) (Qc (C:=X0) rfl Qe) (Qb (P:=Tryz.prog) ⟨QoN,trivial⟩) follows Tryz.func81 (ent1 Qsw) (ent2 Qsw) (fun t ys h=>(QsC t).trans h)
theorem QqC:entB Tryz.f47=true:=by kernel_rfl
theorem Qq6 {W0:World}:Contract Tryz.prog W0 47 QaC:=Qa (C:=QjD) (fn:=Tryz.f47) (Qc (C:=X0) rfl Qe) (Qb (P:=Tryz.prog) ⟨Qth,trivial⟩) follows Tryz.func47 (ent1 QqC) (ent2 QqC) (fun t ys h=>(QqZ t).trans h)
theorem QvD:entB Tryz.f13=true:=by kernel_rfl
theorem Qt9 {W0:World}:Contract Tryz.prog W0 13 Qct:=Qa (C:=Ql6) (fn:=Tryz.f13) (Qc (C:=X0) rfl Qe) (Qb (P:=Tryz.prog) ⟨Qtm,Qq6,trivial⟩) follows Tryz.func13 (ent1 QvD) (ent2 QvD) (fun t ys h=>(QvW t).trans h)
theorem QxW:entB Tryz.f123=true:=by kernel_rfl
theorem ZA {W0:World}:Contract Tryz.prog W0 123 Q4:=Qa (C:=Qm5) (fn:=Tryz.f123) (Qc (C:=X0) rfl Qe) (Qb (P:=Tryz.prog) trivial) follows Tryz.func123 (ent1 QxW) (ent2 QxW) (fun t ys h=>(Qym t).trans h)
theorem Qzr:entB Tryz.f114=true:=by kernel_rfl
theorem Qg5 {W0:World}:Contract Tryz.prog W0 114 JJ:=Qa (C:=Qoy) (fn:=Tryz.f114) (Qc (C:=X0) rfl Qe) (Qb (P:=Tryz.prog) ⟨ZA,trivial⟩) follows Tryz.func114 (ent1 Qzr) (ent2 Qzr) (fun t ys h=>(QAO t).trans h)
theorem Qww:entB Tryz.f121=true:=by kernel_rfl
theorem QyE {W0:World}:Contract Tryz.prog W0 121 Qdy:=Qa (C:=Qnl) (fn:=Tryz.f121) (Qc (C:=X0) rfl Qe) (Qb (P:=Tryz.prog) ⟨ZA,trivial⟩) follows Tryz.func121 (ent1 Qww) (ent2 Qww) (fun t ys h=>(Qxh t).trans h)
theorem QhH:entB Tryz.f155=true:=by kernel_rfl
theorem Jf {W0:World}:Contract Tryz.prog W0 155 QY:=Qa (C:=QbX) (fn:=Tryz.f155) (Qc (C:=X0) rfl Qe) (Qb (P:=Tryz.prog) trivial) follows Tryz.func155 (ent1 QhH) (ent2 QhH) (fun t ys h=>(QhJ t).trans h)
theorem Qgz:entB Tryz.f122=true:=by kernel_rfl
theorem Qgv {W0:World}:Contract Tryz.prog W0 122 Zq:=Qa (C:=QaE) (fn:=Tryz.f122) (Qc (C:=X0) rfl Qe) (Qb (P:=Tryz.prog) ⟨Jf,trivial⟩) follows Tryz.func122 (ent1 Qgz) (ent2 Qgz) (fun t ys h=>(QgD t).trans h)
theorem Qfn:entB Tryz.f166=true:=by kernel_rfl
theorem QfF {W0:World}:Contract Tryz.prog W0 166 Zb:=Qa (C:=JX) (fn:=Tryz.f166) (Qc (C:=X0) rfl Qe) (Qb (P:=Tryz.prog) trivial) follows Tryz.func166 (ent1 Qfn) (ent2 Qfn) (fun t ys h=>(Qe8 t).trans h)
theorem Qeb:entB Tryz.f124=true:=by kernel_rfl
theorem Jl {W0:World}:Contract Tryz.prog W0 124 QJ:=Qa (C:=Jm) (fn:=Tryz.f124) (Qc (C:=X0) rfl Qe) (Qb (P:=Tryz.prog) ⟨QfF,trivial⟩) follows Tryz.func124 (ent1 Qeb) (ent2 Qeb) (fun t ys h=>(Qee t).trans h)
theorem QoQ:entB Tryz.f82=true:=by kernel_rfl
theorem QnS {W0:World}:Contract Tryz.prog W0 82 JS:=Qa (C:=QiG) (fn:=Tryz.f82) (Qc (C:=X0) rfl Qe) (Qb (P:=Tryz.prog) ⟨Qg5,QyE,Qgv,ZA,Jl,trivial⟩) follows Tryz.func82 (ent1 QoQ) (ent2 QoQ) (fun t ys h=>(Qog t).trans h)
theorem Qr0:entB Tryz.f159=true:=by kernel_rfl
theorem Qhd {W0:World}:Contract Tryz.prog W0 159 Y9:=Qa (C:=QkJ) (fn:=Tryz.f159) (Qc (C:=X0) rfl Qe) (Qb (P:=Tryz.prog) ⟨ZA,trivial⟩) follows Tryz.func159 (ent1 Qr0) (ent2 Qr0) (fun t ys h=>(Qsc t).trans h)
theorem QBF:entB Tryz.f180=true:=by kernel_rfl
theorem Qqg {W0:World}:Contract Tryz.prog W0 180 Qd4:=Qa (C:=Qp5) (fn:=Tryz.f180) (Qc (C:=X0) rfl Qe) (Qb (P:=Tryz.prog) ⟨ZA,trivial⟩) follows Tryz.func180 (ent1 QBF) (ent2 QBF) (fun t ys h=>(QBJ t).trans h)
theorem Qzb:entB Tryz.f167=true:=by kernel_rfl
theorem QjP {W0:World}:Contract Tryz.prog W0 167 QaA:=Qa (C:=QnR) (fn:=Tryz.f167) (Qc (C:=X0) rfl Qe) (Qb (P:=Tryz.prog) ⟨ZA,Qqg,trivial⟩) follows Tryz.func167 (ent1 Qzb) (ent2 Qzb) (fun t ys h=>(QAv t).trans h)
theorem QgW:entB Tryz.f257=true:=by kernel_rfl
theorem QgZ {W0:World}:Contract Tryz.prog W0 257 Zs:=Qa (C:=Qa2) (fn:=Tryz.f257) (Qc (C:=X0) rfl Qe) (Qb (P:=Tryz.prog) trivial) follows Tryz.func257 (ent1 QgW) (ent2 QgW) (fun t ys h=>(QgY t).trans h)
theorem QfN:entB Tryz.f231=true:=by kernel_rfl
theorem QfM {W0:World}:Contract Tryz.prog W0 231 Zf:=Qa (C:=Qak) (fn:=Tryz.f231) (Qc (C:=X0) rfl Qe) (Qb (P:=Tryz.prog) ⟨QgZ,trivial⟩) follows Tryz.func231 (ent1 QfN) (ent2 QfN) (fun t ys h=>(QfL t).trans h)
theorem QpD:entB Tryz.f232=true:=by kernel_rfl
theorem Qpp {W0:World}:Contract Tryz.prog W0 232 Qam:=Qa (C:=QiT) (fn:=Tryz.f232) (Qc (C:=X0) rfl Qe) (Qb (P:=Tryz.prog) ⟨Qg5,trivial⟩) follows Tryz.func232 (ent1 QpD) (ent2 QpD) (fun t ys h=>(Qpu t).trans h)
theorem Qt2:entB Tryz.f211=true:=by kernel_rfl
theorem QvJ {W0:World}:Contract Tryz.prog W0 211 Qcj:=Qa (C:=Qll) (fn:=Tryz.f211) (Qc (C:=X0) rfl Qe) (Qb (P:=Tryz.prog) ⟨QfM,Qpp,trivial⟩) follows Tryz.func211 (ent1 Qt2) (ent2 Qt2) (fun t ys h=>(QtX t).trans h)
theorem Qs3:entB Tryz.f212=true:=by kernel_rfl
theorem QrG {W0:World}:Contract Tryz.prog W0 212 QbF:=Qa (C:=Qkw) (fn:=Tryz.f212) (Qc (C:=X0) rfl Qe) (Qb (P:=Tryz.prog) trivial) follows Tryz.func212 (ent1 Qs3) (ent2 Qs3) (fun t ys h=>(Qtb t).trans h)
theorem Qrn:entB Tryz.f168=true:=by kernel_rfl
theorem Qgy {W0:World}:Contract Tryz.prog W0 168 YE:=Qa (C:=Qjz) (fn:=Tryz.f168) (Qc (C:=X0) rfl Qe) (Qb (P:=Tryz.prog) ⟨ZA,Qhd,QvJ,QrG,trivial⟩) follows Tryz.func168 (ent1 Qrn) (ent2 Qrn) (fun t ys h=>(QqJ t).trans h)
theorem Qpt:entB Tryz.f223=true:=by kernel_rfl
theorem QpM {W0:World}:Contract Tryz.prog W0 223 Qai:=Qa (C:=QiU) (fn:=Tryz.f223) (Qc (C:=X0) rfl Qe) (Qb (P:=Tryz.prog) trivial) follows Tryz.func223 (ent1 Qpt) (ent2 Qpt) (fun t ys h=>(QpJ t).trans h)
theorem QnN:entB Tryz.f189=true:=by kernel_rfl
theorem QhK {W0:World}:Contract Tryz.prog W0 189 Yt:=Qa (C:=QhN) (fn:=Tryz.f189) (Qc (C:=X0) rfl Qe) (Qb (P:=Tryz.prog) ⟨QpM,trivial⟩) follows Tryz.func189 (ent1 QnN) (ent2 QnN) (fun t ys h=>(QnH t).trans h)
theorem QAd:entB Tryz.f213=true:=by kernel_rfl
theorem QAa {W0:World}:Contract Tryz.prog W0 213 Qe0:=Qa (C:=Qor) (fn:=Tryz.f213) (Qc (C:=X0) rfl Qe) (Qb (P:=Tryz.prog) trivial) follows Tryz.func213 (ent1 QAd) (ent2 QAd) (fun t ys h=>(QAq t).trans h)
theorem Qn7:entB Tryz.f169=true:=by kernel_rfl
theorem QeT {W0:World}:Contract Tryz.prog W0 169 Z8:=Qa (C:=Qio) (fn:=Tryz.f169) (Qc (C:=X0) rfl Qe) (Qb (P:=Tryz.prog) ⟨QhK,QAa,trivial⟩) follows Tryz.func169 (ent1 Qn7) (ent2 Qn7) (fun t ys h=>(Qoo t).trans h)
theorem QpH:entB Tryz.f125=true:=by kernel_rfl
theorem Qpx {W0:World}:Contract Tryz.prog W0 125 Qaf:=Qa (C:=QiV) (fn:=Tryz.f125) (Qc (C:=X0) rfl Qe) (Qb (P:=Tryz.prog) ⟨ZA,Qhd,QjP,Qgy,QeT,trivial⟩) follows Tryz.func125 (ent1 QpH) (ent2 QpH) (fun t ys h=>(Qps t).trans h)
theorem Qb0:entB Tryz.f214=true:=by kernel_rfl
theorem YC {W0:World}:Contract Tryz.prog W0 214 QA:=Qa (C:=YD) (fn:=Tryz.f214) (Qc (C:=X0) rfl Qe) (Qb (P:=Tryz.prog) trivial) follows Tryz.func214 (ent1 Qb0) (ent2 Qb0) (fun t ys h=>(QbY t).trans h)
theorem Qa6:entB Tryz.f170=true:=by kernel_rfl
theorem Ym {W0:World}:Contract Tryz.prog W0 170 Qw:=Qa (C:=Yk) (fn:=Tryz.f170) (Qc (C:=X0) rfl Qe) (Qb (P:=Tryz.prog) ⟨YC,trivial⟩) follows Tryz.func170 (ent1 Qa6) (ent2 Qa6) (fun t ys h=>(Qa3 t).trans h)
theorem QkX:entB Tryz.f171=true:=by kernel_rfl
theorem Qk5 {W0:World}:Contract Tryz.prog W0 171 Yy:=Qa (C:=QfQ) (fn:=Tryz.f171) (Qc (C:=X0) rfl Qe) (Qb (P:=Tryz.prog) trivial) follows Tryz.func171 (ent1 QkX) (ent2 QkX) (fun t ys h=>(Qk6 t).trans h)
theorem QnM:entB Tryz.f126=true:=by kernel_rfl
theorem QnQ {W0:World}:Contract Tryz.prog W0 126 Jh:=Qa (C:=QhL) (fn:=Tryz.f126) (Qc (C:=X0) rfl Qe) (Qb (P:=Tryz.prog) ⟨Qg5,QjP,Ym,Qk5,trivial⟩) follows Tryz.func126 (ent1 QnM) (ent2 QnM) (fun t ys h=>(QnO t).trans h)
theorem QpN:entB Tryz.f83=true:=by kernel_rfl
theorem QpG {W0:World}:Contract Tryz.prog W0 83 Qah:=Qa (C:=QiS) (fn:=Tryz.f83) (Qc (C:=X0) rfl Qe) (Qb (P:=Tryz.prog) ⟨ZA,Qpx,QnQ,trivial⟩) follows Tryz.func83 (ent1 QpN) (ent2 QpN) (fun t ys h=>(Qpy t).trans h)
theorem Qq3:entB Tryz.f48=true:=by kernel_rfl
theorem Qqu {W0:World}:Contract Tryz.prog W0 48 QaW:=Qa (C:=QjJ) (fn:=Tryz.f48) (Qc (C:=X0) rfl Qe) (Qb (P:=Tryz.prog) ⟨QnS,QpG,trivial⟩) follows Tryz.func48 (ent1 Qq3) (ent2 Qq3) (fun t ys h=>(Qrl t).trans h)
theorem QnZ:entB Tryz.f172=true:=by kernel_rfl
theorem Qn0 {W0:World}:Contract Tryz.prog W0 172 JG:=Qa (C:=Qif) (fn:=Tryz.f172) (Qc (C:=X0) rfl Qe) (Qb (P:=Tryz.prog) ⟨ZA,trivial⟩) follows Tryz.func172 (ent1 QnZ) (ent2 QnZ) (fun t ys h=>(Qol t).trans h)
theorem Qmx:entB Tryz.f127=true:=by kernel_rfl
theorem QmR {W0:World}:Contract Tryz.prog W0 127 YX:=Qa (C:=Qht) (fn:=Tryz.f127) (Qc (C:=X0) rfl Qe) (Qb (P:=Tryz.prog) ⟨Qn0,trivial⟩) follows Tryz.func127 (ent1 Qmx) (ent2 Qmx) (fun t ys h=>(QmW t).trans h)
theorem QqH:entB Tryz.f151=true:=by kernel_rfl
theorem Qjx {W0:World}:Contract Tryz.prog W0 151 Js:=Qa (C:=QjB) (fn:=Tryz.f151) (Qc (C:=X0) rfl Qe) (Qb (P:=Tryz.prog) trivial) follows Tryz.func151 (ent1 QqH) (ent2 QqH) (fun t ys h=>(Qql t).trans h)
theorem QnJ:entB Tryz.f196=true:=by kernel_rfl
theorem QnI {W0:World} (hT:Lib.TabIs Tryz.prog W0 "internal/strconv.uint64pow10" .u64 Lib.pow10Tab):Contract Tryz.prog W0 196 QhM:=QFb ⟨Tryz.f196,Tryz.func196,(ent1 QnJ),(ent2 QnJ)⟩ hT
theorem QDe:entB Tryz.f152=true:=by kernel_rfl
theorem Qmi {W0:World} (hT:Lib.TabIs Tryz.prog W0 "internal/strconv.uint64pow10" .u64 Lib.pow10Tab):Contract Tryz.prog W0 152 Qdb:=Qa (C:=QsB) (fn:=Tryz.f152) (Qc (C:=X0) rfl Qe) (Qb (P:=Tryz.prog) ⟨QnI hT,trivial⟩) follows Tryz.func152 (ent1 QDe) (ent2 QDe) (fun t ys h=>(QDh t).trans h)
theorem Qvj:entB Tryz.f153=true:=by kernel_rfl
theorem QlV {W0:World}:Contract Tryz.prog W0 153 QhY:=QEn ⟨Tryz.f153,Tryz.func153,(ent1 Qvj),(ent2 Qvj)⟩
theorem QwY:entB Tryz.f200=true:=by kernel_rfl
theorem Qxn {W0:World} (hT:Lib.TabIs Tryz.prog W0 "internal/strconv.uint64pow10" .u64 Lib.pow10Tab):Contract Tryz.prog W0 200 QdA:=Qa (C:=Qnr) (fn:=Tryz.f200) (Qc (C:=X0) rfl Qe) (Qb (P:=Tryz.prog) ⟨Qmi hT,QlV,trivial⟩) follows Tryz.func200 (ent1 QwY) (ent2 QwY) (fun t ys h=>(Qyi t).trans h)
theorem Qtl:entB Tryz.f154=true:=by kernel_rfl
theorem QkD {W0:World} (hT:Lib.TabIs Tryz.prog W0 "internal/strconv.uint64pow10" .u64 Lib.pow10Tab):Contract Tryz.prog W0 154 J6:=Qa (C:=Qkz) (fn:=Tryz.f154) (Qc (C:=X0) rfl Qe) (Qb (P:=Tryz.prog) ⟨Qmi hT,Qxn hT,trivial⟩) follows Tryz.func154 (ent1 Qtl) (ent2 Qtl) (fun t ys h=>(QrC t).trans h)
theorem QxS:entB Tryz.f99=true:=by kernel_rfl
theorem Qnz {W0:World} (hT:Lib.TabIs Tryz.prog W0 "internal/strconv.uint64pow10" .u64 Lib.pow10Tab):Contract Tryz.prog W0 99 Qa8:=Qa (C:=Qnf) (fn:=Tryz.f99) (Qc (C:=X0) rfl Qe) (Qb (P:=Tryz.prog) ⟨Qjx,Qmi hT,QlV,QkD hT,trivial⟩) follows Tryz.func99 (ent1 QxS) (ent2 QxS) (fun t ys h=>(QyB t).trans h)
theorem Qtg:entB Tryz.f173=true:=by kernel_rfl
theorem Qhj {W0:World} (hM:∃m,W0.cell? ⟨0,0,none⟩=some (.int .i64 m)):Contract Tryz.prog W0 173 Qen:=QCS ⟨Tryz.f173,Tryz.func173,(ent1 Qtg),(ent2 Qtg)⟩ hM
theorem QyF:entB Tryz.f174=true:=by kernel_rfl
theorem Qga {W0:World} (hT:Lib.TabIs Tryz.prog W0 "internal/strconv.uint64pow10" .u64 Lib.pow10Tab) (hS:JV Tryz.prog W0):Contract Tryz.prog W0 174 Qdz:=QFp ⟨Tryz.f174,Tryz.func174,(ent1 QyF),(ent2 QyF)⟩ hT hS
theorem QxL:entB Tryz.f175=true:=by kernel_rfl
theorem Qm8 {W0:World} (hM:∃m,W0.cell? ⟨0,0,none⟩=some (.int .i64 m)):Contract Tryz.prog W0 175 QiM:=QEI ⟨Tryz.f175,Tryz.func175,(ent1 QxL),(ent2 QxL)⟩ hM
theorem QuJ:entB Tryz.f239=true:=by kernel_rfl
theorem Qup {W0:World} (hT:Lib.TabIs Tryz.prog W0 "internal/strconv.uint64pow10" .u64 Lib.pow10Tab) (hM:∃m,W0.cell? ⟨0,0,none⟩=some (.int .i64 m)) (hS:JV Tryz.prog W0):Contract Tryz.prog W0 239 Qcq:=Qa (C:=Ql5) (fn:=Tryz.f239) (Qc (C:=X0) rfl Qe) (Qb (P:=Tryz.prog) ⟨Qhj hM,Qga hT hS,trivial⟩) follows Tryz.func239 (ent1 QuJ) (ent2 QuJ) (fun t ys h=>(Qvx t).trans h)
theorem Qsz:entB Tryz.f218=true:=by kernel_rfl
theorem QrP {W0:World} (hT:Lib.TabIs Tryz.prog W0 "internal/strconv.uint64pow10" .u64 Lib.pow10Tab) (hM:∃m,W0.cell? ⟨0,0,none⟩=some (.int .i64 m)) (hS:JV Tryz.prog W0):Contract Tryz.prog W0 218 Qbq:=Qa (C:=QkB) (fn:=Tryz.f218) (Qc (C:=X0) rfl Qe) (Qb (P:=Tryz.prog) ⟨QkD hT,Qgy,Qhj hM,Qga hT hS,Qup hT hM hS,trivial⟩) follows Tryz.func218 (ent1 Qsz) (ent2 Qsz) (fun t ys h=>(QrE t).trans h)
theorem Qvf:entB Tryz.f176=true:=by kernel_rfl
theorem QuX {W0:World} (hT:Lib.TabIs Tryz.prog W0 "internal/strconv.uint64pow10" .u64 Lib.pow10Tab) (hM:∃m,W0.cell? ⟨0,0,none⟩=some (.int .i64 m)) (hS:JV Tryz.prog W0):Contract Tryz.prog W0 176 Qb7:=Qa (C:=QlS) (fn:=Tryz.f176) (Qc (C:=X0) rfl Qe) (Qb (P:=Tryz.prog) ⟨Qga hT hS,Qm8 hM,QrP hT hM hS,trivial⟩) follows Tryz.func176 (ent1 Qvf) (ent2 Qvf) (fun t ys h=>(QuN t).trans h)
theorem QfY:entB Tryz.f179=true:=by kernel_rfl
theorem QfW {W0:World}:Contract Tryz.prog W0 179 Zk:=Qa (C:=Qas) (fn:=Tryz.f179) (Qc (C:=X0) rfl Qe) (Qb (P:=Tryz.prog) trivial) follows Tryz.func179 (ent1 QfY) (ent2 QfY) (fun t ys h=>(Qf4 t).trans h)
theorem QeX:entB Tryz.f133=true:=by kernel_rfl
theorem Zv {W0:World}:Contract Tryz.prog W0 133 Qv:=Qa (C:=JP) (fn:=Tryz.f133) (Qc (C:=X0) rfl Qe) (Qb (P:=Tryz.prog) ⟨QfW,trivial⟩) follows Tryz.func133 (ent1 QeX) (ent2 QeX) (fun t ys h=>(QeH t).trans h)
theorem QpF:entB Tryz.f219=true:=by kernel_rfl
theorem QpK {W0:World}:Contract Tryz.prog W0 219 Qaj:=Qa (C:=QiQ) (fn:=Tryz.f219) (Qc (C:=X0) rfl Qe) (Qb (P:=Tryz.prog) trivial) follows Tryz.func219 (ent1 QpF) (ent2 QpF) (fun t ys h=>(QpA t).trans h)
theorem QrK:entB Tryz.f220=true:=by kernel_rfl
theorem Qsx {W0:World}:Contract Tryz.prog W0 220 QbE:=Qa (C:=QkH) (fn:=Tryz.f220) (Qc (C:=X0) rfl Qe) (Qb (P:=Tryz.prog) ⟨ZA,Qgy,trivial⟩) follows Tryz.func220 (ent1 QrK) (ent2 QrK) (fun t ys h=>(Qsn t).trans h)
theorem Qvu:entB Tryz.f177=true:=by kernel_rfl
theorem Quq {W0:World}:Contract Tryz.prog W0 177 Qco:=Qa (C:=Qlt) (fn:=Tryz.f177) (Qc (C:=X0) rfl Qe) (Qb (P:=Tryz.prog) ⟨Qg5,ZA,Zv,QjP,QpK,Qsx,trivial⟩) follows Tryz.func177 (ent1 Qvu) (ent2 Qvu) (fun t ys h=>(QtC t).trans h)
theorem Qxd:entB Tryz.f128=true:=by kernel_rfl
theorem Qxu {W0:World} (hT:Lib.TabIs Tryz.prog W0 "internal/strconv.uint64pow10" .u64 Lib.pow10Tab) (hM:∃m,W0.cell? ⟨0,0,none⟩=some (.int .i64 m)) (hS:JV Tryz.prog W0):Contract Tryz.prog W0 128 QdV:=Qa (C:=Qm2) (fn:=Tryz.f128) (Qc (C:=X0) rfl Qe) (Qb (P:=Tryz.prog) ⟨Qnz hT,Qjx,Jf,Qhj hM,Qga hT hS,Qm8 hM,QuX hT hM hS,Quq,trivial⟩) follows Tryz.func128 (ent1 Qxd) (ent2 Qxd) (fun t ys h=>(Qyd t).trans h)
theorem Qo7:entB Tryz.f84=true:=by kernel_rfl
theorem Qiq {W0:World} (hT:Lib.TabIs Tryz.prog W0 "internal/strconv.uint64pow10" .u64 Lib.pow10Tab) (hM:∃m,W0.cell? ⟨0,0,none⟩=some (.int .i64 m)) (hS:JV Tryz.prog W0):Contract Tryz.prog W0 84 YO:=Qa (C:=QiC) (fn:=Tryz.f84) (Qc (C:=X0) rfl Qe) (Qb (P:=Tryz.prog) ⟨QmR,Qxu hT hM hS,trivial⟩) follows Tryz.func84 (ent1 Qo7) (ent2 Qo7) (fun t ys h=>(Qon t).trans h)
theorem QmG:entB Tryz.f56=true:=by kernel_rfl
theorem Qm0 {W0:World} (hT:Lib.TabIs Tryz.prog W0 "internal/strconv.uint64pow10" .u64 Lib.pow10Tab) (hM:∃m,W0.cell? ⟨0,0,none⟩=some (.int .i64 m)) (hS:JV Tryz.prog W0):Contract Tryz.prog W0 56 YU:=Qa (C:=Qhi) (fn:=Tryz.f56) (Qc (C:=X0) rfl Qe) (Qb (P:=Tryz.prog) ⟨Qiq hT hM hS,trivial⟩) follows Tryz.func56 (ent1 QmG) (ent2 QmG) (fun t ys h=>(Qmw t).trans h)
theorem Qou:entB Tryz.f100=true:=by kernel_rfl
theorem QoV {W0:World}:Contract Tryz.prog W0 100 JN:=Qa (C:=Qix) (fn:=Tryz.f100) (Qc (C:=X0) rfl Qe) (Qb (P:=Tryz.prog) ⟨Jf,trivial⟩) follows Tryz.func100 (ent1 Qou) (ent2 Qou) (fun t ys h=>(Qo2 t).trans h)
theorem JB:entB Tryz.f201=true:=by kernel_rfl
theorem JA {W0:World}:Contract Tryz.prog W0 201 Qs:=Qa (C:=ZH) (fn:=Tryz.f201) (Qc (C:=X0) rfl Qe) (Qb (P:=Tryz.prog) trivial) follows Tryz.func201 (ent1 JB) (ent2 JB) (fun t ys h=>(JE t).trans h)
theorem Qn1:entB Tryz.f202=true:=by kernel_rfl
theorem QoE {W0:World}:Contract Tryz.prog W0 202 JQ:=Qa (C:=QiH) (fn:=Tryz.f202) (Qc (C:=X0) rfl Qe) (Qb (P:=Tryz.prog) ⟨QeT,trivial⟩) follows Tryz.func202 (ent1 Qn1) (ent2 Qn1) (fun t ys h=>(Qo6 t).trans h)
theorem QrB:entB Tryz.f156=true:=by kernel_rfl
theorem Qtd {W0:World}:Contract Tryz.prog W0 156 QbG:=Qa (C:=Qko) (fn:=Tryz.f156) (Qc (C:=X0) rfl Qe) (Qb (P:=Tryz.prog) ⟨JA,QoE,trivial⟩) follows Tryz.func156 (ent1 QrB) (ent2 QrB) (fun t ys h=>(Qse t).trans h)
theorem Qd7:entB Tryz.f203=true:=by kernel_rfl
theorem Qd5 {W0:World}:Contract Tryz.prog W0 203 Jj:=QEi ⟨Tryz.f203,Tryz.func203,(ent1 Qd7),(ent2 Qd7)⟩
theorem Qqn:entB Tryz.f204=true:=by kernel_rfl
theorem Qqr {W0:World}:Contract Tryz.prog W0 204 QaO:=Qa (C:=Qjs) (fn:=Tryz.f204) (Qc (C:=X0) rfl Qe) (Qb (P:=Tryz.prog) ⟨QeT,trivial⟩) follows Tryz.func204 (ent1 Qqn) (ent2 Qqn) (fun t ys h=>(Qq1 t).trans h)
theorem QxA:entB Tryz.f157=true:=by kernel_rfl
theorem QxJ {W0:World}:Contract Tryz.prog W0 157 QdP:=Qa (C:=QnC) (fn:=Tryz.f157) (Qc (C:=X0) rfl Qe) (Qb (P:=Tryz.prog) ⟨Qd5,Qqr,trivial⟩) follows Tryz.func157 (ent1 QxA) (ent2 QxA) (fun t ys h=>(Qxy t).trans h)
theorem QiA:entB Tryz.f113=true:=by kernel_rfl
theorem Qis {W0:World}:Contract Tryz.prog W0 113 ZK:=Qa (C:=QcS) (fn:=Tryz.f113) (Qc (C:=X0) rfl Qe) (Qb (P:=Tryz.prog) trivial) follows Tryz.func113 (ent1 QiA) (ent2 QiA) (fun t ys h=>(QiK t).trans h)
theorem QvS:entB Tryz.f230=true:=by kernel_rfl
theorem Qtu {W0:World}:Contract Tryz.prog W0 230 Qcg:=Qa (C:=Qlu) (fn:=Tryz.f230) (Qc (C:=X0) rfl Qe) (Qb (P:=Tryz.prog) ⟨Qis,trivial⟩) follows Tryz.func230 (ent1 QvS) (ent2 QvS) (fun t ys h=>(Qt8 t).trans h)
theorem Qwz:entB Tryz.f205=true:=by kernel_rfl
theorem QwX {W0:World}:Contract Tryz.prog W0 205 Qdq:=Qa (C:=Qnm) (fn:=Tryz.f205) (Qc (C:=X0) rfl Qe) (Qb (P:=Tryz.prog) ⟨Qtu,trivial⟩) follows Tryz.func205 (ent1 Qwz) (ent2 Qwz) (fun t ys h=>(QwS t).trans h)
theorem Qsv:entB Tryz.f158=true:=by kernel_rfl
theorem QrV {W0:World}:Contract Tryz.prog W0 158 QbD:=Qa (C:=Qkn) (fn:=Tryz.f158) (Qc (C:=X0) rfl Qe) (Qb (P:=Tryz.prog) ⟨QwX,trivial⟩) follows Tryz.func158 (ent1 Qsv) (ent2 Qsv) (fun t ys h=>(QrX t).trans h)
theorem Qvl:entB Tryz.f101=true:=by kernel_rfl
theorem QuA {W0:World}:Contract Tryz.prog W0 101 QcK:=Qa (C:=QlQ) (fn:=Tryz.f101) (Qc (C:=X0) rfl Qe) (Qb (P:=Tryz.prog) ⟨Qtd,QxJ,QrV,trivial⟩) follows Tryz.func101 (ent1 Qvl) (ent2 Qvl) (fun t ys h=>(Qvr t).trans h)
theorem QxG:entB Tryz.f102=true:=by kernel_rfl
theorem Qyj {W0:World}:Contract Tryz.prog W0 102 QdF:=Qa (C:=Qm9) (fn:=Tryz.f102) (Qc (C:=X0) rfl Qe) (Qb (P:=Tryz.prog) ⟨Qhd,trivial⟩) follows Tryz.func102 (ent1 QxG) (ent2 QxG) (fun t ys h=>(QxF t).trans h)
theorem Qlr:entB Tryz.f106=true:=by kernel_rfl
theorem QgJ {W0:World}:Contract Tryz.prog W0 106 Z6:=Qa (C:=QgT) (fn:=Tryz.f106) (Qc (C:=X0) rfl Qe) (Qb (P:=Tryz.prog) ⟨Jl,trivial⟩) follows Tryz.func106 (ent1 Qlr) (ent2 Qlr) (fun t ys h=>(Qls t).trans h)
theorem Qlx:entB Tryz.f103=true:=by kernel_rfl
theorem Qla {W0:World}:Contract Tryz.prog W0 103 YI:=Qa (C:=QgL) (fn:=Tryz.f103) (Qc (C:=X0) rfl Qe) (Qb (P:=Tryz.prog) ⟨QgJ,trivial⟩) follows Tryz.func103 (ent1 Qlx) (ent2 Qlx) (fun t ys h=>(Qlg t).trans h)
theorem Qzm:entB Tryz.f104=true:=by kernel_rfl
theorem QzJ {W0:World}:Contract Tryz.prog W0 104 QeV:=Qa (C:=Qob) (fn:=Tryz.f104) (Qc (C:=X0) rfl Qe) (Qb (P:=Tryz.prog) trivial) follows Tryz.func104 (ent1 Qzm) (ent2 Qzm) (fun t ys h=>(QzC t).trans h)
theorem Qw2:entB Tryz.f105=true:=by kernel_rfl
theorem Qxs {W0:World}:Contract Tryz.prog W0 105 Qdx:=Qa (C:=Qnk) (fn:=Tryz.f105) (Qc (C:=X0) rfl Qe) (Qb (P:=Tryz.prog) trivial) follows Tryz.func105 (ent1 Qw2) (ent2 Qw2) (fun t ys h=>(Qx8 t).trans h)
theorem Qlz:entB Tryz.f57=true:=by kernel_rfl
theorem Qmc {W0:World} (hT:Lib.TabIs Tryz.prog W0 "internal/strconv.uint64pow10" .u64 Lib.pow10Tab):Contract Tryz.prog W0 57 YN:=Qa (C:=QgS) (fn:=Tryz.f57) (Qc (C:=X0) rfl Qe) (Qb (P:=Tryz.prog) ⟨Qnz hT,QoV,QuA,Qyj,Qla,QzJ,Qxs,QgJ,trivial⟩) follows Tryz.func57 (ent1 Qlz) (ent2 Qlz) (fun t ys h=>(Qlp t).trans h)
theorem Qj1:entB Tryz.f58=true:=by kernel_rfl
theorem Qj0 {W0:World}:Contract Tryz.prog W0 58 Yl:=Qa (C:=QfH) (fn:=Tryz.f58) (Qc (C:=X0) rfl Qe) (Qb (P:=Tryz.prog) trivial) follows Tryz.func58 (ent1 Qj1) (ent2 Qj1) (fun t ys h=>(QjY t).trans h)
theorem Qik:entB Tryz.f129=true:=by kernel_rfl
theorem Qiu {W0:World}:Contract Tryz.prog W0 129 ZN:=Qa (C:=QcO) (fn:=Tryz.f129) (Qc (C:=X0) rfl Qe) (Qb (P:=Tryz.prog) trivial) follows Tryz.func129 (ent1 Qik) (ent2 Qik) (fun t ys h=>(Qip t).trans h)
theorem QhC:entB Tryz.f85=true:=by kernel_rfl
theorem Qg3 {W0:World}:Contract Tryz.prog W0 85 Zu:=Qa (C:=Qbr) (fn:=Tryz.f85) (Qc (C:=X0) rfl Qe) (Qb (P:=Tryz.prog) ⟨Qiu,trivial⟩) follows Tryz.func85 (ent1 QhC) (ent2 QhC) (fun t ys h=>(QhD t).trans h)
theorem Qfs:entB Tryz.f130=true:=by kernel_rfl
theorem QfB {W0:World}:Contract Tryz.prog W0 130 Zc:=Qa (C:=Qac) (fn:=Tryz.f130) (Qc (C:=X0) rfl Qe) (Qb (P:=Tryz.prog) trivial) follows Tryz.func130 (ent1 Qfs) (ent2 Qfs) (fun t ys h=>(Qft t).trans h)
theorem Qea:entB Tryz.f86=true:=by kernel_rfl
theorem Ji {W0:World}:Contract Tryz.prog W0 86 QK:=Qa (C:=Jk) (fn:=Tryz.f86) (Qc (C:=X0) rfl Qe) (Qb (P:=Tryz.prog) ⟨QfB,trivial⟩) follows Tryz.func86 (ent1 Qea) (ent2 Qea) (fun t ys h=>(Qd9 t).trans h)
theorem Qeu:entB Tryz.f178=true:=by kernel_rfl
theorem Qev {W0:World}:Contract Tryz.prog W0 178 Q3:=Qa (C:=Jz) (fn:=Tryz.f178) (Qc (C:=X0) rfl Qe) (Qb (P:=Tryz.prog) trivial) follows Tryz.func178 (ent1 Qeu) (ent2 Qeu) (fun t ys h=>(Qex t).trans h)
theorem Qdm:entB Tryz.f131=true:=by kernel_rfl
theorem Qde {W0:World}:Contract Tryz.prog W0 131 QU:=Qa (C:=Y3) (fn:=Tryz.f131) (Qc (C:=X0) rfl Qe) (Qb (P:=Tryz.prog) ⟨Qev,trivial⟩) follows Tryz.func131 (ent1 Qdm) (ent2 Qdm) (fun t ys h=>(Qc7 t).trans h)
theorem QsU:entB Tryz.f132=true:=by kernel_rfl
theorem QrA {W0:World}:Contract Tryz.prog W0 132 Qbe:=Qa (C:=QkA) (fn:=Tryz.f132) (Qc (C:=X0) rfl Qe) (Qb (P:=Tryz.prog) ⟨Zv,trivial⟩) follows Tryz.func132 (ent1 QsU) (ent2 QsU) (fun t ys h=>(Qs4 t).trans h)
theorem QBh:entB Tryz.f88=true:=by kernel_rfl
theorem Qzn {W0:World}:Contract Tryz.prog W0 88 QeJ:=Qa (C:=Qot) (fn:=Tryz.f88) (Qc (C:=X0) rfl Qe) (Qb (P:=Tryz.prog) ⟨Qde,QrA,trivial⟩) follows Tryz.func88 (ent1 QBh) (ent2 QBh) (fun t ys h=>(QBi t).trans h)
theorem Jw:entB Tryz.f187=true:=by kernel_rfl
theorem Jq {W0:World}:Contract Tryz.prog W0 187 Qr:=Qa (C:=ZC) (fn:=Tryz.f187) (Qc (C:=X0) rfl Qe) (Qb (P:=Tryz.prog) trivial) follows Tryz.func187 (ent1 Jw) (ent2 Jw) (fun t ys h=>(Jt t).trans h)
theorem QmD:entB Tryz.f188=true:=by kernel_rfl
theorem QmK {W0:World}:Contract Tryz.prog W0 188 Y7:=Qa (C:=Qhl) (fn:=Tryz.f188) (Qc (C:=X0) rfl Qe) (Qb (P:=Tryz.prog) ⟨QhK,trivial⟩) follows Tryz.func188 (ent1 QmD) (ent2 QmD) (fun t ys h=>(QmH t).trans h)
theorem QpI:entB Tryz.f136=true:=by kernel_rfl
theorem QiR {W0:World}:Contract Tryz.prog W0 136 Jb:=Qa (C:=QiP) (fn:=Tryz.f136) (Qc (C:=X0) rfl Qe) (Qb (P:=Tryz.prog) ⟨Jq,QmK,trivial⟩) follows Tryz.func136 (ent1 QpI) (ent2 QpI) (fun t ys h=>(QpO t).trans h)
theorem Qdu:entB Tryz.f181=true:=by kernel_rfl
theorem QdY {W0:World}:Contract Tryz.prog W0 181 QW:=Qa (C:=Jd) (fn:=Tryz.f181) (Qc (C:=X0) rfl Qe) (Qb (P:=Tryz.prog) trivial) follows Tryz.func181 (ent1 Qdu) (ent2 Qdu) (fun t ys h=>(QdN t).trans h)
theorem QcX:entB Tryz.f182=true:=by kernel_rfl
theorem Qc5 {W0:World}:Contract Tryz.prog W0 182 YY:=QEO ⟨Tryz.f182,Tryz.func182,(ent1 QcX),(ent2 QcX)⟩
theorem QbM:entB Tryz.f183=true:=by kernel_rfl
theorem QbW {W0:World}:Contract Tryz.prog W0 183 QN:=Qa (C:=Yx) (fn:=Tryz.f183) (Qc (C:=X0) rfl Qe) (Qb (P:=Tryz.prog) ⟨YC,trivial⟩) follows Tryz.func183 (ent1 QbM) (ent2 QbM) (fun t ys h=>(QbS t).trans h)
theorem Qdd:entB Tryz.f186=true:=by kernel_rfl
theorem QcY {W0:World}:Contract Tryz.prog W0 186 Ja:=QEK ⟨Tryz.f186,Tryz.func186,(ent1 Qdd),(ent2 Qdd)⟩
theorem Qlm:entB Tryz.f184=true:=by kernel_rfl
theorem QlK {W0:World}:Contract Tryz.prog W0 184 YL:=Qa (C:=QgI) (fn:=Tryz.f184) (Qc (C:=X0) rfl Qe) (Qb (P:=Tryz.prog) ⟨Zv,trivial⟩) follows Tryz.func184 (ent1 Qlm) (ent2 Qlm) (fun t ys h=>(QlW t).trans h)
theorem QlF:entB Tryz.f185=true:=by kernel_rfl
theorem QlJ {W0:World}:Contract Tryz.prog W0 185 YJ:=Qa (C:=QgM) (fn:=Tryz.f185) (Qc (C:=X0) rfl Qe) (Qb (P:=Tryz.prog) trivial) follows Tryz.func185 (ent1 QlF) (ent2 QlF) (fun t ys h=>(Ql4 t).trans h)
theorem QoL:entB Tryz.f134=true:=by kernel_rfl
theorem QoW {W0:World}:Contract Tryz.prog W0 134 JM:=Qa (C:=Qiy) (fn:=Tryz.f134) (Qc (C:=X0) rfl Qe) (Qb (P:=Tryz.prog) ⟨QiR,Ym,Qqg,QdY,Qc5,QbW,QlK,QlJ,QcY,trivial⟩) follows Tryz.func134 (ent1 QoL) (ent2 QoL) (fun t ys h=>(Qn3 t).trans h)
theorem QiE:entB Tryz.f135=true:=by kernel_rfl
theorem QiI {W0:World}:Contract Tryz.prog W0 135 ZL:=Qa (C:=QcV) (fn:=Tryz.f135) (Qc (C:=X0) rfl Qe) (Qb (P:=Tryz.prog) trivial) follows Tryz.func135 (ent1 QiE) (ent2 QiE) (fun t ys h=>(Qiw t).trans h)
theorem Qig:entB Tryz.f137=true:=by kernel_rfl
theorem Qie {W0:World}:Contract Tryz.prog W0 137 ZM:=Qa (C:=QcQ) (fn:=Tryz.f137) (Qc (C:=X0) rfl Qe) (Qb (P:=Tryz.prog) ⟨Zv,trivial⟩) follows Tryz.func137 (ent1 Qig) (ent2 Qig) (fun t ys h=>(Qit t).trans h)
theorem QjM:entB Tryz.f89=true:=by kernel_rfl
theorem Qjm {W0:World}:Contract Tryz.prog W0 89 Z7:=Qa (C:=QeD) (fn:=Tryz.f89) (Qc (C:=X0) rfl Qe) (Qb (P:=Tryz.prog) ⟨Ji,QoW,QiI,QiR,Qie,trivial⟩) follows Tryz.func89 (ent1 QjM) (ent2 QjM) (fun t ys h=>(Qju t).trans h)
theorem Qh1:entB Tryz.f87=true:=by kernel_rfl
theorem QhP {W0:World}:Contract Tryz.prog W0 87 ZD:=Qa (C:=Qcu) (fn:=Tryz.f87) (Qc (C:=X0) rfl Qe) (Qb (P:=Tryz.prog) ⟨Qzn,trivial⟩) follows Tryz.func87 (ent1 Qh1) (ent2 Qh1) (fun t ys h=>(QhO t).trans h)
theorem Qi0:entB Tryz.f49=true:=by kernel_rfl
theorem Qi3 {W0:World} (hT:Lib.TabIs Tryz.prog W0 "internal/strconv.uint64pow10" .u64 Lib.pow10Tab) (hM:∃m,W0.cell? ⟨0,0,none⟩=some (.int .i64 m)) (hS:JV Tryz.prog W0):Contract Tryz.prog W0 49 ZX:=Qa (C:=Qel) (fn:=Tryz.f49) (Qc (C:=X0) rfl Qe) (Qb (P:=Tryz.prog) ⟨Qm0 hT hM hS,Qmc hT,Qj0,Qiq hT hM hS,Qg3,Ji,QhP,Qjm,trivial⟩) follows Tryz.func49 (ent1 Qi0) (ent2 Qi0) (fun t ys h=>(Qi7 t).trans h)
theorem Qqh:entB Tryz.f15=true:=by kernel_rfl
theorem QqB {W0:World} (hT:Lib.TabIs Tryz.prog W0 "internal/strconv.uint64pow10" .u64 Lib.pow10Tab) (hM:∃m,W0.cell? ⟨0,0,none⟩=some (.int .i64 m)) (hS:JV Tryz.prog W0):Contract Tryz.prog W0 15 QaN:=Qa (C:=QjU) (fn:=Tryz.f15) (Qc (C:=X0) rfl Qe) (Qb (P:=Tryz.prog) ⟨Qqu,Qi3 hT hM hS,trivial⟩) follows Tryz.func15 (ent1 Qqh) (ent2 Qqh) (fun t ys h=>(QqQ t).trans h)
theorem Qrt:entB Tryz.f50=true:=by kernel_rfl
theorem QqW {W0:World}:Contract Tryz.prog W0 50 QaB:=Qa (C:=Qjv) (fn:=Tryz.f50) (Qc (C:=X0) rfl Qe) (Qb (P:=Tryz.prog) trivial) follows Tryz.func50 (ent1 Qrt) (ent2 Qrt) (fun t ys h=>(QqU t).trans h)
theorem QwJ:entB Tryz.f90=true:=by kernel_rfl
theorem Qyn {W0:World}:Contract Tryz.prog W0 90 QdR:=Qa (C:=Qng) (fn:=Tryz.f90) (Qc (C:=X0) rfl Qe) (Qb (P:=Tryz.prog) trivial) follows Tryz.func90 (ent1 QwJ) (ent2 QwJ) (fun t ys h=>(QwF t).trans h)
theorem Quv:entB Tryz.f51=true:=by kernel_rfl
theorem QuF {W0:World}:Contract Tryz.prog W0 51 Qcc:=Qa (C:=Qlv) (fn:=Tryz.f51) (Qc (C:=X0) rfl Qe) (Qb (P:=Tryz.prog) ⟨Qyn,trivial⟩) follows Tryz.func51 (ent1 Quv) (ent2 Quv) (fun t ys h=>(Qvw t).trans h)
theorem Qr6:entB Tryz.f16=true:=by kernel_rfl
theorem QsF {W0:World}:Contract Tryz.prog W0 16 Qbu:=Qa (C:=Qj7) (fn:=Tryz.f16) (Qc (C:=X0) rfl Qe) (Qb (P:=Tryz.prog) ⟨QqW,QuF,trivial⟩) follows Tryz.func16 (ent1 Qr6) (ent2 Qr6) (fun t ys h=>(Qsl t).trans h)
theorem QzA:entB Tryz.f138=true:=by kernel_rfl
theorem QoJ {W0:World}:Contract Tryz.prog W0 138 QcI:=Qa (C:=Qo3) (fn:=Tryz.f138) (Qc (C:=X0) rfl Qe) (Qb (P:=Tryz.prog) trivial) follows Tryz.func138 (ent1 QzA) (ent2 QzA) (fun t ys h=>(QBk t).trans h)
theorem Qsr:entB Tryz.f18=true:=by kernel_rfl
theorem Qka {W0:World}:Contract Tryz.prog W0 18 J3:=Qa (C:=QkF) (fn:=Tryz.f18) (Qc (C:=X0) rfl Qe) (Qb (P:=Tryz.prog) trivial) follows Tryz.func18 (ent1 Qsr) (ent2 Qsr) (fun t ys h=>(Qso t).trans h)
theorem Qxw:entB Tryz.f190=true:=by kernel_rfl
theorem Qxb {W0:World}:Contract Tryz.prog W0 190 QdE:=Qa (C:=Qnv) (fn:=Tryz.f190) (Qc (C:=X0) rfl Qe) (Qb (P:=Tryz.prog) ⟨Qka,trivial⟩) follows Tryz.func190 (ent1 Qxw) (ent2 Qxw) (fun t ys h=>(Qw8 t).trans h)
theorem QA9:entB Tryz.f139=true:=by kernel_rfl
theorem QAb {W0:World}:Contract Tryz.prog W0 139 QeI:=Qa (C:=QoR) (fn:=Tryz.f139) (Qc (C:=X0) rfl Qe) (Qb (P:=Tryz.prog) ⟨Qxb,trivial⟩) follows Tryz.func139 (ent1 QA9) (ent2 QA9) (fun t ys h=>(QAK t).trans h)
theorem Qxa:entB Tryz.f91=true:=by kernel_rfl
theorem QxE {W0:World}:Contract Tryz.prog W0 91 Qdr:=Qa (C:=Qnp) (fn:=Tryz.f91) (Qc (C:=X0) rfl Qe) (Qb (P:=Tryz.prog) ⟨QoJ,QAb,trivial⟩) follows Tryz.func91 (ent1 Qxa) (ent2 Qxa) (fun t ys h=>(QxR t).trans h)
theorem QvN:entB Tryz.f52=true:=by kernel_rfl
theorem QuE {W0:World}:Contract Tryz.prog W0 52 QcL:=Qa (C:=QlT) (fn:=Tryz.f52) (Qc (C:=X0) rfl Qe) (Qb (P:=Tryz.prog) ⟨QxE,trivial⟩) follows Tryz.func52 (ent1 QvN) (ent2 QvN) (fun t ys h=>(Quo t).trans h)
theorem Qsh:entB Tryz.f92=true:=by kernel_rfl
theorem Qr2 {W0:World}:Contract Tryz.prog W0 92 Qbf:=Qa (C:=Qkl) (fn:=Tryz.f92) (Qc (C:=X0) rfl Qe) (Qb (P:=Tryz.prog) ⟨QoJ,trivial⟩) follows Tryz.func92 (ent1 Qsh) (ent2 Qsh) (fun t ys h=>(Qtk t).trans h)
theorem Qqm:entB Tryz.f53=true:=by kernel_rfl
theorem Qrw {W0:World}:Contract Tryz.prog W0 53 QaI:=Qa (C:=Qjq) (fn:=Tryz.f53) (Qc (C:=X0) rfl Qe) (Qb (P:=Tryz.prog) ⟨Qr2,trivial⟩) follows Tryz.func53 (ent1 Qqm) (ent2 Qqm) (fun t ys h=>(Qq9 t).trans h)
theorem QuQ:entB Tryz.f17=true:=by kernel_rfl
theorem Quw {W0:World}:Contract Tryz.prog W0 17 Qcp:=Qa (C:=QlD) (fn:=Tryz.f17) (Qc (C:=X0) rfl Qe) (Qb (P:=Tryz.prog) ⟨QuE,Qrw,trivial⟩) follows Tryz.func17 (ent1 QuQ) (ent2 QuQ) (fun t ys h=>(Quy t).trans h)
theorem QJd:entB Tryz.f68=true:=by kernel_rfl
theorem QI8 {W0:World} (hT:Lib.TabIs Tryz.prog W0 "internal/strconv.uint64pow10" .u64 Lib.pow10Tab) (hM:∃m,W0.cell? ⟨0,0,none⟩=some (.int .i64 m)) (hS:JV Tryz.prog W0):Contract Tryz.prog W0 68 QIb:=Qa (C:=QIJ) (fn:=Tryz.f68) (Qc (C:=X0) rfl Qe) (Qb (P:=Tryz.prog) ⟨Qi3 hT hM hS,Qis,trivial⟩) follows Tryz.func68 (ent1 QJd) (ent2 QJd) (fun t ys h=>(QI7 t).trans h)
theorem QJm:entB Tryz.f24=true:=by kernel_rfl
theorem QJn {W0:World}:Contract Tryz.prog W0 24 QIf:=Qa (C:=QIL) (fn:=Tryz.f24) (Qc (C:=X0) rfl Qe) (Qb (P:=Tryz.prog) ⟨Qka,trivial⟩) follows Tryz.func24 (ent1 QJm) (ent2 QJm) (fun t ys h=>(QJk t).trans h)
theorem QJ6:entB Tryz.f112=true:=by kernel_rfl
theorem QKc {W0:World}:Contract Tryz.prog W0 112 QIw:=Qa (C:=QIW) (fn:=Tryz.f112) (Qc (C:=X0) rfl Qe) (Qb (P:=Tryz.prog) trivial) follows Tryz.func112 (ent1 QJ6) (ent2 QJ6) (fun t ys h=>(QKa t).trans h)
theorem QJq:entB Tryz.f63=true:=by kernel_rfl
theorem QJv {W0:World}:Contract Tryz.prog W0 63 QIi:=Qa (C:=QIN) (fn:=Tryz.f63) (Qc (C:=X0) rfl Qe) (Qb (P:=Tryz.prog) ⟨QKc,trivial⟩) follows Tryz.func63 (ent1 QJq) (ent2 QJq) (fun t ys h=>(QJw t).trans h)
theorem QJV:entB Tryz.f64=true:=by kernel_rfl
theorem QJM {W0:World}:Contract Tryz.prog W0 64 QIt:=Qa (C:=QIU) (fn:=Tryz.f64) (Qc (C:=X0) rfl Qe) (Qb (P:=Tryz.prog) trivial) follows Tryz.func64 (ent1 QJV) (ent2 QJV) (fun t ys h=>(QJX t).trans h)
theorem QJI:entB Tryz.f25=true:=by kernel_rfl
theorem QJE {W0:World}:Contract Tryz.prog W0 25 QIl:=Qa (C:=QIO) (fn:=Tryz.f25) (Qc (C:=X0) rfl Qe) (Qb (P:=Tryz.prog) ⟨QJv,QJM,trivial⟩) follows Tryz.func25 (ent1 QJI) (ent2 QJI) (fun t ys h=>(QJH t).trans h)
theorem QJK:entB Tryz.f27=true:=by kernel_rfl
theorem QIF {W0:World}:Contract Tryz.prog W0 27 QH6:=Qa (C:=QIP) (fn:=Tryz.f27) (Qc (C:=X0) rfl Qe) (Qb (P:=Tryz.prog) trivial) follows Tryz.func27 (ent1 QJK) (ent2 QJK) (fun t ys h=>(QJD t).trans h)
theorem QJY:entB Tryz.f65=true:=by kernel_rfl
theorem QJP {W0:World}:Contract Tryz.prog W0 65 QIr:=Qa (C:=QIS) (fn:=Tryz.f65) (Qc (C:=X0) rfl Qe) (Qb (P:=Tryz.prog) ⟨QIF,trivial⟩) follows Tryz.func65 (ent1 QJY) (ent2 QJY) (fun t ys h=>(QJW t).trans h)
theorem QJy:entB Tryz.f66=true:=by kernel_rfl
theorem QJx {W0:World}:Contract Tryz.prog W0 66 QIh:=Qa (C:=QIM) (fn:=Tryz.f66) (Qc (C:=X0) rfl Qe) (Qb (P:=Tryz.prog) trivial) follows Tryz.func66 (ent1 QJy) (ent2 QJy) (fun t ys h=>(QJu t).trans h)
theorem QJU:entB Tryz.f26=true:=by kernel_rfl
theorem QJR {W0:World}:Contract Tryz.prog W0 26 QIs:=Qa (C:=QIT) (fn:=Tryz.f26) (Qc (C:=X0) rfl Qe) (Qb (P:=Tryz.prog) ⟨QJP,QJx,trivial⟩) follows Tryz.func26 (ent1 QJU) (ent2 QJU) (fun t ys h=>(QJZ t).trans h)
theorem QJc:entB Tryz.f28=true:=by kernel_rfl
theorem QJa {W0:World}:Contract Tryz.prog W0 28 QIe:=Qa (C:=QII) (fn:=Tryz.f28) (Qc (C:=X0) rfl Qe) (Qb (P:=Tryz.prog) ⟨QIF,trivial⟩) follows Tryz.func28 (ent1 QJc) (ent2 QJc) (fun t ys h=>(QI6 t).trans h)
theorem QJJ:entB Tryz.f67=true:=by kernel_rfl
theorem QJG {W0:World}:Contract Tryz.prog W0 67 QIm:=Qa (C:=QIR) (fn:=Tryz.f67) (Qc (C:=X0) rfl Qe) (Qb (P:=Tryz.prog) trivial) follows Tryz.func67 (ent1 QJJ) (ent2 QJJ) (fun t ys h=>(QJF t).trans h)
theorem QJg:entB Tryz.f29=true:=by kernel_rfl
theorem QJh {W0:World}:Contract Tryz.prog W0 29 QIa:=Qa (C:=QIK) (fn:=Tryz.f29) (Qc (C:=X0) rfl Qe) (Qb (P:=Tryz.prog) ⟨QJG,trivial⟩) follows Tryz.func29 (ent1 QJg) (ent2 QJg) (fun t ys h=>(QJe t).trans h)
theorem QKB:entB Tryz.f30=true:=by kernel_rfl
theorem QKJ {W0:World}:Contract Tryz.prog W0 30 QKt:=Qa (C:=QKD) (fn:=Tryz.f30) (Qc (C:=X0) rfl Qe) (Qb (P:=Tryz.prog) ⟨Qxq,Qyv,trivial⟩) follows Tryz.func30 (ent1 QKB) (ent2 QKB) (fun t ys h=>(QKK t).trans h)
theorem QMa:entB Tryz.f37=true:=by kernel_rfl
theorem QMm {W0:World}:Contract Tryz.prog W0 37 QLX:=Qa (C:=QL9) (fn:=Tryz.f37) (Qc (C:=X0) rfl Qe) (Qb (P:=Tryz.prog) ⟨QKJ,Qxq,QBA,QtT,trivial⟩) follows Tryz.func37 (ent1 QMa) (ent2 QMa) (fun t ys h=>(QMl t).trans h)
theorem QL1:entB Tryz.f77=true:=by kernel_rfl
theorem QMe {W0:World} (hT:Lib.TabIs Tryz.prog W0 "internal/strconv.uint64pow10" .u64 Lib.pow10Tab) (hM:∃m,W0.cell? ⟨0,0,none⟩=some (.int .i64 m)) (hS:JV Tryz.prog W0):Contract Tryz.prog W0 77 QLU:=Qa (C:=QL3) (fn:=Tryz.f77) (Qc (C:=X0) rfl Qe) (Qb (P:=Tryz.prog) ⟨Qm0 hT hM hS,QI8 hT hM hS,Qiq hT hM hS,Qzn,trivial⟩) follows Tryz.func77 (ent1 QL1) (ent2 QL1) (fun t ys h=>(QMd t).trans h)
theorem QL8:entB Tryz.f38=true:=by kernel_rfl
theorem QMi {W0:World} (hT:Lib.TabIs Tryz.prog W0 "internal/strconv.uint64pow10" .u64 Lib.pow10Tab) (hM:∃m,W0.cell? ⟨0,0,none⟩=some (.int .i64 m)) (hS:JV Tryz.prog W0):Contract Tryz.prog W0 38 QLV:=Qa (C:=QL7) (fn:=Tryz.f38) (Qc (C:=X0) rfl Qe) (Qb (P:=Tryz.prog) ⟨QqB hT hM hS,QMe hT hM hS,trivial⟩) follows Tryz.func38 (ent1 QL8) (ent2 QL8) (fun t ys h=>(QMj t).trans h)
theorem QL2:entB Tryz.f8=true:=by kernel_rfl
theorem QMc {W0:World} (hT:Lib.TabIs Tryz.prog W0 "internal/strconv.uint64pow10" .u64 Lib.pow10Tab) (hM:∃m,W0.cell? ⟨0,0,none⟩=some (.int .i64 m)) (hS:JV Tryz.prog W0):Contract Tryz.prog W0 8 QLT:=Qa (C:=QL4) (fn:=Tryz.f8) (Qc (C:=X0) rfl Qe) (Qb (P:=Tryz.prog) ⟨QsJ,Qt4,Qr1,Qt9,QkM,QsF,Quw,Qka,QJn,QJE,QJR,QIF,QJa,QJh,QMm,QMi hT hM hS,trivial⟩) follows Tryz.func8 (ent1 QL2) (ent2 QL2) (fun t ys h=>(QMb t).trans h)
end GL
end Go.Dx

