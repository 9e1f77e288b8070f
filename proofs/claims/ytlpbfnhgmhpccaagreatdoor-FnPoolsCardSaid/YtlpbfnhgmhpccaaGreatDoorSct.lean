/- The contracts of the functions -/
import Derived.Test.YtlpbfnhgmhpccaaGreatDoorSea
import Derived.Test.YtlpbfnhgmhpccaaGreatDoorSeb
import Derived.Test.YtlpbfnhgmhpccaaGreatDoorSec
import Derived.Test.YtlpbfnhgmhpccaaGreatDoorSed
import Derived.Test.YtlpbfnhgmhpccaaGreatDoorSee
import Derived.Test.YtlpbfnhgmhpccaaGreatDoorSef
import Derived.Test.YtlpbfnhgmhpccaaGreatDoorHdSrcW
import Derived.Test.YtlpbfnhgmhpccaaGreatDoorHdDigW136
import Derived.Test.YtlpbfnhgmhpccaaGreatDoorHdSwpW137
import Derived.Test.YtlpbfnhgmhpccaaGreatDoorHdRewW190
import Derived.Test.YtlpbfnhgmhpccaaGreatDoorHdFmtW163
import Derived.Test.YtlpbfnhgmhpccaaGreatDoorHdJoinW115
import Derived.Test.YtlpbfnhgmhpccaaGreatDoorHdSplitW108
import Derived.Test.YtlpbfnhgmhpccaaGreatDoorHdNumW110
import Derived.Test.YtlpbfnhgmhpccaaGreatDoorHdCutW111
import Derived.Test.YtlpbfnhgmhpccaaGreatDoorHdSortW180
import Derived.Test.YtlpbfnhgmhpccaaGreatDoorHdDelW171
import Derived.Test.YtlpbfnhgmhpccaaGreatDoorHdInsW175
import Derived.Test.YtlpbfnhgmhpccaaGreatDoorHdDelC217
set_option linter.unusedVariables false
set_option linter.unusedSimpArgs false
set_option maxRecDepth 100000
set_option maxHeartbeats 0
namespace Go.Dx
open Go.Proofs
namespace GL
theorem mkC {W0:World} {K:Callee} {X:Ctx} {j:FuncId} {fn:Func} (he:EQ X fn K) (I:Qao Tryz.prog W0 K.dm X) (J:Tryz.prog.funcs[j]? = some fn) (hb:entB fn=true) (U:X.tys=X0.tys):Contract Tryz.prog W0 j K:=QdH (C:=X) (fn:=fn) (Qw0 (C:=X0) U QAO) I follows J (ent1 hb) (ent2 hb) (fun t ys h=>(he t).trans h)

theorem QxG {W0:World}:Contract Tryz.prog W0 4 Qkn:=mkC Qw7 (Qa trivial) Tryz.func4 (by kernel_rfl) rfl
theorem QDD:entB Tryz.f15=true:=by kernel_rfl
theorem Qrn {W0:World}:QrB Tryz.prog W0 15 QkV:=QEK
theorem Z4 {W0:World}:Contract Tryz.prog W0 39 Zs:=mkC Qvd (Qa trivial) Tryz.func39 (by kernel_rfl) rfl
theorem Qdl {W0:World}:Contract Tryz.prog W0 17 Qav:=mkC Qwk (Qa ⟨Z4,trivial⟩) Tryz.func17 (by kernel_rfl) rfl
theorem Qjm {W0:World}:Contract Tryz.prog W0 82 Qdq:=mkC Qvm (Qa trivial) Tryz.func82 (by kernel_rfl) rfl
theorem QbI {W0:World}:Contract Tryz.prog W0 84 Jq:=mkC QrG (Qa ⟨Z4,trivial⟩) Tryz.func84 (by kernel_rfl) rfl
theorem Y6 {W0:World}:Contract Tryz.prog W0 132 Z7:=mkC Qr7 (Qa trivial) Tryz.func132 (by kernel_rfl) rfl
theorem Qjr {W0:World}:Contract Tryz.prog W0 134 Qds:=mkC Qwm (Qa ⟨Qdl,Z4,trivial⟩) Tryz.func134 (by kernel_rfl) rfl
theorem Qv7 {W0:World}:Contract Tryz.prog W0 131 Qjx:=mkC Qu7 (Qa ⟨Qdl,Z4,Y6,Qjr,trivial⟩) Tryz.func131 (by kernel_rfl) rfl
theorem QwU {W0:World}:Contract Tryz.prog W0 133 Qkq:=mkC QwJ (Qa trivial) Tryz.func133 (by kernel_rfl) rfl
theorem Qpt {W0:World}:Contract Tryz.prog W0 85 QiP:=mkC QyM (Qa ⟨Z4,QbI,Qv7,Y6,QwU,Qjr,trivial⟩) Tryz.func85 (by kernel_rfl) rfl
theorem Yt {W0:World}:Contract Tryz.prog W0 48 ZP:=mkC Qzk (Qa trivial) Tryz.func48 (by kernel_rfl) rfl
theorem Qa4 {W0:World}:Contract Tryz.prog W0 21 Jj:=mkC Qx7 (Qa ⟨Yt,trivial⟩) Tryz.func21 (by kernel_rfl) rfl
theorem Qlx {W0:World}:Contract Tryz.prog W0 94 QfP:=mkC Qzg (Qa trivial) Tryz.func94 (by kernel_rfl) rfl
theorem Qg2 {W0:World}:Contract Tryz.prog W0 95 QbH:=mkC QrS (Qa trivial) Tryz.func95 (by kernel_rfl) rfl
theorem QcE {W0:World}:Contract Tryz.prog W0 45 JO:=mkC QsD (Qa ⟨Qa4,Yt,Qlx,Qg2,trivial⟩) Tryz.func45 (by kernel_rfl) rfl
theorem Qm9 {W0:World}:Contract Tryz.prog W0 135 Qf7:=mkC QuZ (Qa trivial) Tryz.func135 (by kernel_rfl) rfl
theorem Qk9 {W0:World}:Contract Tryz.prog W0 86 Qd7:=mkC QrM (Qa ⟨QcE,Qlx,Qm9,trivial⟩) Tryz.func86 (by kernel_rfl) rfl
theorem QDA:entB Tryz.f136=true:=by kernel_rfl
theorem QhB {W0:World}:Contract Tryz.prog W0 136 Qee:=QDH 19
theorem Qnp:entB Tryz.f137=true:=by kernel_rfl
theorem Qnw {W0:World}:Contract Tryz.prog W0 137 QjE:=QDl ⟨Tryz.f137,Tryz.func137,(ent1 Qnp),(ent2 Qnp)⟩
theorem QvK {W0:World}:Contract Tryz.prog W0 138 Qjl:=mkC QvD (Qa ⟨QhB,trivial⟩) Tryz.func138 (by kernel_rfl) rfl
theorem Qgb {W0:World}:Contract Tryz.prog W0 87 Qbt:=mkC Qwi (Qa ⟨QhB,Qnw,QvK,trivial⟩) Tryz.func87 (by kernel_rfl) rfl
theorem Qpx {W0:World}:Contract Tryz.prog W0 139 QiK:=mkC Qzs (Qa ⟨Yt,trivial⟩) Tryz.func139 (by kernel_rfl) rfl
theorem Qny {W0:World}:Contract Tryz.prog W0 88 Qge:=mkC QuV (Qa ⟨Qa4,QcE,Qg2,Qm9,Qpx,trivial⟩) Tryz.func88 (by kernel_rfl) rfl
theorem QiQ {W0:World}:Contract Tryz.prog W0 155 QdJ:=mkC QyL (Qa trivial) Tryz.func155 (by kernel_rfl) rfl
theorem Ql0 {W0:World}:Contract Tryz.prog W0 184 Qfd:=mkC QtD (Qa trivial) Tryz.func184 (by kernel_rfl) rfl
theorem Qu0 {W0:World}:Contract Tryz.prog W0 185 Qjq:=mkC Qwj (Qa ⟨QhB,trivial⟩) Tryz.func185 (by kernel_rfl) rfl
theorem QvN {W0:World}:Contract Tryz.prog W0 129 QjA:=mkC QvZ (Qa ⟨Z4,Qjm,QbI,Qpt,Qk9,Qgb,Qny,Y6,QiQ,Ql0,Qu0,trivial⟩) Tryz.func129 (by kernel_rfl) rfl
theorem Qj5 {W0:World}:Contract Tryz.prog W0 146 QeF:=mkC QwF (Qa ⟨Yt,trivial⟩) Tryz.func146 (by kernel_rfl) rfl
theorem Qd0 {W0:World}:Contract Tryz.prog W0 147 Qai:=mkC QrA (Qa ⟨Yt,trivial⟩) Tryz.func147 (by kernel_rfl) rfl
theorem Qik {W0:World}:Contract Tryz.prog W0 195 Qct:=mkC Qt8 (Qa ⟨Qa4,Yt,Qd0,trivial⟩) Tryz.func195 (by kernel_rfl) rfl
theorem Qov {W0:World}:Contract Tryz.prog W0 148 QhJ:=mkC QwB (Qa ⟨Yt,Qik,trivial⟩) Tryz.func148 (by kernel_rfl) rfl
theorem Ql1 {W0:World}:Contract Tryz.prog W0 149 QeV:=mkC QsH (Qa trivial) Tryz.func149 (by kernel_rfl) rfl
theorem QeY {W0:World}:Contract Tryz.prog W0 96 QaV:=mkC QtJ (Qa ⟨Qj5,Qd0,Qov,Ql1,trivial⟩) Tryz.func96 (by kernel_rfl) rfl
theorem Qpi {W0:World}:Contract Tryz.prog W0 191 QiN:=mkC Qza (Qa trivial) Tryz.func191 (by kernel_rfl) rfl
theorem Qnh {W0:World}:Contract Tryz.prog W0 224 Qgj:=mkC Qv4 (Qa trivial) Tryz.func224 (by kernel_rfl) rfl
theorem Qgk {W0:World}:Contract Tryz.prog W0 222 Qbp:=mkC QvM (Qa ⟨Qnh,trivial⟩) Tryz.func222 (by kernel_rfl) rfl
theorem Qxi {W0:World}:Contract Tryz.prog W0 225 QkG:=mkC Qyd (Qa ⟨Ql1,trivial⟩) Tryz.func225 (by kernel_rfl) rfl
theorem Qye {W0:World}:Contract Tryz.prog W0 192 Qky:=mkC QxM (Qa ⟨Qgk,Qnh,Qxi,trivial⟩) Tryz.func192 (by kernel_rfl) rfl
theorem QhE {W0:World}:Contract Tryz.prog W0 140 Qbx:=mkC Qrb (Qa ⟨Yt,QeY,Qd0,Qov,Qpi,Qye,trivial⟩) Tryz.func140 (by kernel_rfl) rfl
theorem Qnf {W0:World}:Contract Tryz.prog W0 150 Qf1:=mkC Qv0 (Qa ⟨QcE,Qpx,trivial⟩) Tryz.func150 (by kernel_rfl) rfl
theorem Qg4 {W0:World}:Contract Tryz.prog W0 226 Qcy:=mkC QxW (Qa trivial) Tryz.func226 (by kernel_rfl) rfl
theorem Qd1 {W0:World}:Contract Tryz.prog W0 227 Qak:=mkC QqU (Qa trivial) Tryz.func227 (by kernel_rfl) rfl
theorem Qth {W0:World}:Contract Tryz.prog W0 281 Qh4:=mkC QtF (Qa ⟨Qa4,Yt,Ql0,trivial⟩) Tryz.func281 (by kernel_rfl) rfl
theorem Qsd {W0:World}:Contract Tryz.prog W0 260 Qiq:=mkC Qr5 (Qa ⟨Qg4,Qd1,Qth,trivial⟩) Tryz.func260 (by kernel_rfl) rfl
theorem QoW {W0:World}:Contract Tryz.prog W0 221 Qfy:=mkC Qpg (Qa ⟨Qsd,trivial⟩) Tryz.func221 (by kernel_rfl) rfl
theorem Qs1 {W0:World}:Contract Tryz.prog W0 186 QhW:=mkC Qr9 (Qa ⟨Qnf,QoW,trivial⟩) Tryz.func186 (by kernel_rfl) rfl
theorem Qyl {W0:World}:Contract Tryz.prog W0 187 Qko:=mkC Qxn (Qa trivial) Tryz.func187 (by kernel_rfl) rfl
theorem Qwg {W0:World}:Contract Tryz.prog W0 188 Qjy:=mkC QvB (Qa ⟨Qgk,trivial⟩) Tryz.func188 (by kernel_rfl) rfl
theorem Qvl {W0:World}:Contract Tryz.prog W0 197 Qjw:=mkC Qvu (Qa ⟨Yt,Qik,trivial⟩) Tryz.func197 (by kernel_rfl) rfl
theorem Qfo {W0:World}:Contract Tryz.prog W0 152 Qa2:=mkC QtP (Qa ⟨Qa4,Yt,Y6,Qj5,Qvl,trivial⟩) Tryz.func152 (by kernel_rfl) rfl
theorem Qys {W0:World}:Contract Tryz.prog W0 228 Qks:=mkC Qyj (Qa ⟨Qg4,Qd1,trivial⟩) Tryz.func228 (by kernel_rfl) rfl
theorem Qs7 {W0:World}:Contract Tryz.prog W0 229 Qid:=mkC Qr8 (Qa ⟨Qik,Qg4,Qd1,trivial⟩) Tryz.func229 (by kernel_rfl) rfl
theorem Qtf {W0:World}:Contract Tryz.prog W0 196 Qic:=mkC QsR (Qa ⟨Qgb,Qnw,Qfo,Qg4,Qd1,Qys,Qs7,trivial⟩) Tryz.func196 (by kernel_rfl) rfl
theorem QtR {W0:World}:Contract Tryz.prog W0 151 QiA:=mkC Qsr (Qa ⟨Qtf,trivial⟩) Tryz.func151 (by kernel_rfl) rfl
theorem Qpw {W0:World}:Contract Tryz.prog W0 98 QiO:=mkC Qzh (Qa ⟨Qnf,QtR,trivial⟩) Tryz.func98 (by kernel_rfl) rfl
theorem QvL {W0:World}:Contract Tryz.prog W0 153 Qjo:=mkC Qv8 (Qa ⟨Qgb,Qfo,trivial⟩) Tryz.func153 (by kernel_rfl) rfl
theorem Qij {W0:World}:Contract Tryz.prog W0 198 QcM:=mkC Qte (Qa ⟨Y6,Qgk,trivial⟩) Tryz.func198 (by kernel_rfl) rfl
theorem Qn9 {W0:World}:Contract Tryz.prog W0 200 Qg3:=mkC QwR (Qa ⟨Qg2,trivial⟩) Tryz.func200 (by kernel_rfl) rfl
theorem Qxg {W0:World}:Contract Tryz.prog W0 199 QkJ:=mkC Qyq (Qa ⟨Qn9,trivial⟩) Tryz.func199 (by kernel_rfl) rfl
theorem Qxs {W0:World}:Contract Tryz.prog W0 201 QkE:=mkC QxQ (Qa trivial) Tryz.func201 (by kernel_rfl) rfl
theorem Qxb {W0:World}:Contract Tryz.prog W0 202 Qku:=mkC QwT (Qa trivial) Tryz.func202 (by kernel_rfl) rfl
theorem Qtu {W0:World}:Contract Tryz.prog W0 154 Qio:=mkC Qtt (Qa ⟨Qjm,Qij,Qxg,Qn9,Qxs,Qxb,trivial⟩) Tryz.func154 (by kernel_rfl) rfl
theorem QlK {W0:World}:Contract Tryz.prog W0 99 QeU:=mkC Qua (Qa ⟨QcE,Qlx,QeY,Qd0,Qfo,QvL,Qtu,trivial⟩) Tryz.func99 (by kernel_rfl) rfl
theorem Qvw {W0:World}:Contract Tryz.prog W0 156 Qjv:=mkC QvS (Qa ⟨QiQ,trivial⟩) Tryz.func156 (by kernel_rfl) rfl
theorem Qna {W0:World}:Contract Tryz.prog W0 102 Qf4:=mkC Qvj (Qa ⟨Y6,QiQ,Qvw,trivial⟩) Tryz.func102 (by kernel_rfl) rfl
theorem Qt3 {W0:World}:Contract Tryz.prog W0 261 QiD:=mkC Qt0 (Qa ⟨QeY,Qfo,Qij,trivial⟩) Tryz.func261 (by kernel_rfl) rfl
theorem Qzo {W0:World}:Contract Tryz.prog W0 282 Qlo:=mkC QyY (Qa trivial) Tryz.func282 (by kernel_rfl) rfl
theorem Qwb {W0:World}:Contract Tryz.prog W0 262 Qjs:=mkC Qu6 (Qa ⟨Qgk,Qzo,trivial⟩) Tryz.func262 (by kernel_rfl) rfl
theorem Qsk {W0:World}:Contract Tryz.prog W0 223 Qir:=mkC Qtz (Qa ⟨QhE,Qpi,Qt3,Qwb,trivial⟩) Tryz.func223 (by kernel_rfl) rfl
theorem Qzj {W0:World}:Contract Tryz.prog W0 189 Qlp:=mkC Qzy (Qa ⟨Qpw,QlK,Qna,Qij,Qsk,trivial⟩) Tryz.func189 (by kernel_rfl) rfl
theorem Qlb:entB Tryz.f190=true:=by kernel_rfl
theorem QqR {W0:World}:Contract Tryz.prog W0 190 QkT:=QCw ⟨Tryz.f190,Tryz.func190,(ent1 Qlb),(ent2 Qlb)⟩
theorem QpV {W0:World}:Contract Tryz.prog W0 130 Qgq:=mkC Qqv (Qa ⟨QhE,Qs1,Qyl,Qwg,Qzj,QqR,trivial⟩) Tryz.func130 (by kernel_rfl) rfl
theorem Qtl {W0:World}:Contract Tryz.prog W0 81 Qiy:=mkC Qub (Qa ⟨QvN,QpV,trivial⟩) Tryz.func81 (by kernel_rfl) rfl
theorem Qn8 {W0:World}:Contract Tryz.prog W0 22 QgY:=mkC QwC (Qa trivial) Tryz.func22 (by kernel_rfl) rfl
theorem Ql9 {W0:World}:Contract Tryz.prog W0 83 QeZ:=mkC QtW (Qa ⟨Qn8,trivial⟩) Tryz.func83 (by kernel_rfl) rfl
theorem Qtv {W0:World}:Contract Tryz.prog W0 97 Qh2:=mkC QsU (Qa ⟨Qa4,Qj5,trivial⟩) Tryz.func97 (by kernel_rfl) rfl
theorem Qsw {W0:World}:Contract Tryz.prog W0 46 QhU:=mkC QsT (Qa ⟨Yt,QeY,Qtv,trivial⟩) Tryz.func46 (by kernel_rfl) rfl
theorem QsK {W0:World}:Contract Tryz.prog W0 100 Qh5:=mkC QsV (Qa ⟨Y6,trivial⟩) Tryz.func100 (by kernel_rfl) rfl
theorem Qrw {W0:World}:Contract Tryz.prog W0 101 QhG:=mkC QrZ (Qa ⟨Y6,QiQ,trivial⟩) Tryz.func101 (by kernel_rfl) rfl
theorem Qnd {W0:World}:Contract Tryz.prog W0 47 Qgm:=mkC Qv5 (Qa ⟨Ql9,Qpw,QlK,QsK,Qrw,Qna,trivial⟩) Tryz.func47 (by kernel_rfl) rfl
theorem QnA {W0:World}:Contract Tryz.prog W0 20 Qf0:=mkC QvO (Qa ⟨QcE,Qsw,Qnd,trivial⟩) Tryz.func20 (by kernel_rfl) rfl
theorem Qtb {W0:World}:Contract Tryz.prog W0 89 Qig:=mkC Qsu (Qa ⟨QnA,Qnd,trivial⟩) Tryz.func89 (by kernel_rfl) rfl
theorem QrU {W0:World}:Contract Tryz.prog W0 38 Qg7:=mkC QrQ (Qa ⟨Z4,Qtl,Qjm,Ql9,QbI,Qpt,Qk9,Qgb,Qny,Qtb,trivial⟩) Tryz.func38 (by kernel_rfl) rfl
theorem Qo3 {W0:World}:Contract Tryz.prog W0 141 QfC:=mkC Qo7 (Qa ⟨Z4,Qjr,trivial⟩) Tryz.func141 (by kernel_rfl) rfl
theorem Qsn {W0:World}:Contract Tryz.prog W0 90 Qim:=mkC Qt1 (Qa ⟨Z4,QbI,QhE,Qo3,trivial⟩) Tryz.func90 (by kernel_rfl) rfl
theorem Qu2 {W0:World}:Contract Tryz.prog W0 40 Qjz:=mkC Qvp (Qa ⟨Qdl,Z4,QbI,Qsn,trivial⟩) Tryz.func40 (by kernel_rfl) rfl
theorem Qs8 {W0:World}:Contract Tryz.prog W0 16 Qh1:=mkC Qse (Qa ⟨Qdl,QrU,Z4,Qu2,trivial⟩) Tryz.func16 (by kernel_rfl) rfl
theorem Qm7 {W0:World}:Contract Tryz.prog W0 5 Qc6:=mkC Qmt (Qx6 ⟨Qs8,Qdl,trivial⟩ ⟨Qrn,trivial⟩) Tryz.func5 (by kernel_rfl) rfl
theorem Zr {W0:World}:Contract Tryz.prog W0 50 Zg:=mkC QvA (Qa trivial) Tryz.func50 (by kernel_rfl) rfl
theorem Qnm {W0:World}:Contract Tryz.prog W0 31 Qgd:=mkC QvW (Qa ⟨Zr,trivial⟩) Tryz.func31 (by kernel_rfl) rfl
theorem QcF {W0:World}:Contract Tryz.prog W0 43 J2:=mkC Qxj (Qa ⟨Zr,trivial⟩) Tryz.func43 (by kernel_rfl) rfl
theorem Jw {W0:World}:Contract Tryz.prog W0 63 ZF:=mkC QhO (Qa trivial) Tryz.func63 (by kernel_rfl) rfl
theorem QgB {W0:World}:Contract Tryz.prog W0 56 YW:=mkC Qgw (Qa ⟨Jw,trivial⟩) Tryz.func56 (by kernel_rfl) rfl
theorem Qe9 {W0:World}:Contract Tryz.prog W0 106 Yx:=mkC QeQ (Qa trivial) Tryz.func106 (by kernel_rfl) rfl
theorem JB {W0:World}:Contract Tryz.prog W0 57 Zm:=mkC QdQ (Qa ⟨Qe9,trivial⟩) Tryz.func57 (by kernel_rfl) rfl
theorem QbF {W0:World}:Contract Tryz.prog W0 25 Y3:=mkC Qn1 (Qa ⟨Qnm,QcF,Zr,QgB,JB,trivial⟩) Tryz.func25 (by kernel_rfl) rfl
theorem QiJ {W0:World}:Contract Tryz.prog W0 60 QdK:=mkC Qzr (Qa ⟨Zr,trivial⟩) Tryz.func60 (by kernel_rfl) rfl
theorem QkL {W0:World}:Contract Tryz.prog W0 51 Qew:=mkC QwV (Qa ⟨Zr,QiJ,trivial⟩) Tryz.func51 (by kernel_rfl) rfl
theorem Qec {W0:World}:Contract Tryz.prog W0 116 Qah:=mkC Qrx (Qa ⟨Zr,trivial⟩) Tryz.func116 (by kernel_rfl) rfl
theorem QgW {W0:World}:Contract Tryz.prog W0 230 Y7:=mkC QgV (Qa trivial) Tryz.func230 (by kernel_rfl) rfl
theorem QfE {W0:World}:Contract Tryz.prog W0 203 YG:=mkC QfD (Qa ⟨QgW,trivial⟩) Tryz.func203 (by kernel_rfl) rfl
theorem QoS {W0:World}:Contract Tryz.prog W0 204 Qfx:=mkC Qpb (Qa ⟨QcF,trivial⟩) Tryz.func204 (by kernel_rfl) rfl
theorem Qtx {W0:World}:Contract Tryz.prog W0 157 QiB:=mkC QtZ (Qa ⟨QfE,QoS,trivial⟩) Tryz.func157 (by kernel_rfl) rfl
theorem QrT {W0:World}:Contract Tryz.prog W0 158 Qg1:=mkC QqS (Qa trivial) Tryz.func158 (by kernel_rfl) rfl
theorem Qgs {W0:World}:Contract Tryz.prog W0 104 Qbf:=mkC Qqz (Qa ⟨Zr,Qec,Qtx,QrT,trivial⟩) Tryz.func104 (by kernel_rfl) rfl
theorem Qyv {W0:World}:Contract Tryz.prog W0 167 Qj8:=mkC Qyw (Qa trivial) Tryz.func167 (by kernel_rfl) rfl
theorem Qpe {W0:World}:Contract Tryz.prog W0 214 QfI:=mkC Qo8 (Qa trivial) Tryz.func214 (by kernel_rfl) rfl
theorem QhR {W0:World}:Contract Tryz.prog W0 168 Qbk:=mkC QnE (Qa ⟨Qpe,trivial⟩) Tryz.func168 (by kernel_rfl) rfl
theorem Qet {W0:World}:Contract Tryz.prog W0 117 Qad:=mkC Qoo (Qa ⟨Qyv,QhR,trivial⟩) Tryz.func117 (by kernel_rfl) rfl
theorem Qpc {W0:World}:Contract Tryz.prog W0 66 QfB:=mkC Qpd (Qa ⟨Zr,QkL,Qgs,Qec,Qet,trivial⟩) Tryz.func66 (by kernel_rfl) rfl
theorem YV {W0:World}:Contract Tryz.prog W0 169 Za:=mkC Qb9 (Qa trivial) Tryz.func169 (by kernel_rfl) rfl
theorem YE {W0:World}:Contract Tryz.prog W0 118 QZ:=mkC Qbm (Qa ⟨YV,trivial⟩) Tryz.func118 (by kernel_rfl) rfl
theorem Qln {W0:World}:Contract Tryz.prog W0 119 QbY:=mkC QlI (Qa trivial) Tryz.func119 (by kernel_rfl) rfl
theorem QnG {W0:World}:Contract Tryz.prog W0 67 QdR:=mkC QnK (Qa ⟨QcF,QkL,YE,Qln,trivial⟩) Tryz.func67 (by kernel_rfl) rfl
theorem QjI {W0:World}:Contract Tryz.prog W0 32 Qcd:=mkC Qo4 (Qa ⟨Zr,Qpc,QnG,trivial⟩) Tryz.func32 (by kernel_rfl) rfl
theorem Qqu {W0:World}:Contract Tryz.prog W0 41 Qgt:=mkC Qqe (Qa ⟨QbF,QjI,trivial⟩) Tryz.func41 (by kernel_rfl) rfl
theorem QnS {W0:World}:Contract Tryz.prog W0 107 QeB:=mkC QoB (Qa ⟨Zr,trivial⟩) Tryz.func107 (by kernel_rfl) rfl
theorem Qhj {W0:World}:Contract Tryz.prog W0 58 QaP:=mkC Qmz (Qa ⟨QnS,trivial⟩) Tryz.func58 (by kernel_rfl) rfl
theorem Qo0 {W0:World}:Contract Tryz.prog W0 49 QfH:=mkC Qpa (Qa trivial) Tryz.func49 (by kernel_rfl) rfl
theorem QfX {W0:World}:Contract Tryz.prog W0 103 YQ:=mkC QfN (Qa trivial) Tryz.func103 (by kernel_rfl) rfl
theorem Zx {W0:World}:Contract Tryz.prog W0 52 QU:=mkC QeD (Qa ⟨QfX,trivial⟩) Tryz.func52 (by kernel_rfl) rfl
theorem Qlf {W0:World}:Contract Tryz.prog W0 53 Qeh:=mkC Qrc (Qa ⟨Zr,Qgs,trivial⟩) Tryz.func53 (by kernel_rfl) rfl
theorem QlN {W0:World}:Contract Tryz.prog W0 23 QeP:=mkC Qsm (Qa ⟨QcF,Qo0,Zr,QkL,Zx,Qlf,trivial⟩) Tryz.func23 (by kernel_rfl) rfl
theorem Qkw {W0:World}:Contract Tryz.prog W0 109 QcX:=mkC Qqi (Qa trivial) Tryz.func109 (by kernel_rfl) rfl
theorem QhS:entB Tryz.f163=true:=by kernel_rfl
theorem QnI {W0:World} (I:Lib.TabIs Tryz.prog W0 "internal/strconv.uint64pow10" .u64 Lib.pow10Tab):Contract Tryz.prog W0 163 QhT:=QCR ⟨Tryz.f163,Tryz.func163,(ent1 QhS),(ent2 QhS)⟩ I
theorem QmC {W0:World} (I:Lib.TabIs Tryz.prog W0 "internal/strconv.uint64pow10" .u64 Lib.pow10Tab):Contract Tryz.prog W0 114 Qhc:=mkC QAN (Qa ⟨QnI I,trivial⟩) Tryz.func114 (by kernel_rfl) rfl
theorem Ql2:entB Tryz.f115=true:=by kernel_rfl
theorem Qmb {W0:World}:Contract Tryz.prog W0 115 Qip:=QCn ⟨Tryz.f115,Tryz.func115,(ent1 Ql2),(ent2 Ql2)⟩
theorem QnB {W0:World} (I:Lib.TabIs Tryz.prog W0 "internal/strconv.uint64pow10" .u64 Lib.pow10Tab):Contract Tryz.prog W0 62 Qgh:=mkC QvF (Qa ⟨QmC I,Qmb,trivial⟩) Tryz.func62 (by kernel_rfl) rfl
theorem Qlg {W0:World} (I:Lib.TabIs Tryz.prog W0 "internal/strconv.uint64pow10" .u64 Lib.pow10Tab):Contract Tryz.prog W0 127 Qeg:=mkC Qrz (Qa ⟨QnB I,QmC I,trivial⟩) Tryz.func127 (by kernel_rfl) rfl
theorem Qne {W0:World} (I:Lib.TabIs Tryz.prog W0 "internal/strconv.uint64pow10" .u64 Lib.pow10Tab):Contract Tryz.prog W0 74 Qgn:=mkC QuT (Qa ⟨Qkw,QmC I,Qmb,Qlg I,trivial⟩) Tryz.func74 (by kernel_rfl) rfl
theorem Qlh:entB Tryz.f108=true:=by kernel_rfl
theorem Qei {W0:World} (I:∃m,W0.cell? ⟨0,0,none⟩=some (.int .i64 m)):Contract Tryz.prog W0 108 QbO:=QAW ⟨Tryz.f108,Tryz.func108,(ent1 Qlh),(ent2 Qlh)⟩ I
theorem Qnq:entB Tryz.f110=true:=by kernel_rfl
theorem Qdu {W0:World} (I:Lib.TabIs Tryz.prog W0 "internal/strconv.uint64pow10" .u64 Lib.pow10Tab) (J:ZT Tryz.prog W0):Contract Tryz.prog W0 110 Qbu:=QDa ⟨Tryz.f110,Tryz.func110,(ent1 Qnq),(ent2 Qnq)⟩ I J
theorem Qno:entB Tryz.f111=true:=by kernel_rfl
theorem Qnt {W0:World} (I:∃m,W0.cell? ⟨0,0,none⟩=some (.int .i64 m)):Contract Tryz.prog W0 111 QjD:=QDe ⟨Tryz.f111,Tryz.func111,(ent1 Qno),(ent2 Qno)⟩ I
theorem Qms {W0:World} (I:Lib.TabIs Tryz.prog W0 "internal/strconv.uint64pow10" .u64 Lib.pow10Tab) (J:∃m,W0.cell? ⟨0,0,none⟩=some (.int .i64 m)) (U:ZT Tryz.prog W0):Contract Tryz.prog W0 170 Qe5:=mkC Qtd (Qa ⟨Qei J,Qdu I U,trivial⟩) Tryz.func170 (by kernel_rfl) rfl
theorem Qq5 {W0:World} (I:Lib.TabIs Tryz.prog W0 "internal/strconv.uint64pow10" .u64 Lib.pow10Tab) (J:∃m,W0.cell? ⟨0,0,none⟩=some (.int .i64 m)) (U:ZT Tryz.prog W0):Contract Tryz.prog W0 162 Qhs:=mkC Qr3 (Qa ⟨Qgs,Qei J,Qdu I U,Qlg I,Qms I J U,trivial⟩) Tryz.func162 (by kernel_rfl) rfl
theorem Qsa {W0:World} (I:Lib.TabIs Tryz.prog W0 "internal/strconv.uint64pow10" .u64 Lib.pow10Tab) (J:∃m,W0.cell? ⟨0,0,none⟩=some (.int .i64 m)) (U:ZT Tryz.prog W0):Contract Tryz.prog W0 112 Qix:=mkC Qti (Qa ⟨Qdu I U,Qnt J,Qq5 I J U,trivial⟩) Tryz.func112 (by kernel_rfl) rfl
theorem Qvt {W0:World} (I:Lib.TabIs Tryz.prog W0 "internal/strconv.uint64pow10" .u64 Lib.pow10Tab) (J:∃m,W0.cell? ⟨0,0,none⟩=some (.int .i64 m)) (U:ZT Tryz.prog W0):Contract Tryz.prog W0 59 Qjt:=mkC Qv3 (Qa ⟨QlN,Jw,Qne I,Qei J,Qkw,Qdu I U,Qnt J,Qsa I J U,trivial⟩) Tryz.func59 (by kernel_rfl) rfl
theorem QbM {W0:World} (I:Lib.TabIs Tryz.prog W0 "internal/strconv.uint64pow10" .u64 Lib.pow10Tab) (J:∃m,W0.cell? ⟨0,0,none⟩=some (.int .i64 m)) (U:ZT Tryz.prog W0):Contract Tryz.prog W0 26 YY:=mkC QoE (Qa ⟨Qhj,Qvt I J U,trivial⟩) Tryz.func26 (by kernel_rfl) rfl
theorem Qht {W0:World} (I:Lib.TabIs Tryz.prog W0 "internal/strconv.uint64pow10" .u64 Lib.pow10Tab) (J:∃m,W0.cell? ⟨0,0,none⟩=some (.int .i64 m)) (U:ZT Tryz.prog W0):Contract Tryz.prog W0 34 QaJ:=mkC QmX (Qa ⟨QbM I J U,trivial⟩) Tryz.func34 (by kernel_rfl) rfl
theorem Qjd {W0:World}:Contract Tryz.prog W0 29 Qby:=mkC Qog (Qa ⟨Jw,trivial⟩) Tryz.func29 (by kernel_rfl) rfl
theorem QcN {W0:World}:Contract Tryz.prog W0 44 YH:=mkC Qjj (Qa trivial) Tryz.func44 (by kernel_rfl) rfl
theorem Qsb {W0:World}:Contract Tryz.prog W0 179 QiE:=mkC QtO (Qa ⟨QcN,trivial⟩) Tryz.func179 (by kernel_rfl) rfl
theorem Qnu {W0:World}:Contract Tryz.prog W0 125 Qgf:=mkC QuW (Qa ⟨Qsb,trivial⟩) Tryz.func125 (by kernel_rfl) rfl
theorem QdY {W0:World}:Contract Tryz.prog W0 121 Qam:=mkC QqK (Qa ⟨Qnu,trivial⟩) Tryz.func121 (by kernel_rfl) rfl
theorem JC:entB Tryz.f180=true:=by kernel_rfl
theorem QdP {W0:World}:Contract Tryz.prog W0 180 JE:=QBE ⟨Tryz.f180,Tryz.func180,(ent1 JC),(ent2 JC)⟩
theorem Qqs {W0:World}:Contract Tryz.prog W0 181 Qgp:=mkC Qql (Qa ⟨Qet,trivial⟩) Tryz.func181 (by kernel_rfl) rfl
theorem Qng {W0:World}:Contract Tryz.prog W0 126 Qgc:=mkC Qvv (Qa ⟨QdP,Qqs,trivial⟩) Tryz.func126 (by kernel_rfl) rfl
theorem JS {W0:World}:Contract Tryz.prog W0 182 Q5:=mkC JW (Qa trivial) Tryz.func182 (by kernel_rfl) rfl
theorem QnZ {W0:World}:Contract Tryz.prog W0 183 Qer:=mkC Qob (Qa ⟨Qet,trivial⟩) Tryz.func183 (by kernel_rfl) rfl
theorem QkX {W0:World}:Contract Tryz.prog W0 128 Qeb:=mkC Qq2 (Qa ⟨JS,QnZ,trivial⟩) Tryz.func128 (by kernel_rfl) rfl
theorem Qh3 {W0:World}:Contract Tryz.prog W0 75 Qcq:=mkC Qtj (Qa ⟨QdY,Qng,QkX,trivial⟩) Tryz.func75 (by kernel_rfl) rfl
theorem Qwf {W0:World}:Contract Tryz.prog W0 76 QjC:=mkC Qwe (Qa ⟨Qec,trivial⟩) Tryz.func76 (by kernel_rfl) rfl
theorem QgS {W0:World}:Contract Tryz.prog W0 80 Qal:=mkC QlY (Qa ⟨JB,trivial⟩) Tryz.func80 (by kernel_rfl) rfl
theorem Qmr {W0:World}:Contract Tryz.prog W0 77 QcL:=mkC QlZ (Qa ⟨QgS,trivial⟩) Tryz.func77 (by kernel_rfl) rfl
theorem Qxh {W0:World}:Contract Tryz.prog W0 78 QkI:=mkC Qyf (Qa trivial) Tryz.func78 (by kernel_rfl) rfl
theorem Qvn {W0:World}:Contract Tryz.prog W0 79 QjB:=mkC Qvh (Qa trivial) Tryz.func79 (by kernel_rfl) rfl
theorem Qcr {W0:World} (I:Lib.TabIs Tryz.prog W0 "internal/strconv.uint64pow10" .u64 Lib.pow10Tab):Contract Tryz.prog W0 35 Y5:=mkC Qmd (Qa ⟨Qjd,Qne I,Qh3,Qwf,Qmr,Qxh,Qvn,QgS,trivial⟩) Tryz.func35 (by kernel_rfl) rfl
theorem Qfw {W0:World}:Contract Tryz.prog W0 36 Jz:=mkC QkN (Qa trivial) Tryz.func36 (by kernel_rfl) rfl
theorem Qi9 {W0:World}:Contract Tryz.prog W0 113 J1:=mkC Qjb (Qa trivial) Tryz.func113 (by kernel_rfl) rfl
theorem QbK {W0:World}:Contract Tryz.prog W0 61 Yf:=mkC Qhx (Qa ⟨Qi9,trivial⟩) Tryz.func61 (by kernel_rfl) rfl
theorem Qe2 {W0:World}:Contract Tryz.prog W0 142 Yw:=mkC Qfq (Qa trivial) Tryz.func142 (by kernel_rfl) rfl
theorem JD {W0:World}:Contract Tryz.prog W0 91 Zn:=mkC QdT (Qa ⟨Qe2,trivial⟩) Tryz.func91 (by kernel_rfl) rfl
theorem Qem {W0:World}:Contract Tryz.prog W0 105 Yh:=mkC Qen (Qa trivial) Tryz.func105 (by kernel_rfl) rfl
theorem Qdc {W0:World}:Contract Tryz.prog W0 54 ZW:=mkC Qda (Qa ⟨Qem,trivial⟩) Tryz.func54 (by kernel_rfl) rfl
theorem QqI {W0:World}:Contract Tryz.prog W0 55 Qg0:=mkC Qq1 (Qa ⟨Zx,trivial⟩) Tryz.func55 (by kernel_rfl) rfl
theorem Qop {W0:World}:Contract Tryz.prog W0 24 Qhn:=mkC Qxr (Qa ⟨Qdc,QqI,trivial⟩) Tryz.func24 (by kernel_rfl) rfl
theorem ZZ {W0:World}:Contract Tryz.prog W0 70 QX:=mkC Qdm (Qa trivial) Tryz.func70 (by kernel_rfl) rfl
theorem JF {W0:World}:Contract Tryz.prog W0 193 Q1:=mkC JL (Qa trivial) Tryz.func193 (by kernel_rfl) rfl
theorem QmU {W0:World}:Contract Tryz.prog W0 194 QcZ:=mkC Qmw (Qa ⟨QhR,trivial⟩) Tryz.func194 (by kernel_rfl) rfl
theorem QjH {W0:World}:Contract Tryz.prog W0 144 Qce:=mkC QoX (Qa ⟨JF,QmU,trivial⟩) Tryz.func144 (by kernel_rfl) rfl
theorem Jp:entB Tryz.f171=true:=by kernel_rfl
theorem QcW {W0:World}:Contract Tryz.prog W0 171 Ja:=QCV ⟨Tryz.f171,Tryz.func171,(ent1 Jp),(ent2 Jp)⟩
theorem QbU {W0:World}:Contract Tryz.prog W0 172 Zy:=mkC Qb0 (Qa ⟨YV,trivial⟩) Tryz.func172 (by kernel_rfl) rfl
theorem Jg:entB Tryz.f175=true:=by kernel_rfl
theorem QcU {W0:World}:Contract Tryz.prog W0 175 Jo:=QDp ⟨Tryz.f175,Tryz.func175,(ent1 Jg),(ent2 Jg)⟩
theorem Qmc {W0:World}:Contract Tryz.prog W0 173 Qck:=mkC Qmm (Qa ⟨Zx,trivial⟩) Tryz.func173 (by kernel_rfl) rfl
theorem Ql3 {W0:World}:Contract Tryz.prog W0 174 QcB:=mkC QlU (Qa trivial) Tryz.func174 (by kernel_rfl) rfl
theorem Qjf {W0:World}:Contract Tryz.prog W0 122 QbL:=mkC Qon (Qa ⟨QiJ,ZZ,YE,QjH,QcW,QbU,Qmc,Ql3,QcU,trivial⟩) Tryz.func122 (by kernel_rfl) rfl
theorem Qi8 {W0:World}:Contract Tryz.prog W0 143 Qab:=mkC Qi2 (Qa trivial) Tryz.func143 (by kernel_rfl) rfl
theorem Qjc {W0:World}:Contract Tryz.prog W0 145 Qac:=mkC Qjh (Qa ⟨Zx,trivial⟩) Tryz.func145 (by kernel_rfl) rfl
theorem QkH {W0:World}:Contract Tryz.prog W0 93 Qa6:=mkC Qkx (Qa ⟨JD,Qjf,Qi8,QjH,Qjc,trivial⟩) Tryz.func93 (by kernel_rfl) rfl
theorem Qiz {W0:World}:Contract Tryz.prog W0 92 JN:=mkC Qh6 (Qa ⟨Qop,trivial⟩) Tryz.func92 (by kernel_rfl) rfl
theorem QjM {W0:World} (I:Lib.TabIs Tryz.prog W0 "internal/strconv.uint64pow10" .u64 Lib.pow10Tab) (J:∃m,W0.cell? ⟨0,0,none⟩=some (.int .i64 m)) (U:ZT Tryz.prog W0):Contract Tryz.prog W0 42 QaM:=mkC QjK (Qa ⟨QbM I J U,Qht I J U,Qcr I,Qfw,QbK,JD,Qiz,QkH,trivial⟩) Tryz.func42 (by kernel_rfl) rfl
theorem Qkt {W0:World} (I:Lib.TabIs Tryz.prog W0 "internal/strconv.uint64pow10" .u64 Lib.pow10Tab) (J:∃m,W0.cell? ⟨0,0,none⟩=some (.int .i64 m)) (U:ZT Tryz.prog W0):Contract Tryz.prog W0 18 QcV:=mkC Qqb (Qa ⟨Qqu,QjM I J U,trivial⟩) Tryz.func18 (by kernel_rfl) rfl
theorem QlC {W0:World}:Contract Tryz.prog W0 19 Qb3:=mkC Qlv (Qa ⟨QcF,QcN,trivial⟩) Tryz.func19 (by kernel_rfl) rfl
theorem QpN {W0:World} (I:Lib.TabIs Tryz.prog W0 "internal/strconv.uint64pow10" .u64 Lib.pow10Tab) (J:∃m,W0.cell? ⟨0,0,none⟩=some (.int .i64 m)) (U:ZT Tryz.prog W0):Contract Tryz.prog W0 6 Qgu:=mkC Qqt (Qa ⟨Qkt I J U,QlC,trivial⟩) Tryz.func6 (by kernel_rfl) rfl
theorem Qp6 {W0:World}:Contract Tryz.prog W0 7 Qgr:=mkC QpO (Qa ⟨QnA,Qa4,Qn8,trivial⟩) Tryz.func7 (by kernel_rfl) rfl
theorem QtL {W0:World}:Contract Tryz.prog W0 8 QhZ:=mkC QtA (Qa ⟨QlN,Qop,trivial⟩) Tryz.func8 (by kernel_rfl) rfl
theorem QyG {W0:World} (I:Lib.TabIs Tryz.prog W0 "internal/strconv.uint64pow10" .u64 Lib.pow10Tab) (J:∃m,W0.cell? ⟨0,0,none⟩=some (.int .i64 m)) (U:ZT Tryz.prog W0):Contract Tryz.prog W0 9 QlF:=mkC Qzp (Qa ⟨QbF,QbM I J U,trivial⟩) Tryz.func9 (by kernel_rfl) rfl
theorem QjG {W0:World}:Contract Tryz.prog W0 27 Qcg:=mkC QoU (Qa ⟨QcF,Zr,QiJ,QbK,trivial⟩) Tryz.func27 (by kernel_rfl) rfl
theorem Qj6 {W0:World} (I:Lib.TabIs Tryz.prog W0 "internal/strconv.uint64pow10" .u64 Lib.pow10Tab):Contract Tryz.prog W0 28 Qc1:=mkC Qqo (Qa ⟨QnB I,trivial⟩) Tryz.func28 (by kernel_rfl) rfl
theorem Qqq {W0:World} (I:Lib.TabIs Tryz.prog W0 "internal/strconv.uint64pow10" .u64 Lib.pow10Tab):Contract Tryz.prog W0 10 Qgy:=mkC QpQ (Qa ⟨QjG,Qj6 I,trivial⟩) Tryz.func10 (by kernel_rfl) rfl
theorem QhM {W0:World}:Contract Tryz.prog W0 64 Jx:=mkC QhN (Qa trivial) Tryz.func64 (by kernel_rfl) rfl
theorem Qe1 {W0:World}:Contract Tryz.prog W0 65 Yv:=mkC Qfe (Qa trivial) Tryz.func65 (by kernel_rfl) rfl
theorem QpJ {W0:World}:Contract Tryz.prog W0 30 QgI:=mkC QpI (Qa ⟨QhM,Qe1,trivial⟩) Tryz.func30 (by kernel_rfl) rfl
theorem Qrf {W0:World}:Contract Tryz.prog W0 11 Qhe:=mkC Qrp (Qa ⟨QbF,Qjd,QpJ,Qnm,trivial⟩) Tryz.func11 (by kernel_rfl) rfl
theorem Qqc {W0:World} (I:Lib.TabIs Tryz.prog W0 "internal/strconv.uint64pow10" .u64 Lib.pow10Tab) (J:∃m,W0.cell? ⟨0,0,none⟩=some (.int .i64 m)) (U:ZT Tryz.prog W0):Contract Tryz.prog W0 120 Qgv:=mkC Qp0 (Qa ⟨QjG,Qj6 I,Qei J,Qdu I U,Qms I J U,trivial⟩) Tryz.func120 (by kernel_rfl) rfl
theorem QlL {W0:World} (I:Lib.TabIs Tryz.prog W0 "internal/strconv.uint64pow10" .u64 Lib.pow10Tab) (J:∃m,W0.cell? ⟨0,0,none⟩=some (.int .i64 m)) (U:ZT Tryz.prog W0):Contract Tryz.prog W0 68 Qcx:=mkC QlM (Qa ⟨Qhj,Qqc I J U,trivial⟩) Tryz.func68 (by kernel_rfl) rfl
theorem Qr1 {W0:World}:Contract Tryz.prog W0 69 Qhr:=mkC QrF (Qa ⟨ZZ,QdY,trivial⟩) Tryz.func69 (by kernel_rfl) rfl
theorem Qdr {W0:World}:Contract Tryz.prog W0 218 Z0:=mkC QdA (Qa trivial) Tryz.func218 (by kernel_rfl) rfl
theorem QcC {W0:World}:Contract Tryz.prog W0 177 ZK:=mkC Qcu (Qa ⟨Qdr,trivial⟩) Tryz.func177 (by kernel_rfl) rfl
theorem QqW {W0:World}:Contract Tryz.prog W0 178 QhA:=mkC QrW (Qa trivial) Tryz.func178 (by kernel_rfl) rfl
theorem Qoc {W0:World}:Contract Tryz.prog W0 124 QhD:=mkC QxV (Qa ⟨QcC,QqW,trivial⟩) Tryz.func124 (by kernel_rfl) rfl
theorem Qlc {W0:World}:Contract Tryz.prog W0 73 Qd4:=mkC Qry (Qa ⟨Qlf,QiJ,Qec,QdY,Qoc,Qnu,Qng,trivial⟩) Tryz.func73 (by kernel_rfl) rfl
theorem J6:entB Tryz.f217=true:=by kernel_rfl
theorem Qeo {W0:World}:Contract Tryz.prog W0 217 Qaa:=QC4 ⟨Tryz.f217,Tryz.func217,(ent1 J6),(ent2 J6)⟩
theorem Qqh {W0:World}:Contract Tryz.prog W0 176 QgF:=mkC Qqm (Qa ⟨QdY,QkX,Qeo,trivial⟩) Tryz.func176 (by kernel_rfl) rfl
theorem Qtm {W0:World}:Contract Tryz.prog W0 123 Qie:=mkC QsJ (Qa ⟨Qlc,Qh3,Qoc,Qqh,trivial⟩) Tryz.func123 (by kernel_rfl) rfl
theorem Qn2 {W0:World} (I:Lib.TabIs Tryz.prog W0 "internal/strconv.uint64pow10" .u64 Lib.pow10Tab) (J:∃m,W0.cell? ⟨0,0,none⟩=some (.int .i64 m)) (U:ZT Tryz.prog W0):Contract Tryz.prog W0 71 QeJ:=mkC Qof (Qa ⟨QbM I J U,Qcr I,Qh3,Qjf,Qtm,trivial⟩) Tryz.func71 (by kernel_rfl) rfl
theorem Qrd {W0:World}:Contract Tryz.prog W0 72 Qhf:=mkC QrN (Qa trivial) Tryz.func72 (by kernel_rfl) rfl
theorem Qmg {W0:World} (I:Lib.TabIs Tryz.prog W0 "internal/strconv.uint64pow10" .u64 Lib.pow10Tab) (J:∃m,W0.cell? ⟨0,0,none⟩=some (.int .i64 m)) (U:ZT Tryz.prog W0):Contract Tryz.prog W0 33 QcA:=mkC Qmh (Qa ⟨QlL I J U,Qr1,ZZ,Qn2 I J U,Qrd,Qlc,trivial⟩) Tryz.func33 (by kernel_rfl) rfl
theorem QnN {W0:World} (I:Lib.TabIs Tryz.prog W0 "internal/strconv.uint64pow10" .u64 Lib.pow10Tab) (J:∃m,W0.cell? ⟨0,0,none⟩=some (.int .i64 m)) (U:ZT Tryz.prog W0):Contract Tryz.prog W0 12 QdS:=mkC QnJ (Qa ⟨QbF,QjI,Qmg I J U,trivial⟩) Tryz.func12 (by kernel_rfl) rfl
theorem Qvb {W0:World} (I:Lib.TabIs Tryz.prog W0 "internal/strconv.uint64pow10" .u64 Lib.pow10Tab) (J:∃m,W0.cell? ⟨0,0,none⟩=some (.int .i64 m)) (U:ZT Tryz.prog W0):Contract Tryz.prog W0 13 Qjn:=mkC Qve (Qa ⟨Qkt I J U,Qht I J U,Qcr I,Qfw,trivial⟩) Tryz.func13 (by kernel_rfl) rfl
theorem Qx3 {W0:World}:Contract Tryz.prog W0 37 Qkm:=mkC QwA (Qa trivial) Tryz.func37 (by kernel_rfl) rfl
theorem Qs9 {W0:World}:Contract Tryz.prog W0 14 QiH:=mkC Qtw (Qa ⟨Qx3,trivial⟩) Tryz.func14 (by kernel_rfl) rfl
theorem Qsc {W0:World} (I:Lib.TabIs Tryz.prog W0 "internal/strconv.uint64pow10" .u64 Lib.pow10Tab) (J:∃m,W0.cell? ⟨0,0,none⟩=some (.int .i64 m)) (U:ZT Tryz.prog W0):Contract Tryz.prog W0 3 QhY:=mkC QtH (Qa ⟨QxG,Qm7,QpN I J U,Qp6,QtL,QyG I J U,Qqq I,Qrf,QnN I J U,Qvb I J U,Qs9,trivial⟩) Tryz.func3 (by kernel_rfl) rfl
end GL
end Go.Dx

