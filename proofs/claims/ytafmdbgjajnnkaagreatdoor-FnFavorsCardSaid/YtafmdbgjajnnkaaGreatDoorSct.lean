/- The contracts of the functions -/
import Derived.Test.YtafmdbgjajnnkaaGreatDoorSea
import Derived.Test.YtafmdbgjajnnkaaGreatDoorSeb
import Derived.Test.YtafmdbgjajnnkaaGreatDoorSec
import Derived.Test.YtafmdbgjajnnkaaGreatDoorSed
import Derived.Test.YtafmdbgjajnnkaaGreatDoorSee
import Derived.Test.YtafmdbgjajnnkaaGreatDoorSef
import Derived.Test.YtafmdbgjajnnkaaGreatDoorHdSrcW
import Derived.Test.YtafmdbgjajnnkaaGreatDoorHdDigW167
import Derived.Test.YtafmdbgjajnnkaaGreatDoorHdSwpW168
import Derived.Test.YtafmdbgjajnnkaaGreatDoorHdRewW218
import Derived.Test.YtafmdbgjajnnkaaGreatDoorHdFmtW197
import Derived.Test.YtafmdbgjajnnkaaGreatDoorHdJoinW148
import Derived.Test.YtafmdbgjajnnkaaGreatDoorHdSplitW142
import Derived.Test.YtafmdbgjajnnkaaGreatDoorHdNumW144
import Derived.Test.YtafmdbgjajnnkaaGreatDoorHdCutW145
import Derived.Test.YtafmdbgjajnnkaaGreatDoorHdSortW208
import Derived.Test.YtafmdbgjajnnkaaGreatDoorHdDelW179
import Derived.Test.YtafmdbgjajnnkaaGreatDoorHdInsW183
set_option linter.unusedVariables false
set_option linter.unusedSimpArgs false
set_option maxRecDepth 100000
set_option maxHeartbeats 0
namespace Go.Dx
open Go.Proofs
namespace GL
theorem mkC {W0:World} {K:Callee} {X:Ctx} {j:FuncId} {fn:Func} (he:EQ X fn K) (hc:Qb5 Tryz.prog W0 K.dm X) (hf:Tryz.prog.funcs[j]? = some fn) (hb:entB fn=true) (hx:X.tys=X0.tys):Contract Tryz.prog W0 j K:=Qa (C:=X) (fn:=fn) (Qb (C:=X0) hx Qd) hc follows hf (ent1 hb) (ent2 hb) (fun t ys h=>(he t).trans h)

theorem QxJ {W0:World}:Contract Tryz.prog W0 6 QfB:=mkC QyJ (Qc trivial) Tryz.func6 (by kernel_rfl) rfl
theorem QDt:entB Tryz.f27=true:=by kernel_rfl
theorem QtZ {W0:World}:QtC Tryz.prog W0 27 QlA:=QEr
theorem Yd {W0:World}:Contract Tryz.prog W0 62 Zq:=mkC QwW (Qc trivial) Tryz.func62 (by kernel_rfl) rfl
theorem QgP {W0:World}:Contract Tryz.prog W0 47 JT:=mkC Qwr (Qc ⟨Yd,trivial⟩) Tryz.func47 (by kernel_rfl) rfl
theorem QaV {W0:World}:Contract Tryz.prog W0 29 Z3:=mkC QtP (Qc ⟨Yd,trivial⟩) Tryz.func29 (by kernel_rfl) rfl
theorem Yz {W0:World}:Contract Tryz.prog W0 65 ZD:=mkC QzI (Qc trivial) Tryz.func65 (by kernel_rfl) rfl
theorem QdJ {W0:World}:Contract Tryz.prog W0 49 YV:=mkC Qyw (Qc ⟨Yz,trivial⟩) Tryz.func49 (by kernel_rfl) rfl
theorem Ql4 {W0:World}:Contract Tryz.prog W0 64 QcQ:=mkC Qzh (Qc trivial) Tryz.func64 (by kernel_rfl) rfl
theorem QhQ {W0:World}:Contract Tryz.prog W0 66 JJ:=mkC QtX (Qc trivial) Tryz.func66 (by kernel_rfl) rfl
theorem QbA {W0:World}:Contract Tryz.prog W0 32 Yg:=mkC Qvn (Qc ⟨QdJ,Ql4,Yz,QhQ,trivial⟩) Tryz.func32 (by kernel_rfl) rfl
theorem QrU {W0:World}:Contract Tryz.prog W0 135 QeS:=mkC QzC (Qc ⟨Yz,trivial⟩) Tryz.func135 (by kernel_rfl) rfl
theorem Qpz {W0:World}:Contract Tryz.prog W0 77 Qcc:=mkC Qwi (Qc ⟨QbA,QrU,trivial⟩) Tryz.func77 (by kernel_rfl) rfl
theorem QDy:entB Tryz.f167=true:=by kernel_rfl
theorem Qic {W0:World}:Contract Tryz.prog W0 167 Qe2:=QDp 19
theorem Qpv:entB Tryz.f168=true:=by kernel_rfl
theorem Qo5 {W0:World}:Contract Tryz.prog W0 168 Qjs:=QCF ⟨Tryz.f168,Tryz.func168,(ent1 Qpv),(ent2 Qpv)⟩
theorem Qxi {W0:World}:Contract Tryz.prog W0 169 QeH:=mkC QwD (Qc ⟨Qic,trivial⟩) Tryz.func169 (by kernel_rfl) rfl
theorem Qg1 {W0:World}:Contract Tryz.prog W0 117 JU:=mkC QwZ (Qc ⟨Qic,Qo5,Qxi,trivial⟩) Tryz.func117 (by kernel_rfl) rfl
theorem Jh {W0:World}:Contract Tryz.prog W0 79 ZG:=mkC Qvi (Qc trivial) Tryz.func79 (by kernel_rfl) rfl
theorem Qj7 {W0:World}:Contract Tryz.prog W0 120 QbM:=mkC Qyh (Qc ⟨Yz,trivial⟩) Tryz.func120 (by kernel_rfl) rfl
theorem Qe1 {W0:World}:Contract Tryz.prog W0 121 YS:=mkC Qtz (Qc ⟨Yz,trivial⟩) Tryz.func121 (by kernel_rfl) rfl
theorem Qit {W0:World}:Contract Tryz.prog W0 172 Qah:=mkC Qvp (Qc ⟨QdJ,Yz,Qe1,trivial⟩) Tryz.func172 (by kernel_rfl) rfl
theorem QwC {W0:World}:Contract Tryz.prog W0 173 Qew:=mkC Qws (Qc ⟨Yz,Qit,trivial⟩) Tryz.func173 (by kernel_rfl) rfl
theorem QfQ {W0:World}:Contract Tryz.prog W0 124 Jg:=mkC Qu3 (Qc ⟨QdJ,Yz,Jh,Qj7,QwC,trivial⟩) Tryz.func124 (by kernel_rfl) rfl
theorem Qig {W0:World}:Contract Tryz.prog W0 187 QaE:=mkC Qxs (Qc trivial) Tryz.func187 (by kernel_rfl) rfl
theorem Qe0 {W0:World}:Contract Tryz.prog W0 188 YQ:=mkC Qt3 (Qc trivial) Tryz.func188 (by kernel_rfl) rfl
theorem Qyb {W0:World}:Contract Tryz.prog W0 189 Qfi:=mkC QyZ (Qc ⟨Qig,Qe0,trivial⟩) Tryz.func189 (by kernel_rfl) rfl
theorem Quq {W0:World}:Contract Tryz.prog W0 190 Qdr:=mkC QuP (Qc ⟨Qit,Qig,Qe0,trivial⟩) Tryz.func190 (by kernel_rfl) rfl
theorem QuE {W0:World}:Contract Tryz.prog W0 136 Qc7:=mkC QuL (Qc ⟨Qg1,QfQ,Qo5,Qig,Qe0,Qyb,Quq,trivial⟩) Tryz.func136 (by kernel_rfl) rfl
theorem Qvs {W0:World}:Contract Tryz.prog W0 78 Qdy:=mkC Qvj (Qc ⟨QuE,trivial⟩) Tryz.func78 (by kernel_rfl) rfl
theorem Qr3 {W0:World}:Contract Tryz.prog W0 39 QeO:=mkC Qzv (Qc ⟨Qpz,Qvs,trivial⟩) Tryz.func39 (by kernel_rfl) rfl
theorem QuB {W0:World}:Contract Tryz.prog W0 40 Qdh:=mkC Quh (Qc ⟨Jh,trivial⟩) Tryz.func40 (by kernel_rfl) rfl
theorem QpW {W0:World}:Contract Tryz.prog W0 122 Qdi:=mkC QyG (Qc ⟨Yz,Qit,trivial⟩) Tryz.func122 (by kernel_rfl) rfl
theorem Qm8 {W0:World}:Contract Tryz.prog W0 123 Qby:=mkC Qvh (Qc trivial) Tryz.func123 (by kernel_rfl) rfl
theorem Qf9 {W0:World}:Contract Tryz.prog W0 67 Jj:=mkC Qvg (Qc ⟨Qj7,Qe1,QpW,Qm8,trivial⟩) Tryz.func67 (by kernel_rfl) rfl
theorem QwM {W0:World}:Contract Tryz.prog W0 125 Qeu:=mkC Qwo (Qc ⟨Qg1,QfQ,trivial⟩) Tryz.func125 (by kernel_rfl) rfl
theorem Qjn {W0:World}:Contract Tryz.prog W0 114 Qa9:=mkC QwJ (Qc trivial) Tryz.func114 (by kernel_rfl) rfl
theorem Qpc {W0:World}:Contract Tryz.prog W0 242 Qcd:=mkC Qwv (Qc trivial) Tryz.func242 (by kernel_rfl) rfl
theorem Qg3 {W0:World}:Contract Tryz.prog W0 221 JR:=mkC QwA (Qc ⟨Qpc,trivial⟩) Tryz.func221 (by kernel_rfl) rfl
theorem Qiy {W0:World}:Contract Tryz.prog W0 174 Qal:=mkC QuH (Qc ⟨Jh,Qg3,trivial⟩) Tryz.func174 (by kernel_rfl) rfl
theorem Qri {W0:World}:Contract Tryz.prog W0 176 Qdn:=mkC QxN (Qc ⟨QhQ,trivial⟩) Tryz.func176 (by kernel_rfl) rfl
theorem Qyd {W0:World}:Contract Tryz.prog W0 175 Qfl:=mkC Qy5 (Qc ⟨Qri,trivial⟩) Tryz.func175 (by kernel_rfl) rfl
theorem QyO {W0:World}:Contract Tryz.prog W0 177 Qfv:=mkC QyF (Qc trivial) Tryz.func177 (by kernel_rfl) rfl
theorem Qx5 {W0:World}:Contract Tryz.prog W0 178 Qfw:=mkC Qyf (Qc trivial) Tryz.func178 (by kernel_rfl) rfl
theorem QuJ {W0:World}:Contract Tryz.prog W0 126 Qdg:=mkC QuZ (Qc ⟨Qjn,Qiy,Qyd,Qri,QyO,Qx5,trivial⟩) Tryz.func126 (by kernel_rfl) rfl
theorem QmN {W0:World}:Contract Tryz.prog W0 69 QbF:=mkC QvC (Qc ⟨QbA,Ql4,Qf9,Qe1,QfQ,QwM,QuJ,trivial⟩) Tryz.func69 (by kernel_rfl) rfl
theorem Qxt {W0:World}:Contract Tryz.prog W0 50 QfK:=mkC QyQ (Qc trivial) Tryz.func50 (by kernel_rfl) rfl
theorem Qmd {W0:World}:Contract Tryz.prog W0 70 QbH:=mkC Qu9 (Qc ⟨Qxt,trivial⟩) Tryz.func70 (by kernel_rfl) rfl
theorem QiO {W0:World}:Contract Tryz.prog W0 127 Qbw:=mkC QzK (Qc trivial) Tryz.func127 (by kernel_rfl) rfl
theorem QtW {W0:World}:Contract Tryz.prog W0 71 Qck:=mkC QtD (Qc ⟨Jh,QiO,trivial⟩) Tryz.func71 (by kernel_rfl) rfl
theorem Qxa {W0:World}:Contract Tryz.prog W0 128 QeK:=mkC Qw2 (Qc ⟨QiO,trivial⟩) Tryz.func128 (by kernel_rfl) rfl
theorem Qpn {W0:World}:Contract Tryz.prog W0 72 Qca:=mkC QwH (Qc ⟨Jh,QiO,Qxa,trivial⟩) Tryz.func72 (by kernel_rfl) rfl
theorem Qjq {W0:World}:Contract Tryz.prog W0 34 Qa5:=mkC Qwh (Qc ⟨Qr3,QuB,QmN,Qmd,QtW,Qpn,trivial⟩) Tryz.func34 (by kernel_rfl) rfl
theorem Qvy {W0:World}:Contract Tryz.prog W0 68 QdA:=mkC Qu5 (Qc ⟨QdJ,Qj7,trivial⟩) Tryz.func68 (by kernel_rfl) rfl
theorem Qmn {W0:World}:Contract Tryz.prog W0 33 Qbz:=mkC Qu1 (Qc ⟨Yz,Qf9,Qvy,trivial⟩) Tryz.func33 (by kernel_rfl) rfl
theorem QwG {W0:World}:Contract Tryz.prog W0 38 Qel:=mkC Qwm (Qc ⟨QbA,Qmn,Qjq,trivial⟩) Tryz.func38 (by kernel_rfl) rfl
theorem QuG {W0:World}:Contract Tryz.prog W0 41 Qda:=mkC Qus (Qc ⟨Qjq,QwG,trivial⟩) Tryz.func41 (by kernel_rfl) rfl
theorem Qjt {W0:World}:Contract Tryz.prog W0 165 Qbb:=mkC QwT (Qc ⟨QgP,Yd,trivial⟩) Tryz.func165 (by kernel_rfl) rfl
theorem QwU {W0:World}:Contract Tryz.prog W0 163 Qev:=mkC Qxb (Qc ⟨QgP,Yd,Jh,Qjt,trivial⟩) Tryz.func163 (by kernel_rfl) rfl
theorem QyH {W0:World}:Contract Tryz.prog W0 164 Qfq:=mkC Qza (Qc trivial) Tryz.func164 (by kernel_rfl) rfl
theorem Qsb {W0:World}:Contract Tryz.prog W0 115 QeT:=mkC Qzq (Qc ⟨QaV,Yd,Jh,QwU,QyH,Qjt,trivial⟩) Tryz.func115 (by kernel_rfl) rfl
theorem Qps {W0:World}:Contract Tryz.prog W0 166 Qcj:=mkC Qw4 (Qc trivial) Tryz.func166 (by kernel_rfl) rfl
theorem QkU {W0:World}:Contract Tryz.prog W0 116 QaP:=mkC Qtv (Qc ⟨QbA,Ql4,Qps,trivial⟩) Tryz.func116 (by kernel_rfl) rfl
theorem QoI {W0:World}:Contract Tryz.prog W0 118 Qce:=mkC Qwp (Qc ⟨QbA,QdJ,QhQ,QrU,Qps,trivial⟩) Tryz.func118 (by kernel_rfl) rfl
theorem Qmm {W0:World}:Contract Tryz.prog W0 212 QbB:=mkC QuK (Qc trivial) Tryz.func212 (by kernel_rfl) rfl
theorem QwE {W0:World}:Contract Tryz.prog W0 213 Qeo:=mkC Qwz (Qc ⟨Qic,trivial⟩) Tryz.func213 (by kernel_rfl) rfl
theorem QwL {W0:World}:Contract Tryz.prog W0 161 Qex:=mkC Qwt (Qc ⟨QaV,Yd,Jh,Qjn,Qsb,QkU,Qg1,QoI,QiO,Qmm,QwE,trivial⟩) Tryz.func161 (by kernel_rfl) rfl
theorem QrZ {W0:World}:Contract Tryz.prog W0 219 QeP:=mkC Qzn (Qc trivial) Tryz.func219 (by kernel_rfl) rfl
theorem Qy7 {W0:World}:Contract Tryz.prog W0 243 QfC:=mkC QyU (Qc ⟨Qm8,trivial⟩) Tryz.func243 (by kernel_rfl) rfl
theorem QyB {W0:World}:Contract Tryz.prog W0 220 QfD:=mkC QxQ (Qc ⟨Qg3,Qpc,Qy7,trivial⟩) Tryz.func220 (by kernel_rfl) rfl
theorem QhF {W0:World}:Contract Tryz.prog W0 170 Jx:=mkC Qte (Qc ⟨Yz,Qf9,Qe1,QpW,QrZ,QyB,trivial⟩) Tryz.func170 (by kernel_rfl) rfl
theorem QuI {W0:World}:Contract Tryz.prog W0 295 QdK:=mkC Qvv (Qc ⟨QdJ,Yz,Qmm,trivial⟩) Tryz.func295 (by kernel_rfl) rfl
theorem Qvl {W0:World}:Contract Tryz.prog W0 274 Qdl:=mkC Qu0 (Qc ⟨Qig,Qe0,QuI,trivial⟩) Tryz.func274 (by kernel_rfl) rfl
theorem QrD {W0:World}:Contract Tryz.prog W0 240 Qbl:=mkC QrQ (Qc ⟨Qvl,trivial⟩) Tryz.func240 (by kernel_rfl) rfl
theorem QuQ {W0:World}:Contract Tryz.prog W0 214 Qdt:=mkC Qvx (Qc ⟨Qpz,QrD,trivial⟩) Tryz.func214 (by kernel_rfl) rfl
theorem Qxz {W0:World}:Contract Tryz.prog W0 215 Qfz:=mkC Qye (Qc trivial) Tryz.func215 (by kernel_rfl) rfl
theorem QwY {W0:World}:Contract Tryz.prog W0 216 QeF:=mkC Qwy (Qc ⟨Qg3,trivial⟩) Tryz.func216 (by kernel_rfl) rfl
theorem Quk {W0:World}:Contract Tryz.prog W0 275 Qdb:=mkC Qva (Qc ⟨Qf9,QfQ,Qiy,trivial⟩) Tryz.func275 (by kernel_rfl) rfl
theorem Qze {W0:World}:Contract Tryz.prog W0 296 QgD:=mkC Qzz (Qc trivial) Tryz.func296 (by kernel_rfl) rfl
theorem Qw6 {W0:World}:Contract Tryz.prog W0 276 Qeh:=mkC Qwj (Qc ⟨Qg3,Qze,trivial⟩) Tryz.func276 (by kernel_rfl) rfl
theorem Quj {W0:World}:Contract Tryz.prog W0 241 Qde:=mkC QuC (Qc ⟨QhF,QrZ,Quk,Qw6,trivial⟩) Tryz.func241 (by kernel_rfl) rfl
theorem Qzx {W0:World}:Contract Tryz.prog W0 217 Qgt:=mkC QzH (Qc ⟨Qr3,QmN,Qpn,Qiy,Quj,trivial⟩) Tryz.func217 (by kernel_rfl) rfl
theorem Qll:entB Tryz.f218=true:=by kernel_rfl
theorem QtE {W0:World}:Contract Tryz.prog W0 218 Qk0:=QCY ⟨Tryz.f218,Tryz.func218,(ent1 Qll),(ent2 Qll)⟩
theorem QsP {W0:World}:Contract Tryz.prog W0 162 QbZ:=mkC Qs4 (Qc ⟨QhF,QuQ,Qxz,QwY,Qzx,QtE,trivial⟩) Tryz.func162 (by kernel_rfl) rfl
theorem QuV {W0:World}:Contract Tryz.prog W0 113 QdD:=mkC Qum (Qc ⟨QwL,QsP,trivial⟩) Tryz.func113 (by kernel_rfl) rfl
theorem Qts {W0:World}:Contract Tryz.prog W0 61 Qcn:=mkC Qti (Qc ⟨QaV,QuG,Yd,Qmd,QuV,Qjn,Qsb,QkU,Qg1,QoI,trivial⟩) Tryz.func61 (by kernel_rfl) rfl
theorem QrM {W0:World}:Contract Tryz.prog W0 171 Qbk:=mkC QrG (Qc ⟨Yd,Qjt,trivial⟩) Tryz.func171 (by kernel_rfl) rfl
theorem QuW {W0:World}:Contract Tryz.prog W0 119 Qdc:=mkC Qu7 (Qc ⟨QaV,Yd,QhF,QrM,trivial⟩) Tryz.func119 (by kernel_rfl) rfl
theorem Qwk {W0:World}:Contract Tryz.prog W0 63 Qer:=mkC Qw5 (Qc ⟨QaV,QgP,Yd,QuW,trivial⟩) Tryz.func63 (by kernel_rfl) rfl
theorem QuA {W0:World}:Contract Tryz.prog W0 28 Qdj:=mkC Quz (Qc ⟨QgP,Qts,Yd,Qwk,trivial⟩) Tryz.func28 (by kernel_rfl) rfl
theorem ZS {W0:World}:Contract Tryz.prog W0 81 Ze:=mkC Qxh (Qc trivial) Tryz.func81 (by kernel_rfl) rfl
theorem Qw3 {W0:World}:Contract Tryz.prog W0 55 QeD:=mkC Qxc (Qc ⟨ZS,trivial⟩) Tryz.func55 (by kernel_rfl) rfl
theorem QhM {W0:World}:Contract Tryz.prog W0 82 QaJ:=mkC QxS (Qc ⟨ZS,trivial⟩) Tryz.func82 (by kernel_rfl) rfl
theorem J0 {W0:World}:Contract Tryz.prog W0 95 Q7:=mkC Qih (Qc trivial) Tryz.func95 (by kernel_rfl) rfl
theorem Qhc {W0:World}:Contract Tryz.prog W0 88 Zz:=mkC Qg6 (Qc ⟨J0,trivial⟩) Tryz.func88 (by kernel_rfl) rfl
theorem Qgl {W0:World}:Contract Tryz.prog W0 140 Zn:=mkC QfU (Qc trivial) Tryz.func140 (by kernel_rfl) rfl
theorem J2 {W0:World}:Contract Tryz.prog W0 89 QQ:=mkC QeX (Qc ⟨Qgl,trivial⟩) Tryz.func89 (by kernel_rfl) rfl
theorem Qqo {W0:World}:Contract Tryz.prog W0 44 QaK:=mkC QqP (Qc ⟨Qw3,ZS,QhM,Qhc,J2,trivial⟩) Tryz.func44 (by kernel_rfl) rfl
theorem Qsm {W0:World}:Contract Tryz.prog W0 93 QeM:=mkC Qzr (Qc ⟨ZS,trivial⟩) Tryz.func93 (by kernel_rfl) rfl
theorem Qkf {W0:World}:Contract Tryz.prog W0 83 QbS:=mkC Qx2 (Qc ⟨ZS,Qsm,trivial⟩) Tryz.func83 (by kernel_rfl) rfl
theorem Qh7 {W0:World}:Contract Tryz.prog W0 149 Jv:=mkC QtM (Qc ⟨ZS,trivial⟩) Tryz.func149 (by kernel_rfl) rfl
theorem QhB {W0:World}:Contract Tryz.prog W0 245 ZF:=mkC QhC (Qc trivial) Tryz.func245 (by kernel_rfl) rfl
theorem Qgq {W0:World}:Contract Tryz.prog W0 225 Zr:=mkC Qgs (Qc ⟨QhB,trivial⟩) Tryz.func225 (by kernel_rfl) rfl
theorem QrN {W0:World}:Contract Tryz.prog W0 226 Qbi:=mkC QrB (Qc ⟨QhM,trivial⟩) Tryz.func226 (by kernel_rfl) rfl
theorem Qu4 {W0:World}:Contract Tryz.prog W0 191 Qc9:=mkC QuY (Qc ⟨Qgq,QrN,trivial⟩) Tryz.func191 (by kernel_rfl) rfl
theorem QtR {W0:World}:Contract Tryz.prog W0 192 Qcz:=mkC Qtr (Qc trivial) Tryz.func192 (by kernel_rfl) rfl
theorem Qg8 {W0:World}:Contract Tryz.prog W0 138 Ja:=mkC Qs6 (Qc ⟨ZS,Qh7,Qu4,QtR,trivial⟩) Tryz.func138 (by kernel_rfl) rfl
theorem QrA {W0:World}:Contract Tryz.prog W0 224 Qbo:=mkC QrP (Qc trivial) Tryz.func224 (by kernel_rfl) rfl
theorem Qim {W0:World}:Contract Tryz.prog W0 186 YU:=mkC QpR (Qc ⟨QrA,trivial⟩) Tryz.func186 (by kernel_rfl) rfl
theorem QyR {W0:World}:Contract Tryz.prog W0 201 QfI:=mkC QxT (Qc trivial) Tryz.func201 (by kernel_rfl) rfl
theorem QfL {W0:World}:Contract Tryz.prog W0 150 Yx:=mkC Qqr (Qc ⟨Qim,QyR,trivial⟩) Tryz.func150 (by kernel_rfl) rfl
theorem QrC {W0:World}:Contract Tryz.prog W0 98 Qbd:=mkC QrI (Qc ⟨ZS,Qkf,Qg8,Qh7,QfL,trivial⟩) Tryz.func98 (by kernel_rfl) rfl
theorem Y7 {W0:World}:Contract Tryz.prog W0 202 QF:=mkC QcY (Qc trivial) Tryz.func202 (by kernel_rfl) rfl
theorem YL {W0:World}:Contract Tryz.prog W0 151 QA:=mkC Qb8 (Qc ⟨Y7,trivial⟩) Tryz.func151 (by kernel_rfl) rfl
theorem QlZ {W0:World}:Contract Tryz.prog W0 152 YW:=mkC QlU (Qc trivial) Tryz.func152 (by kernel_rfl) rfl
theorem QpT {W0:World}:Contract Tryz.prog W0 99 Qaa:=mkC QpP (Qc ⟨QhM,Qkf,YL,QlZ,trivial⟩) Tryz.func99 (by kernel_rfl) rfl
theorem QrO {W0:World}:Contract Tryz.prog W0 56 Qbf:=mkC QrH (Qc ⟨ZS,QrC,QpT,trivial⟩) Tryz.func56 (by kernel_rfl) rfl
theorem Qkt {W0:World}:Contract Tryz.prog W0 30 Qam:=mkC QsZ (Qc ⟨Qqo,QrO,trivial⟩) Tryz.func30 (by kernel_rfl) rfl
theorem QqQ {W0:World}:Contract Tryz.prog W0 141 QaM:=mkC Qp7 (Qc ⟨ZS,trivial⟩) Tryz.func141 (by kernel_rfl) rfl
theorem Qn3 {W0:World}:Contract Tryz.prog W0 90 JG:=mkC QnU (Qc ⟨QqQ,trivial⟩) Tryz.func90 (by kernel_rfl) rfl
theorem QrF {W0:World}:Contract Tryz.prog W0 80 Qbn:=mkC QrE (Qc trivial) Tryz.func80 (by kernel_rfl) rfl
theorem Qgu {W0:World}:Contract Tryz.prog W0 137 Zx:=mkC QgC (Qc trivial) Tryz.func137 (by kernel_rfl) rfl
theorem ZJ {W0:World}:Contract Tryz.prog W0 84 Qy:=mkC QfA (Qc ⟨Qgu,trivial⟩) Tryz.func84 (by kernel_rfl) rfl
theorem Qt0 {W0:World}:Contract Tryz.prog W0 85 Qcp:=mkC Quc (Qc ⟨ZS,Qg8,trivial⟩) Tryz.func85 (by kernel_rfl) rfl
theorem QuM {W0:World}:Contract Tryz.prog W0 42 Qdu:=mkC Qul (Qc ⟨QrF,ZS,QhM,Qkf,ZJ,Qt0,trivial⟩) Tryz.func42 (by kernel_rfl) rfl
theorem Qki {W0:World}:Contract Tryz.prog W0 143 Qad:=mkC QsU (Qc trivial) Tryz.func143 (by kernel_rfl) rfl
theorem Qij:entB Tryz.f197=true:=by kernel_rfl
theorem QpU {W0:World} (hT:Lib.TabIs Tryz.prog W0 "internal/strconv.uint64pow10" .u64 Lib.pow10Tab):Contract Tryz.prog W0 197 Qil:=QDn ⟨Tryz.f197,Tryz.func197,(ent1 Qij),(ent2 Qij)⟩ hT
theorem Qn9 {W0:World} (hT:Lib.TabIs Tryz.prog W0 "internal/strconv.uint64pow10" .u64 Lib.pow10Tab):Contract Tryz.prog W0 147 Qd4:=mkC QAh (Qc ⟨QpU hT,trivial⟩) Tryz.func147 (by kernel_rfl) rfl
theorem Qmw:entB Tryz.f148=true:=by kernel_rfl
theorem Qnj {W0:World}:Contract Tryz.prog W0 148 QiC:=QBr ⟨Tryz.f148,Tryz.func148,(ent1 Qmw),(ent2 Qmw)⟩
theorem Qwf {W0:World} (hT:Lib.TabIs Tryz.prog W0 "internal/strconv.uint64pow10" .u64 Lib.pow10Tab):Contract Tryz.prog W0 94 Qep:=mkC Qwu (Qc ⟨Qn9 hT,Qnj,trivial⟩) Tryz.func94 (by kernel_rfl) rfl
theorem Qlh {W0:World} (hT:Lib.TabIs Tryz.prog W0 "internal/strconv.uint64pow10" .u64 Lib.pow10Tab):Contract Tryz.prog W0 159 QaU:=mkC Qtf (Qc ⟨Qwf hT,Qn9 hT,trivial⟩) Tryz.func159 (by kernel_rfl) rfl
theorem Qpk {W0:World} (hT:Lib.TabIs Tryz.prog W0 "internal/strconv.uint64pow10" .u64 Lib.pow10Tab):Contract Tryz.prog W0 106 Qcg:=mkC QwP (Qc ⟨Qki,Qn9 hT,Qnj,Qlh hT,trivial⟩) Tryz.func106 (by kernel_rfl) rfl
theorem QkY:entB Tryz.f142=true:=by kernel_rfl
theorem Qh9 {W0:World} (hM:∃m,W0.cell? ⟨0,0,none⟩=some (.int .i64 m)):Contract Tryz.prog W0 142 Qe3:=QAq ⟨Tryz.f142,Tryz.func142,(ent1 QkY),(ent2 QkY)⟩ hM
theorem QoS:entB Tryz.f144=true:=by kernel_rfl
theorem QgX {W0:World} (hT:Lib.TabIs Tryz.prog W0 "internal/strconv.uint64pow10" .u64 Lib.pow10Tab) (hS:Jk Tryz.prog W0):Contract Tryz.prog W0 144 Qey:=QCD ⟨Tryz.f144,Tryz.func144,(ent1 QoS),(ent2 QoS)⟩ hT hS
theorem QpH:entB Tryz.f145=true:=by kernel_rfl
theorem QoB {W0:World} (hM:∃m,W0.cell? ⟨0,0,none⟩=some (.int .i64 m)):Contract Tryz.prog W0 145 Qjm:=QDe ⟨Tryz.f145,Tryz.func145,(ent1 QpH),(ent2 QpH)⟩ hM
theorem Qu8 {W0:World} (hT:Lib.TabIs Tryz.prog W0 "internal/strconv.uint64pow10" .u64 Lib.pow10Tab) (hM:∃m,W0.cell? ⟨0,0,none⟩=some (.int .i64 m)) (hS:Jk Tryz.prog W0):Contract Tryz.prog W0 203 QdH:=mkC Quv (Qc ⟨Qh9 hM,QgX hT hS,trivial⟩) Tryz.func203 (by kernel_rfl) rfl
theorem QtT {W0:World} (hT:Lib.TabIs Tryz.prog W0 "internal/strconv.uint64pow10" .u64 Lib.pow10Tab) (hM:∃m,W0.cell? ⟨0,0,none⟩=some (.int .i64 m)) (hS:Jk Tryz.prog W0):Contract Tryz.prog W0 196 Qcv:=mkC QtY (Qc ⟨Qg8,Qh9 hM,QgX hT hS,Qlh hT,Qu8 hT hM hS,trivial⟩) Tryz.func196 (by kernel_rfl) rfl
theorem Qvc {W0:World} (hT:Lib.TabIs Tryz.prog W0 "internal/strconv.uint64pow10" .u64 Lib.pow10Tab) (hM:∃m,W0.cell? ⟨0,0,none⟩=some (.int .i64 m)) (hS:Jk Tryz.prog W0):Contract Tryz.prog W0 146 QdB:=mkC Qui (Qc ⟨QgX hT hS,QoB hM,QtT hT hM hS,trivial⟩) Tryz.func146 (by kernel_rfl) rfl
theorem Qwe {W0:World} (hT:Lib.TabIs Tryz.prog W0 "internal/strconv.uint64pow10" .u64 Lib.pow10Tab) (hM:∃m,W0.cell? ⟨0,0,none⟩=some (.int .i64 m)) (hS:Jk Tryz.prog W0):Contract Tryz.prog W0 91 Qeq:=mkC QwF (Qc ⟨QuM,J0,Qpk hT,Qh9 hM,Qki,QgX hT hS,QoB hM,Qvc hT hM hS,trivial⟩) Tryz.func91 (by kernel_rfl) rfl
theorem Qi8 {W0:World} (hT:Lib.TabIs Tryz.prog W0 "internal/strconv.uint64pow10" .u64 Lib.pow10Tab) (hM:∃m,W0.cell? ⟨0,0,none⟩=some (.int .i64 m)) (hS:Jk Tryz.prog W0):Contract Tryz.prog W0 45 Jb:=mkC Qqn (Qc ⟨Qn3,Qwe hT hM hS,trivial⟩) Tryz.func45 (by kernel_rfl) rfl
theorem Qoj {W0:World} (hT:Lib.TabIs Tryz.prog W0 "internal/strconv.uint64pow10" .u64 Lib.pow10Tab) (hM:∃m,W0.cell? ⟨0,0,none⟩=some (.int .i64 m)) (hS:Jk Tryz.prog W0):Contract Tryz.prog W0 58 JI:=mkC QnM (Qc ⟨Qi8 hT hM hS,trivial⟩) Tryz.func58 (by kernel_rfl) rfl
theorem QqE {W0:World}:Contract Tryz.prog W0 53 QaN:=mkC QqK (Qc ⟨J0,trivial⟩) Tryz.func53 (by kernel_rfl) rfl
theorem QdT {W0:World}:Contract Tryz.prog W0 92 ZB:=mkC Qi3 (Qc trivial) Tryz.func92 (by kernel_rfl) rfl
theorem Qvr {W0:World}:Contract Tryz.prog W0 207 Qds:=mkC QvA (Qc ⟨QdT,trivial⟩) Tryz.func207 (by kernel_rfl) rfl
theorem Qwl {W0:World}:Contract Tryz.prog W0 157 Qee:=mkC Qw1 (Qc ⟨Qvr,trivial⟩) Tryz.func157 (by kernel_rfl) rfl
theorem QtN {W0:World}:Contract Tryz.prog W0 154 QcB:=mkC QtB (Qc ⟨Qwl,trivial⟩) Tryz.func154 (by kernel_rfl) rfl
theorem J4:entB Tryz.f208=true:=by kernel_rfl
theorem QeU {W0:World}:Contract Tryz.prog W0 208 J7:=QBm ⟨Tryz.f208,Tryz.func208,(ent1 J4),(ent2 J4)⟩
theorem QsR {W0:World}:Contract Tryz.prog W0 209 QbQ:=mkC QsV (Qc ⟨QfL,trivial⟩) Tryz.func209 (by kernel_rfl) rfl
theorem QwK {W0:World}:Contract Tryz.prog W0 158 Qem:=mkC QwO (Qc ⟨QeU,QsR,trivial⟩) Tryz.func158 (by kernel_rfl) rfl
theorem Qat {W0:World}:Contract Tryz.prog W0 210 Qu:=mkC Qau (Qc trivial) Tryz.func210 (by kernel_rfl) rfl
theorem Qrd {W0:World}:Contract Tryz.prog W0 211 Qaw:=mkC Qp5 (Qc ⟨QfL,trivial⟩) Tryz.func211 (by kernel_rfl) rfl
theorem QtO {W0:World}:Contract Tryz.prog W0 160 QcJ:=mkC Qtq (Qc ⟨Qat,Qrd,trivial⟩) Tryz.func160 (by kernel_rfl) rfl
theorem QuT {W0:World}:Contract Tryz.prog W0 107 Qdf:=mkC QvE (Qc ⟨QtN,QwK,QtO,trivial⟩) Tryz.func107 (by kernel_rfl) rfl
theorem Qww {W0:World}:Contract Tryz.prog W0 108 QeC:=mkC Qwn (Qc ⟨Qh7,trivial⟩) Tryz.func108 (by kernel_rfl) rfl
theorem QhA {W0:World}:Contract Tryz.prog W0 112 Yq:=mkC Qmo (Qc ⟨J2,trivial⟩) Tryz.func112 (by kernel_rfl) rfl
theorem Qma {W0:World}:Contract Tryz.prog W0 109 Je:=mkC Qmz (Qc ⟨QhA,trivial⟩) Tryz.func109 (by kernel_rfl) rfl
theorem Qyt {W0:World}:Contract Tryz.prog W0 110 Qfx:=mkC Qx0 (Qc trivial) Tryz.func110 (by kernel_rfl) rfl
theorem Qw0 {W0:World}:Contract Tryz.prog W0 111 QeG:=mkC QwS (Qc trivial) Tryz.func111 (by kernel_rfl) rfl
theorem Qmx {W0:World} (hT:Lib.TabIs Tryz.prog W0 "internal/strconv.uint64pow10" .u64 Lib.pow10Tab):Contract Tryz.prog W0 59 Jo:=mkC Qnx (Qc ⟨QqE,Qpk hT,QuT,Qww,Qma,Qyt,Qw0,QhA,trivial⟩) Tryz.func59 (by kernel_rfl) rfl
theorem QkK {W0:World}:Contract Tryz.prog W0 60 YK:=mkC QkL (Qc trivial) Tryz.func60 (by kernel_rfl) rfl
theorem Qi9 {W0:World}:Contract Tryz.prog W0 129 Z8:=mkC Qjc (Qc trivial) Tryz.func129 (by kernel_rfl) rfl
theorem QhH {W0:World}:Contract Tryz.prog W0 73 ZK:=mkC Qh1 (Qc ⟨Qi9,trivial⟩) Tryz.func73 (by kernel_rfl) rfl
theorem Qf0 {W0:World}:Contract Tryz.prog W0 130 Zk:=mkC Qf6 (Qc trivial) Tryz.func130 (by kernel_rfl) rfl
theorem J9 {W0:World}:Contract Tryz.prog W0 74 QP:=mkC QeV (Qc ⟨Qf0,trivial⟩) Tryz.func74 (by kernel_rfl) rfl
theorem Qfh {W0:World}:Contract Tryz.prog W0 139 Zd:=mkC Qfg (Qc trivial) Tryz.func139 (by kernel_rfl) rfl
theorem Qea {W0:World}:Contract Tryz.prog W0 86 Q3:=mkC Qd0 (Qc ⟨Qfh,trivial⟩) Tryz.func86 (by kernel_rfl) rfl
theorem Qt9 {W0:World}:Contract Tryz.prog W0 87 Qco:=mkC Qtx (Qc ⟨ZJ,trivial⟩) Tryz.func87 (by kernel_rfl) rfl
theorem QxZ {W0:World}:Contract Tryz.prog W0 43 QfF:=mkC Qy6 (Qc ⟨Qea,Qt9,trivial⟩) Tryz.func43 (by kernel_rfl) rfl
theorem QeE {W0:World}:Contract Tryz.prog W0 102 Q5:=mkC Qen (Qc trivial) Tryz.func102 (by kernel_rfl) rfl
theorem Qac {W0:World}:Contract Tryz.prog W0 184 Qt:=mkC Qaf (Qc trivial) Tryz.func184 (by kernel_rfl) rfl
theorem Qoh {W0:World}:Contract Tryz.prog W0 185 JM:=mkC Qn0 (Qc ⟨Qim,trivial⟩) Tryz.func185 (by kernel_rfl) rfl
theorem QjA {W0:World}:Contract Tryz.prog W0 133 JQ:=mkC QrK (Qc ⟨Qac,Qoh,trivial⟩) Tryz.func133 (by kernel_rfl) rfl
theorem JA:entB Tryz.f179=true:=by kernel_rfl
theorem Qed {W0:World}:Contract Tryz.prog W0 179 JC:=QC3 ⟨Tryz.f179,Tryz.func179,(ent1 JA),(ent2 JA)⟩
theorem QcS {W0:World}:Contract Tryz.prog W0 180 QU:=mkC QcU (Qc ⟨Y7,trivial⟩) Tryz.func180 (by kernel_rfl) rfl
theorem JO:entB Tryz.f183=true:=by kernel_rfl
theorem Qd7 {W0:World}:Contract Tryz.prog W0 183 Jw:=QCL ⟨Tryz.f183,Tryz.func183,(ent1 JO),(ent2 JO)⟩
theorem QnA {W0:World}:Contract Tryz.prog W0 181 Jm:=mkC Qmt (Qc ⟨ZJ,trivial⟩) Tryz.func181 (by kernel_rfl) rfl
theorem QmI {W0:World}:Contract Tryz.prog W0 182 Jc:=mkC Qnl (Qc trivial) Tryz.func182 (by kernel_rfl) rfl
theorem Qq9 {W0:World}:Contract Tryz.prog W0 131 QaG:=mkC Qp1 (Qc ⟨Qsm,QeE,QjA,YL,Qed,QcS,QnA,QmI,Qd7,trivial⟩) Tryz.func131 (by kernel_rfl) rfl
theorem Qje {W0:World}:Contract Tryz.prog W0 132 Z5:=mkC Qjb (Qc trivial) Tryz.func132 (by kernel_rfl) rfl
theorem Qja {W0:World}:Contract Tryz.prog W0 134 Z6:=mkC QiV (Qc ⟨ZJ,trivial⟩) Tryz.func134 (by kernel_rfl) rfl
theorem Qko {W0:World}:Contract Tryz.prog W0 76 Yu:=mkC Qkk (Qc ⟨J9,Qq9,Qje,QjA,Qja,trivial⟩) Tryz.func76 (by kernel_rfl) rfl
theorem QiB {W0:World}:Contract Tryz.prog W0 75 ZY:=mkC QiE (Qc ⟨QxZ,trivial⟩) Tryz.func75 (by kernel_rfl) rfl
theorem Qfd {W0:World} (hT:Lib.TabIs Tryz.prog W0 "internal/strconv.uint64pow10" .u64 Lib.pow10Tab) (hM:∃m,W0.cell? ⟨0,0,none⟩=some (.int .i64 m)) (hS:Jk Tryz.prog W0):Contract Tryz.prog W0 35 ZO:=mkC QjP (Qc ⟨Qi8 hT hM hS,Qoj hT hM hS,Qmx hT,QkK,QhH,J9,QiB,Qko,trivial⟩) Tryz.func35 (by kernel_rfl) rfl
theorem QmE {W0:World} (hT:Lib.TabIs Tryz.prog W0 "internal/strconv.uint64pow10" .u64 Lib.pow10Tab) (hM:∃m,W0.cell? ⟨0,0,none⟩=some (.int .i64 m)) (hS:Jk Tryz.prog W0):Contract Tryz.prog W0 46 Jd:=mkC Qm9 (Qc ⟨Qfd hT hM hS,QdT,trivial⟩) Tryz.func46 (by kernel_rfl) rfl
theorem QsW {W0:World} (hT:Lib.TabIs Tryz.prog W0 "internal/strconv.uint64pow10" .u64 Lib.pow10Tab) (hM:∃m,W0.cell? ⟨0,0,none⟩=some (.int .i64 m)) (hS:Jk Tryz.prog W0):Contract Tryz.prog W0 10 QbL:=mkC Qs3 (Qc ⟨Qkt,Qfd hT hM hS,trivial⟩) Tryz.func10 (by kernel_rfl) rfl
theorem QGe {W0:World}:Contract Tryz.prog W0 36 QFK:=mkC QGa (QxD ⟨QuA,QaV,QgP,Yd,trivial⟩ ⟨QtZ,trivial⟩) Tryz.func36 (by kernel_rfl) rfl
theorem QFU {W0:World}:Contract Tryz.prog W0 12 QFy:=mkC QFW (Qc ⟨QGe,trivial⟩) Tryz.func12 (by kernel_rfl) rfl
theorem QFQ {W0:World} (hT:Lib.TabIs Tryz.prog W0 "internal/strconv.uint64pow10" .u64 Lib.pow10Tab) (hM:∃m,W0.cell? ⟨0,0,none⟩=some (.int .i64 m)) (hS:Jk Tryz.prog W0):Contract Tryz.prog W0 37 QFw:=mkC QFP (Qc ⟨QxZ,Qi8 hT hM hS,QmE hT hM hS,Qoj hT hM hS,trivial⟩) Tryz.func37 (by kernel_rfl) rfl
theorem QF1 {W0:World} (hT:Lib.TabIs Tryz.prog W0 "internal/strconv.uint64pow10" .u64 Lib.pow10Tab) (hM:∃m,W0.cell? ⟨0,0,none⟩=some (.int .i64 m)) (hS:Jk Tryz.prog W0):Contract Tryz.prog W0 13 QFH:=mkC QF2 (Qc ⟨QsW hT hM hS,QFQ hT hM hS,trivial⟩) Tryz.func13 (by kernel_rfl) rfl
theorem QF4 {W0:World}:Contract Tryz.prog W0 14 QFG:=mkC QF3 (Qc ⟨QwG,Qr3,QuB,QuG,trivial⟩) Tryz.func14 (by kernel_rfl) rfl
theorem QGg {W0:World}:Contract Tryz.prog W0 15 QFL:=mkC QGb (Qc ⟨QuM,QxZ,trivial⟩) Tryz.func15 (by kernel_rfl) rfl
theorem QGr {W0:World} (hT:Lib.TabIs Tryz.prog W0 "internal/strconv.uint64pow10" .u64 Lib.pow10Tab) (hM:∃m,W0.cell? ⟨0,0,none⟩=some (.int .i64 m)) (hS:Jk Tryz.prog W0):Contract Tryz.prog W0 16 QFT:=mkC QGq (Qc ⟨Qqo,Qi8 hT hM hS,trivial⟩) Tryz.func16 (by kernel_rfl) rfl
theorem QGp {W0:World}:Contract Tryz.prog W0 17 QFO:=mkC QGl (Qc trivial) Tryz.func17 (by kernel_rfl) rfl
theorem QGc {W0:World} (hT:Lib.TabIs Tryz.prog W0 "internal/strconv.uint64pow10" .u64 Lib.pow10Tab) (hM:∃m,W0.cell? ⟨0,0,none⟩=some (.int .i64 m)) (hS:Jk Tryz.prog W0):Contract Tryz.prog W0 18 QFM:=mkC QGj (Qc ⟨QsW hT hM hS,QmE hT hM hS,trivial⟩) Tryz.func18 (by kernel_rfl) rfl
theorem QF8 {W0:World} (hT:Lib.TabIs Tryz.prog W0 "internal/strconv.uint64pow10" .u64 Lib.pow10Tab) (hM:∃m,W0.cell? ⟨0,0,none⟩=some (.int .i64 m)) (hS:Jk Tryz.prog W0):Contract Tryz.prog W0 4 QFI:=mkC QF9 (Qc ⟨QxJ,QsW hT hM hS,QFU,QF1 hT hM hS,QF4,QGg,QGr hT hM hS,QGp,QGc hT hM hS,trivial⟩) Tryz.func4 (by kernel_rfl) rfl
end GL
end Go.Dx

