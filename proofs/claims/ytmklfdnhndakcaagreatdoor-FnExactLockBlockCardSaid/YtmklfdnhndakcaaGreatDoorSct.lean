/- What each function computes is so: by computation, each behind those that it calls -/
import Derived.Test.YtmklfdnhndakcaaGreatDoorSck
import Derived.Test.YtmklfdnhndakcaaGreatDoorHdSwpW264
import Derived.Test.YtmklfdnhndakcaaGreatDoorHdDigW265
import Derived.Test.YtmklfdnhndakcaaGreatDoorHdRewW117
import Derived.Test.YtmklfdnhndakcaaGreatDoorHdSplitW219
import Derived.Test.YtmklfdnhndakcaaGreatDoorHdFmtW272
import Derived.Test.YtmklfdnhndakcaaGreatDoorHdNumW220
import Derived.Test.YtmklfdnhndakcaaGreatDoorHdJoinW273
import Derived.Test.YtmklfdnhndakcaaGreatDoorHdCutW319
import Derived.Test.YtmklfdnhndakcaaGreatDoorHdSortW294
import Derived.Test.YtmklfdnhndakcaaGreatDoorHdDelW283
import Derived.Test.YtmklfdnhndakcaaGreatDoorHdInsW289
import Derived.Test.YtmklfdnhndakcaaGreatDoorHdDelC260
import Derived.Test.YtmklfdnhndakcaaGreatDoorHdRevW
import Derived.Test.YtmklfdnhndakcaaGreatDoorDxr
set_option linter.unusedVariables false
set_option linter.unusedSimpArgs false
set_option maxRecDepth 100000
set_option maxHeartbeats 0
noncomputable section
namespace Go.Dx
open Go.Proofs
namespace GL
structure Hyp (W0:World):Prop where
 T:Lib.TabIs Tryz.prog W0 "internal/strconv.uint64pow10" .u64 Lib.pow10Tab
 M:∃m,W0.cell? ⟨0,0,none⟩=some (.int .i64 m)
 S:Qg8 Tryz.prog W0
theorem npOk (W0:World):NpsL Tryz.prog W0 np:=trivial
abbrev Ok (T:Tb):Prop:=∀W0,Hyp W0->FnsL Tryz.prog W0 T
structure PT where
 t:Tb
 o:Ok t
def st (p:PT) {j:FuncId} {fn:Func} (I:Tryz.prog.funcs[j]? = some fn) (i:List PS) (o:List (Sh×Fl)) (F:TupI (i.map PS.sh)->Option (TupO (o.map (·.1)++QaO i))) (h:Hi:={}) (d:Bool:=true) (he:EQ (mkX tys np p.t d h) fn ⟨i,o,F,d⟩:=by intro t;kernel_rfl) (hb:entB fn=true:=by kernel_rfl):PT:=⟨(j,⟨i,o,F,d⟩)::p.t,stpT (X0:=X0) (K:=⟨i,o,F,d⟩) QsL npOk follows p.o I h he hb⟩
def sc (p:PT) {j:FuncId} {K:Callee} (h:∀{W0:World},Hyp W0->Contract Tryz.prog W0 j K):PT:=⟨(j,K)::p.t,fun _ y=>.cons (h y) (p.o _ y)⟩
def h0:Hi:={ lps:=[(5,(⟨ks [0] [kI 1,kI 5],[]⟩,⟨[((.exit 0),⟨[kI 1],[]⟩),(.ret,⟨[kI 4],[]⟩)]⟩))] }
def h1:Hi:={ lps:=[(2,(⟨ks [0,1] [kI 5],[]⟩,⟨[((.exit 0),⟨[],[]⟩),(.ret,⟨[kI 4],[]⟩)]⟩))] }
def h2:Hi:={ rjs:=[(1,⟨[kB 6],[]⟩)] }
def h3:Hi:={ lps:=[(2,(⟨ks [0,3] [kI 5],ks [3] []⟩,⟨[((.exit 0),⟨[],[]⟩),(.ret,⟨[kB 4],[]⟩)]⟩))] }
def h4:Hi:={ lps:=[(2,(⟨ks [0,1] [kI 5],[]⟩,⟨[((.exit 0),⟨[],[]⟩),(.ret,⟨[kB 4],[]⟩)]⟩))] }
def h5:Hi:={ lps:=[(3,(⟨ks [0] [(3,.st (.list s7) (.o (.p .z (.p (.p .z (.p (.o .z) .z)) .z))) false),kI 4],[]⟩,⟨[((.exit 0),⟨[(3,.st (.list s7) (.o (.p .z (.p (.p .z (.p (.o .z) .z)) .z))) false)],[]⟩)]⟩))] }
def h6:Hi:={ rjs:=[(1,⟨[kB 2],[]⟩)] }
def h7:Hi:={ rjs:=[(1,⟨[kB 4],[]⟩)] }
def h8:Hi:={ lps:=[(3,(⟨ks [0] [kI 3,kI 4],[]⟩,⟨[((.exit 0),⟨[kI 3],[]⟩)]⟩))] }
def h9:Hi:={ frz:=[(7,0)] }
def h10:Hi:={ lps:=[(4,(⟨ks [0,1] [kI 5],[]⟩,⟨[((.exit 0),⟨[],[]⟩),(.ret,⟨[kB 4],[]⟩)]⟩))] }
def h11:Hi:={ lps:=[(3,(⟨ks [0] [(3,.st (.list s2) (.o .z) false),kI 4],[]⟩,⟨[((.exit 0),⟨[(3,.st (.list s2) (.o .z) false)],[]⟩)]⟩))] }
def h12:Hi:={ lps:=[(2,(⟨ks [0,1,7] [kI 8],[]⟩,⟨[((.exit 0),⟨[],[]⟩),(.ret,⟨[kI 4],[]⟩)]⟩))] }
def h13:Hi:={ lps:=[(2,(⟨ks [0,3,7] [kI 8],ks [3] []⟩,⟨[((.exit 0),⟨[],[]⟩),(.ret,⟨[kI 4],[]⟩)]⟩))] }
def h14:Hi:={ lps:=[(4,(⟨ks [1,2,15,16] [kI 17],[]⟩,⟨[((.exit 0),⟨[],[]⟩),(.ret,⟨[kB 6],[]⟩)]⟩))] }
def h15:Hi:={ lps:=[(4,(⟨ks [0,1,12] [kI 13],[]⟩,⟨[((.exit 0),⟨[],[]⟩),(.ret,⟨[kB 4],[]⟩)]⟩))] }
def h16:Hi:={ lps:=[(2,(⟨[(0,.st (.list s2) (.o .z) false),kI 1,kI 5],[]⟩,⟨[((.exit 0),⟨[(0,.st (.list s2) (.o .z) false),kI 1],[]⟩)]⟩))] }
def h17:Hi:={ lps:=[(2,(⟨ks [0] [kI 1,kI 5],[]⟩,⟨[((.exit 0),⟨[kI 1],[]⟩),(.ret,⟨[kI 4],[]⟩)]⟩))] }
def P0:PT:=⟨[],fun _ _=>trivial⟩
def P1:=st P0 Tryz.func44 [v0 (.list .str),vI] [oI] (u2 Qcs) h0
def P2:=st P1 Tryz.func45 [v0 (.list s0),vI] [oI] (u2 Qcc)
def P3:=st P2 Tryz.func13 [v0 s1,vI] [oI] (u2 Qdn)
def P4:=st P3 Tryz.func14 [v0 (.list s2),vI] [oI] (u2 Qb3)
def P5:=st P4 Tryz.func15 [v0 (.list (.int .i64)),vI] [oI] (u2 Y1)
def P6:=st P5 Tryz.func200 [v0 s3,vI] [oI] (u2 QeR)
def P7:=st P6 Tryz.func157 [v0 s4,vI] [oI] (u2 QfP)
def P8:=st P7 Tryz.func98 [v0 s7,vI] [oI] (u2 QeS)
def P9:=st P8 Tryz.func46 [v0 (.list s7),vI] [oI] (u2 QbV) h0
def P10:=st P9 Tryz.func47 [v0 (.list s2),vI] [oI] (u2 Yx)
def P11:=st P10 Tryz.func16 [v0 s10,vI] [oI] (u2 Ju)
def P12:=st P11 Tryz.func99 [v0 (.list (.list s7)),vI] [oI] (u2 Qc5) h0
def P13:=st P12 Tryz.func48 [v0 s12,vI] [oI] (u2 QeH)
def P14:=st P13 Tryz.func17 [v0 (.list s12),vI] [oI] (u2 YF) h0
def P15:=st P14 Tryz.func4 [v0 s16,vI] [oI] (u2 Qd7)
def P16:=st P15 Tryz.func100 [v0 (.list .str),v0 .str] [oI] (u2 Qew) h1
def P17:=st P16 Tryz.func102 [vI,vI,vI] [oB] (u3 QJ) h2
def P18:=st P17 Tryz.func101 [vI] [oB] (u1 JJ)
def P19:=st P18 Tryz.func103 [v0 (.list s0),v0 s0] [oB] (u2 Qa7) h3
def P20:=st P19 Tryz.func49 [.rp s1 false] [oI] (u1 YC) { lps:=[(4,(⟨ks [0] [kI 3],[]⟩,⟨[((.exit 0),⟨ks [0] [],[]⟩),(.ret,⟨[kI 2],[]⟩)]⟩)),(11,(⟨ks [0] [kI 4],[]⟩,⟨[((.exit 2),⟨[],[]⟩),(.ret,⟨[kI 2],[]⟩)]⟩))],rjs:=[(1,⟨ks [0] [kB 18],[]⟩),(6,⟨ks [0,3] [kB 47],[]⟩),(13,⟨ks [0,4] [kB 98],[]⟩)] }
def P21:=st P20 Tryz.func20 [v0 (.list s2),vI] [oI] (u2 YN) h1
def P22:=st P21 Tryz.func104 [v0 (.list s2),v0 s2] [oI] (u2 QeZ) { jns:=[(7,⟨[(.normal,⟨ks [3] [kI 5],ks [3] []⟩),(.ret,⟨[kI 4],[]⟩)]⟩)],rjs:=[(1,⟨ks [0,3] [kB 16],ks [3] []⟩)] }
def P23:=st P22 Tryz.func50 [v0 (.list s2)] [oI] (u1 QdT) { lps:=[(4,(⟨ks [0] [kI 3],[]⟩,⟨[((.exit 0),⟨[],[]⟩),(.ret,⟨[kI 2],[]⟩)]⟩))] }
def P24:=st P23 Tryz.func58 [v0 (.list s2),vI] [((.list (.int .i64)),(.o .z))] (u2 QaX) { lps:=[(2,(⟨ks [0] [kI 1,(5,.st (.list (.int .i64)) (.o .z) false)],[]⟩,⟨[((.exit 0),⟨[(5,.st (.list (.int .i64)) (.o .z) false)],[]⟩)]⟩))] }
def P25:=st P24 Tryz.func201 [.rp s1 false,vI] [oB] (u2 Qgp)
def P26:=st P25 Tryz.func158 [v0 s1,vI] [o0 s27] (u2 QcG)
def P27:=st P26 Tryz.func231 [v0 .str,v0 (.int .u8)] [((.list .str),(.o .z))] (u2 Z8) { lps:=[(4,(⟨ks [0,1] [(5,.st (.list .str) (.o .z) false),kI 6,kI 7],[]⟩,⟨[((.exit 0),⟨[(5,.st (.list .str) (.o .z) false)],[]⟩)]⟩))],jns:=[(7,⟨[(.normal,⟨ks [0,1,7] [(5,.st (.list .str) (.o .z) false),kI 6],[]⟩)]⟩)],rjs:=[(6,⟨ks [0,1,5,6,7] [kB 25],[]⟩)] }
def P28:=st P27 Tryz.func232 [v0 .str,vI] [oI,oB] (u2 Qr) { lps:=[(5,(⟨ks [0] [kI 6,kI 7],[]⟩,⟨[((.exit 0),⟨[kI 6],[]⟩),(.ret,⟨[kI 4,kB 5],[]⟩)]⟩))],rjs:=[(1,⟨ks [0] [kB 26],[]⟩),(7,⟨ks [0,6,7] [kB 42],[]⟩)] }
def P29:=st P28 Tryz.func23 [v0 (.list (.int .i64)),vI] [oB] (u2 ZL) h4
def P30:=st P29 Tryz.func233 [.rp s24 false] [oI] (u1 QdY) { lps:=[(8,(⟨ks [0] [kI 3],[]⟩,⟨[((.exit 0),⟨[],[]⟩),(.ret,⟨[kI 2],[]⟩)]⟩))],rjs:=[(1,⟨ks [0] [kB 25],[]⟩)] }
def P31:=st P30 Tryz.func202 [v0 .str] [(s24,(.p .z (.p .z (.p .z (.o .z))))),oB] (u1 Qec) { lps:=[(11,(⟨ks [2,4,11,13] [kB 12,kI 14],ks [2] [(11,.st s24 (.p .z (.p .z (.p .z (.o .z)))) false)]⟩,⟨[((.exit 0),⟨ks [2,11] [kB 12],ks [2] [(11,.st s24 (.p .z (.p .z (.p .z (.o .z)))) false)]⟩)]⟩))],rjs:=[(2,⟨ks [2,4] [kB 27],ks [2] []⟩),(8,⟨ks [2,4,11] [kB 12],ks [2,11] []⟩),(11,⟨ks [2,4,11,12,13,14] [kB 74],ks [2,11] []⟩),(14,⟨ks [2,4,11,13,14,15] [kB 12],ks [2,11] []⟩),(16,⟨ks [2] [kB 3],[(2,.st s24 (.p .z (.p .z (.p .z (.o .z)))) false)]⟩)] }
def P32:=st P31 Tryz.func159 [v0 .str] [(s25,(.p .z (.p .z (.p .z (.p .z (.o .z))))))] (u1 QbJ)
def P33:=st P32 Tryz.func105 [v0 s1,vI] [(s25,(.p .z (.p .z (.p .z (.p .z (.o .z))))))] (u2 Qat)
def P34:=st P33 Tryz.func162 [v0 s3] [(s3,(.p (.o .z) .z))] (u1 J2)
def P35:=st P34 Tryz.func110 [v0 (.list s7)] [((.list s7),(.o (.p .z (.p (.p .z (.p (.o .z) .z)) .z))))] (u1 Ya) h5
def P36:=st P35 Tryz.func56 [v0 s10] [o0 s10] (u1 QaV)
def P37:=st P36 Tryz.func111 [vI] [o0 s21] (u1 Q6)
def P38:=st P37 Tryz.func164 [v0 s0] [oB] (u1 Qb1) h6
def P39:=st P38 Tryz.func212 [v0 (.list s0),v0 s0] [oB] (u2 Qaq) h3
def P40:=st P39 Tryz.func172 [vI] [oB] (u1 YV)
def P41:=st P40 Tryz.func215 [.rp s3 false] [oI] (u1 Qas) { lps:=[(5,(⟨ks [0,3] [kI 4],[]⟩,⟨[((.exit 0),⟨ks [0,3] [],[]⟩),(.ret,⟨[kI 2],[]⟩)]⟩)),(12,(⟨ks [0] [kI 5],[]⟩,⟨[((.exit 2),⟨[],[]⟩),(.ret,⟨[kI 2],[]⟩)]⟩))],rjs:=[(9,⟨ks [0] [kB 46],[]⟩)] }
def P42:=st P41 Tryz.func236 [.rp s30 false] [oI] (u1 QeY) { lps:=[(2,(⟨ks [0] [kI 3],[]⟩,⟨[((.exit 0),⟨ks [0] [],[]⟩),(.ret,⟨[kI 2],[]⟩)]⟩))],rjs:=[(9,⟨[kB 49],[]⟩)] }
def P43:=st P42 Tryz.func206 [.rp s30 false] [oI] (u1 YB) { lps:=[(8,(⟨ks [0] [kI 3],[]⟩,⟨[((.exit 0),⟨ks [0] [],[]⟩),(.ret,⟨[kI 2],[]⟩)]⟩))],rjs:=[(1,⟨ks [0] [kB 22],[]⟩),(3,⟨ks [0] [kB 35],[]⟩),(5,⟨ks [0] [kB 51],[]⟩)] }
def P44:=sc P43 fun _=>QuT (ents Tryz.func264)
def P45:=sc P44 fun _=>QvF 19
def P46:=st P45 Tryz.func266 [.rp s3 false] [o0 .str] (u1 QcO) { lps:=[(3,(⟨ks [0] [kS 3 .str,kI 4],[]⟩,⟨[((.exit 0),⟨ks [0] [kS 3 .str],[]⟩)]⟩))],jns:=[(7,⟨[(.normal,⟨[kS 3 .str],[]⟩)]⟩)] }
def P47:=st P46 Tryz.func237 [.rp s30 false] [o0 .str] (u1 QcL) { lps:=[(5,(⟨ks [0] [kS 3 .str,kI 4],[]⟩,⟨[((.exit 0),⟨ks [0] [kS 3 .str],[]⟩)]⟩)),(12,(⟨ks [0] [kS 3 .str,kI 6],[]⟩,⟨[((.exit 2),⟨[kS 3 .str],[]⟩)]⟩))],jns:=[(3,⟨[(.normal,⟨ks [0] [kS 3 .str],[]⟩)]⟩),(9,⟨[(.normal,⟨ks [0,3,4] [kS 5 .str],[]⟩)]⟩)] } false
def P48:=st P47 Tryz.func262 [v0 .str] [((.list s0),(.o .z)),oB] (u1 QfB) { lps:=[(4,(⟨ks [5] [(4,.st (.list s0) (.o .z) false),kI 6],[]⟩,⟨[((.exit 0),⟨[(4,.st (.list s0) (.o .z) false)],[]⟩),(.ret,⟨[(2,.st (.list s0) (.o .z) false),kB 3],[]⟩)]⟩))],rjs:=[(11,⟨ks [4,5,6,8,10] [kB 48],[]⟩)] }
def P49:=st P48 Tryz.func263 [v0 .str] [(s3,(.p (.o .z) .z)),oB] (u1 QdM) { lps:=[(8,(⟨ks [2,4,7,8] [kB 6,kI 9],ks [2] [(7,.st s3 (.p (.o .z) .z) false)]⟩,⟨[((.exit 0),⟨ks [2,4,7] [kB 6],ks [2] [(7,.st s3 (.p (.o .z) .z) false)]⟩)]⟩))],jns:=[(14,⟨[(.normal,⟨ks [2,7] [kB 6],ks [2] [(7,.st s3 (.p (.o .z) .z) false)]⟩)]⟩)],rjs:=[(2,⟨ks [2,4] [kB 29],ks [2] []⟩),(11,⟨ks [2,4,7,8,9,10] [kB 6],ks [2,7] []⟩),(15,⟨ks [2,7,12] [kB 6],ks [2,7] []⟩),(17,⟨ks [2] [kB 3],[(2,.st s3 (.p (.o .z) .z) false)]⟩)] }
def P50:=st P49 Tryz.func235 [v0 .str] [(s30,(.p .z (.p .z (.p (.o .z) (.o (.p .z (.p (.o .z) .z))))))),oB] (u1 QdS) { lps:=[(22,(⟨ks [0,2,4,5] [kB 10,kI 11],ks [2] [(5,.st s30 (.p .z (.p .z (.p (.o .z) (.o (.p .z (.p (.o .z) .z)))))) false)]⟩,⟨[((.exit 0),⟨ks [0,2,5] [kB 10],ks [2] [(5,.st s30 (.p .z (.p .z (.p (.o .z) (.o (.p .z (.p (.o .z) .z)))))) false)]⟩),(.ret,⟨ks [2] [kB 3],[(2,.st s30 (.p .z (.p .z (.p (.o .z) (.o (.p .z (.p (.o .z) .z)))))) false)]⟩)]⟩))],jns:=[(5,⟨[(.normal,⟨ks [0,2,4,5] [kI 6],ks [2] [(5,.st s30 (.p .z (.p .z (.p (.o .z) (.o (.p .z (.p (.o .z) .z)))))) false)]⟩),(.ret,⟨ks [2] [kB 3],[(2,.st s30 (.p .z (.p .z (.p (.o .z) (.o (.p .z (.p (.o .z) .z)))))) false)]⟩)]⟩),(12,⟨[(.normal,⟨ks [0,2,4,5,7] [],ks [2] [(5,.st s30 (.p .z (.p .z (.p (.o .z) (.o (.p .z (.p (.o .z) .z)))))) false)]⟩)]⟩)],rjs:=[(4,⟨ks [0,2,4,5,6] [kB 29],ks [2,5] []⟩),(22,⟨ks [0,2,4,5,10,11] [kB 81],ks [2,5] []⟩),(29,⟨ks [0,2,4,5,11,13,15] [kB 10],ks [2,5,15] []⟩),(31,⟨ks [2] [kB 3],[(2,.st s30 (.p .z (.p .z (.p (.o .z) (.o (.p .z (.p (.o .z) .z)))))) false)]⟩)] } false
def P51:=st P50 Tryz.func205 [v0 .str] [(s31,(.p .z (.p .z (.p .z (.p (.o .z) (.o (.p .z (.p (.o .z) .z))))))))] (u1 Qf8) {} false
def P52:=st P51 Tryz.func166 [v0 s1,vI] [(s31,(.p .z (.p .z (.p .z (.p (.o .z) (.o (.p .z (.p (.o .z) .z))))))))] (u2 Qex) {} false
def P53:=st P52 Tryz.func173 [.rp s4 false] [oI] (u1 Qds)
def P54:=st P53 Tryz.func204 [v0 s0,v0 s0] [oB] (u2 QbX)
def P55:=st P54 Tryz.func163 [v0 (.list s7)] [oI] (u1 Ye) { lps:=[(4,(⟨ks [0] [kI 3],[]⟩,⟨[((.exit 0),⟨[],[]⟩),(.ret,⟨[kI 2],[]⟩)]⟩))],rjs:=[(6,⟨ks [0,3] [kB 29],[]⟩),(11,⟨ks [0,3] [kB 54],[]⟩)] }
def P56:=st P55 Tryz.func209 [v0 s30] [o0 s27] (u1 Qe4) {} false
def P57:=st P56 Tryz.func170 [v0 (.list s7),.rp s30 false] [((.list s7),(.o (.p .z (.p (.p .z (.p (.o .z) .z)) .z)))),oB] (u2 Jp) { lps:=[(3,(⟨ks [0,1] [(6,.st (.list s7) (.o .z) false),kI 7],[]⟩,⟨[((.exit 0),⟨ks [1] [(6,.st (.list s7) (.o .z) false)],[]⟩)]⟩))],jns:=[(6,⟨[(.normal,⟨ks [0,1,7] [(6,.st (.list s7) (.o .z) false)],[]⟩)]⟩)] }
def P58:=st P57 Tryz.func238 [.rp s7 false,vI] [oB] (u2 Qe1) h7
def P59:=st P58 Tryz.func240 [.rp s1 false,vI,vI] [oB] (u3 Qb6)
def P60:=st P59 Tryz.func239 [.rp s1 false,.rp s3 false,vI,vI] [oI] (u4 QfX) { lps:=[(5,(⟨ks [0,1,2] [kI 9,kI 10],[]⟩,⟨[((.exit 0),⟨ks [1] [kI 9],[]⟩)]⟩))],jns:=[(8,⟨[(.normal,⟨ks [0,1,2,10] [kI 9],[]⟩)]⟩)] }
def P61:=st P60 Tryz.func241 [v0 (.list s7)] [oI] (u1 Qfz) h8
def P62:=st P61 Tryz.func242 [.rp s30 false] [oI] (u1 QfG) h8
def P63:=st P62 Tryz.func210 [.rp s1 false,v0 (.list s7),.rp s30 false,vI,vI] [oI,oI] (u5 QbW) { lps:=[(5,(⟨ks [0,2,3,4,12] [kI 14],[]⟩,⟨[((.exit 0),⟨ks [0,2,3,12] [],[]⟩),(.ret,⟨[kI 10,kI 11],[]⟩)]⟩))],rjs:=[(12,⟨ks [2,12] [kB 63],[]⟩)] }
def P64:=st P63 Tryz.func168 [v0 s1,v0 (.list s7),v0 s30,vI] [o0 s0] (u4 QdN) {} false
def P65:=st P64 Tryz.func211 [v0 (.list s2),vI] [oI] (u2 QcU) h1
def P66:=st P65 Tryz.func213 [v0 (.list s2),v0 s2] [((.list s2),(.o .z)),oI] (u2 QcN) { lps:=[(5,(⟨ks [0,3] [kI 6,kI 7],ks [3] []⟩,⟨[((.exit 0),⟨ks [0,3] [kI 6],ks [3] []⟩),(.ret,⟨[(4,.st (.list s2) (.o .z) false),kI 5],[]⟩)]⟩))],jns:=[(10,⟨[(.normal,⟨ks [0,3,7] [kI 6],ks [3] []⟩)]⟩)] }
def P67:=st P66 Tryz.func169 [v0 (.list s2),.rp s30 false,vI] [((.list s2),(.o .z)),oI] (u3 QeP) { lps:=[(5,(⟨ks [0,1,2] [(8,.st (.list s2) (.o .z) false),kI 9],[]⟩,⟨[((.exit 0),⟨ks [1,2] [(8,.st (.list s2) (.o .z) false)],[]⟩)]⟩))],jns:=[(9,⟨[(.normal,⟨ks [0,1,2,9] [(8,.st (.list s2) (.o .z) false)],[]⟩)]⟩)],rjs:=[(1,⟨ks [0,1,2] [kB 24],[]⟩),(7,⟨ks [0,1,2,8,9] [kB 10],[]⟩),(8,⟨ks [0,1,2,8,9] [kB 63],[]⟩)] }
def P68:=st P67 Tryz.func165 [v0 (.list s7),v0 s0] [oI] (u2 QeC) { lps:=[(2,(⟨ks [0,3] [kI 5],ks [3] []⟩,⟨[((.exit 0),⟨[],[]⟩),(.ret,⟨[kI 4],[]⟩)]⟩))] }
def P69:=st P68 Tryz.func114 [v0 (.list s7),v0 (.list s0)] [((.list s7),(.o .z)),oB] (u2 QcJ) { lps:=[(3,(⟨ks [1] [(6,.st (.list s7) (.o .z) false),kI 7],[]⟩,⟨[((.exit 0),⟨[(6,.st (.list s7) (.o .z) false)],[]⟩),(.ret,⟨[(4,.st (.list s7) (.o (.p .z (.p (.p .z (.p (.o .z) .z)) .z))) false),kB 5],[]⟩)]⟩))] }
def P70:=st P69 Tryz.func174 [v0 (.list s7),vI] [oB] (u2 QeA) h4
def P71:=st P70 Tryz.func216 [v0 (.list s7),v0 s7] [((.list s7),(.o .z))] (u2 QdJ) { lps:=[(2,(⟨ks [0,3] [kI 5],ks [3] []⟩,⟨[((.exit 0),⟨ks [0,3] [kI 5],ks [3] []⟩)]⟩))],rjs:=[(2,⟨ks [0,3,5] [kB 20],ks [3] []⟩)] }
def P72:=st P71 Tryz.func175 [v0 (.list s7),vI,v0 (.list s4),vI,v0 .bool] [((.list s7),(.o .z))] (u5 QfH) { frz:=[(6,0)],lps:=[(3,(⟨ks [1,2,3,4] [(11,.st (.list s7) (.o .z) false),kI 12],[]⟩,⟨[((.exit 0),⟨[(11,.st (.list s7) (.o .z) false)],[]⟩)]⟩))] }
def P73:=st P72 Tryz.func118 [v0 (.list s7),vI,v0 (.list s4),vI,v0 .bool] [(s26,(.p .z (.o .z)))] (u5 JW) { lps:=[(9,(⟨ks [0,1,2,3,4,10] [kI 12],ks [10] []⟩,⟨[((.exit 0),⟨ks [0,1,2,3,4,10] [],ks [10] []⟩),(.ret,⟨ks [10] [],[(10,.st s26 (.p .z (.o (.p .z (.p (.p .z (.p (.o .z) .z)) .z)))) false)]⟩)]⟩))],rjs:=[(4,⟨ks [0,1,2,3,4,10] [kB 27],ks [10] []⟩)] }
def P74:=st P73 Tryz.func214 [v0 (.list s7),v0 s30] [(s26,(.p .z (.o (.p .z (.p (.p .z (.p (.o .z) .z)) .z)))))] (u2 Qgg)
def P75:=st P74 Tryz.func171 [v0 (.list s7),v0 s30,vI,vI] [o0 s26] (u4 Qd9) h9
def P76:=st P75 Tryz.func116 [.io s1 .z .z,.io s10 .z .z,vI,vI] [o0 (.list s7),oI,oI] (u4 Qgs) { frz:=[(11,5),(15,1)] } false
def P77:=sc P76 fun _=>QuU (ents Tryz.func117)
def P78:=st P77 Tryz.func60 [.io s1 .z .z,v0 s10,vI] [o0 s21] (u3 Yv) { lps:=[(8,(⟨ks [0,2,6,7,8] [kI 9],ks [6,7] [(8,.st s21 (.p .z (.p .z (.p (.p .z (.p (.o .z) (.o .z))) .z))) false),kS 139 s1]⟩,⟨[((.exit 0),⟨ks [2,6,7,8] [],ks [6,7] [(8,.st s21 (.p .z (.p .z (.p (.p .z (.p (.o .z) (.o .z))) .z))) false),kS 139 s1]⟩),(.ret,⟨ks [6] [],[kS 6 s21,kS 139 s1]⟩)]⟩))],rjs:=[(4,⟨ks [0,2,4,6,7] [kB 41],ks [4,6,7,139] []⟩)] } false
def P79:=st P78 Tryz.func106 [v0 s1,v0 (.list (.int .i64))] [o0 s21] (u2 Qad) { frz:=[(10,1)],lps:=[(8,(⟨ks [1,2,4,6] [kI 7],ks [4] [kS 2 s1,(6,.st s21 (.p .z (.p .z (.p (.p .z (.p (.o (.o (.p .z (.p (.p .z (.p (.o .z) .z)) .z)))) (.o .z))) .z))) false)]⟩,⟨[((.exit 0),⟨ks [4,6] [],ks [4] [(6,.st s21 (.p .z (.p .z (.p (.p .z (.p (.o (.o (.p .z (.p (.p .z (.p (.o .z) .z)) .z)))) (.o .z))) .z))) false)]⟩),(.ret,⟨ks [4] [],[kS 4 s21]⟩)]⟩))] } false
def P80:=st P79 Tryz.func51 [.rp s16 false] [oI] (u1 Qc9) { lps:=[(2,(⟨ks [0] [kI 3],[]⟩,⟨[((.exit 0),⟨[],[]⟩),(.ret,⟨[kI 2],[]⟩)]⟩))],rjs:=[(7,⟨ks [0,3] [kB 58],ks [4] []⟩)] } false
def P81:=st P80 Tryz.func109 [v0 (.list s2),vI,vI] [oB] (u3 QbS) { lps:=[(1,(⟨ks [0,1] [kI 2],[]⟩,⟨[((.exit 0),⟨[],[]⟩),(.ret,⟨[kB 6],[]⟩)]⟩))] }
def P82:=st P81 Tryz.func54 [v0 (.list s2),vI,vI] [oB] (u3 Qax) h2
def P83:=st P82 Tryz.func21 [v0 (.list s2),v0 (.list (.int .i64)),vI] [oB] (u3 QbT) { lps:=[(2,(⟨ks [0,1,2] [kI 7],[]⟩,⟨[((.exit 0),⟨[],[]⟩),(.ret,⟨[kB 6],[]⟩)]⟩))] }
def P84:=st P83 Tryz.func52 [.rp s16 false] [oI] (u1 Qc3) { lps:=[(2,(⟨ks [0] [kI 3],[]⟩,⟨[((.exit 0),⟨[],[]⟩),(.ret,⟨[kI 2],[]⟩)]⟩))] }
def P85:=st P84 Tryz.func61 [v0 (.list s2),v0 s2,v0 (.list (.int .i64))] [oB] (u3 Qe5) { lps:=[(2,(⟨ks [0,2,4] [kI 7],ks [4] []⟩,⟨[((.exit 0),⟨[],[]⟩),(.ret,⟨[kB 6],[]⟩)]⟩))],rjs:=[(4,⟨ks [0,2,4,7] [kB 37],ks [4] []⟩)] }
def P86:=st P85 Tryz.func25 [v0 (.list s2),v0 (.list (.int .i64))] [oI] (u2 QaS) { lps:=[(3,(⟨ks [0,1] [kI 5,kI 6],[]⟩,⟨[((.exit 0),⟨ks [0] [kI 5],[]⟩)]⟩))],jns:=[(6,⟨[(.normal,⟨ks [0,1,6] [kI 5],[]⟩)]⟩)],rjs:=[(5,⟨ks [0,1,5,6] [kB 36],[]⟩)] }
def P87:=st P86 Tryz.func234 [v0 (.list (.int .i64)),v0 (.list (.int .i64))] [oB] (u2 Qfa) h10
def P88:=st P87 Tryz.func203 [.rp s3 false,.rp s3 false] [oB] (u2 QcM) h7
def P89:=st P88 Tryz.func160 [v0 (.list s7),v0 (.list s7)] [oB] (u2 QcP) { lps:=[(4,(⟨ks [0,1] [kI 5],[]⟩,⟨[((.exit 0),⟨[],[]⟩),(.ret,⟨[kB 4],[]⟩)]⟩))],rjs:=[(6,⟨ks [0,1,5] [kB 82],[]⟩)] }
def P90:=st P89 Tryz.func161 [v0 (.list s2),v0 (.list s2)] [oB] (u2 QcQ) h10
def P91:=st P90 Tryz.func107 [.rp s10 false,.rp s10 false] [oB] (u2 QeI) h7
def P92:=st P91 Tryz.func108 [.rp s12 false,.rp s12 false] [oB] (u2 Qa4) { lps:=[(4,(⟨ks [0,1] [kI 5],[]⟩,⟨[((.exit 0),⟨[],[]⟩),(.ret,⟨[kB 4],[]⟩)]⟩))],rjs:=[(1,⟨ks [0,1] [kB 39],[]⟩)] }
def P93:=st P92 Tryz.func53 [.io s16 .z .z] [oI] (u1 Qc8) { frz:=[(4,4),(15,3)],lps:=[(13,(⟨ks [0,3,5] [kI 6],[kS 5 s10,kS 85 s16]⟩,⟨[((.exit 0),⟨[],[kS 85 s16]⟩),(.ret,⟨[kI 2],[kS 85 s16]⟩)]⟩))] } false
def P94:=st P93 Tryz.func18 [.io s16 .z .z] [oI] (u1 Qc7) {} false
def P95:=st P94 Tryz.func19 [vI] [(s18,(.p .z (.p .z (.p (.p (.o .z) (.o .z)) (.p (.o .z) (.p (.o .z) (.p (.p .z (.p .z (.p (.o (.p .z (.p (.p .z (.p (.o .z) .z)) .z))) (.o .z)))) (.o (.p .z (.p (.o (.o (.p .z (.p (.p .z (.p (.o .z) .z)) .z)))) (.o .z)))))))))))] (u1 Jd)
def P96:=st P95 Tryz.func55 [v0 s1] [(s1,(.p (.o .z) (.o .z)))] (u1 QeO)
def P97:=st P96 Tryz.func57 [v0 s12] [(s12,(.p .z (.p (.o (.o (.p .z (.p (.p .z (.p (.o .z) .z)) .z)))) (.o .z))))] (u1 QdW) { lps:=[(3,(⟨ks [1,2,3] [kI 4],ks [1,2] [(3,.st s12 (.p .z (.p (.o (.o (.p .z (.p (.p .z (.p (.o .z) .z)) .z)))) (.o .z))) false)]⟩,⟨[((.exit 0),⟨ks [2,3] [],ks [2] [(3,.st s12 (.p .z (.p (.o (.o (.p .z (.p (.p .z (.p (.o .z) .z)) .z)))) (.o .z))) false)]⟩)]⟩))] }
def P98:=st P97 Tryz.func22 [v0 s16] [(s16,(.p .z (.p .z (.p (.o .z) (.p .z (.o .z))))))] (u1 Qb4) { lps:=[(3,(⟨ks [1,2,3] [kI 4],ks [1,2] [(3,.st s16 (.p (.p (.o .z) (.o .z)) (.p (.o .z) (.p (.o .z) (.p .z (.o (.p .z (.p (.o (.o (.p .z (.p (.p .z (.p (.o .z) .z)) .z)))) (.o .z)))))))) false)]⟩,⟨[((.exit 0),⟨ks [2,3] [],ks [2] [(3,.st s16 (.p (.p (.o .z) (.o .z)) (.p (.o .z) (.p (.o .z) (.p .z (.o (.p .z (.p (.o (.o (.p .z (.p (.p .z (.p (.o .z) .z)) .z)))) (.o .z)))))))) false)]⟩)]⟩))] }
def P99:=st P98 Tryz.func113 [v0 (.list s2)] [oI] (u1 QbR) { lps:=[(4,(⟨ks [0] [kI 3],[]⟩,⟨[((.exit 0),⟨ks [0] [],[]⟩),(.ret,⟨[kI 2],[]⟩)]⟩)),(11,(⟨ks [0] [kI 4],[]⟩,⟨[((.exit 2),⟨[],[]⟩),(.ret,⟨[kI 2],[]⟩)]⟩)),(14,(⟨ks [0,4] [kI 5],[]⟩,⟨[((.exit 4),⟨ks [0,4] [],[]⟩),(.ret,⟨[kI 2],[]⟩)]⟩))],rjs:=[(6,⟨ks [0,3] [kB 30],[]⟩),(8,⟨ks [0,3] [kB 46],[]⟩)] }
def P100:=st P99 Tryz.func112 [.rp s10 false] [oI] (u1 Qd2) { rjs:=[(1,⟨ks [0] [kB 17],[]⟩)] }
def P101:=st P100 Tryz.func207 [v0 (.list s7),.rp s30 false,vI] [oB] (u3 QeV) { lps:=[(3,(⟨ks [0,1,2] [kI 7,kI 8],[]⟩,⟨[((.exit 0),⟨ks [1] [kI 7],[]⟩),(.ret,⟨[kB 6],[]⟩)]⟩))],rjs:=[(7,⟨ks [0,1,2,7,8] [kB 69],[]⟩)] }
def P102:=st P101 Tryz.func208 [v0 (.list s7),vI,v0 (.list s7)] [((.list s7),(.o (.p .z (.p (.p .z (.p (.o .z) .z)) .z))))] (u3 QeJ) { frz:=[(10,0)],lps:=[(3,(⟨ks [0,1,2] [(7,.st (.list s7) (.o .z) false),kI 8],[]⟩,⟨[((.exit 0),⟨ks [2] [(7,.st (.list s7) (.o .z) false)],[]⟩)]⟩)),(8,(⟨ks [2] [(7,.st (.list s7) (.o .z) false),kI 9],[]⟩,⟨[((.exit 2),⟨[(7,.st (.list s7) (.o .z) false)],[]⟩)]⟩))],jns:=[(6,⟨[(.normal,⟨ks [0,1,2,8] [(7,.st (.list s7) (.o .z) false)],[]⟩)]⟩)] }
def P103:=st P102 Tryz.func167 [v0 (.list s7),v0 s30,vI,v0 (.list s7)] [(s26,(.p .z (.o (.p .z (.p (.p .z (.p (.o .z) .z)) .z)))))] (u4 QeT) { lps:=[(18,(⟨ks [0,2,3,5,8] [kI 14],ks [5,8] []⟩,⟨[((.exit 0),⟨ks [0,2,3,8] [],ks [8] []⟩),(.ret,⟨ks [8] [],[(8,.st s26 (.p .z (.o (.p .z (.p (.p .z (.p (.o .z) .z)) .z)))) false)]⟩)]⟩))],rjs:=[(13,⟨ks [0,2,3,5,8] [kB 50],ks [5,8] []⟩)] }
def P104:=st P103 Tryz.func115 [.rp s1 false,.io s10 .z .z,v0 (.list (.int .i64)),.rp s12 false] [oI] (u4 QeK) { lps:=[(2,(⟨ks [0,1,2,3] [kI 9],[kS 61 s10]⟩,⟨[((.exit 0),⟨[],[kS 61 s10]⟩),(.ret,⟨[kI 8],[kS 61 s10]⟩)]⟩))] } false
def P105:=st P104 Tryz.func59 [v0 s1,v0 s10,v0 s12] [o0 s21] (u3 Jx) { frz:=[(0,0),(0,2),(22,2)],rjs:=[(7,⟨ks [3,4,5,6] [kB 34],ks [4,6] []⟩),(12,⟨ks [3,4,5,6,9] [kB 61],ks [4,6,9] []⟩)] } false
def P106:=st P105 Tryz.func24 [v0 s16,vI] [(s18,(.p .z (.p .z (.p .z (.p .z (.p (.o .z) (.p .z (.o .z))))))))] (u2 Qca) { lps:=[(4,(⟨ks [4,5,6,7] [],ks [4] [(5,.st s18 (.p .z (.p .z (.p .z (.p .z (.p (.o .z) (.p .z (.o .z))))))) false)]⟩,⟨[((.exit 0),⟨ks [4,5,6,7] [],ks [4] [(5,.st s18 (.p .z (.p .z (.p .z (.p .z (.p (.o .z) (.p .z (.o .z))))))) false)]⟩),(.ret,⟨ks [4] [],[(4,.st s18 (.p .z (.p .z (.p (.p (.o .z) (.o .z)) (.p (.o .z) (.p (.o .z) (.p (.p .z (.p .z (.p (.o (.p .z (.p (.p .z (.p (.o .z) .z)) .z))) (.o .z)))) (.o (.p .z (.p (.o (.o (.p .z (.p (.p .z (.p (.o .z) .z)) .z)))) (.o .z)))))))))) false)]⟩)]⟩)),(14,(⟨ks [4,5,6,7] [kI 9],ks [4] [(5,.st s18 (.p .z (.p .z (.p .z (.p .z (.p (.o .z) (.p .z (.o .z))))))) false)]⟩,⟨[((.exit 2),⟨ks [4,5] [],ks [4] [(5,.st s18 (.p .z (.p .z (.p .z (.p .z (.p (.o .z) (.p .z (.o .z))))))) false)]⟩),(.ret,⟨ks [4] [],[(4,.st s18 (.p .z (.p .z (.p (.p (.o .z) (.o .z)) (.p (.o .z) (.p (.o .z) (.p (.p .z (.p .z (.p (.o (.p .z (.p (.p .z (.p (.o .z) .z)) .z))) (.o .z)))) (.o (.p .z (.p (.o (.o (.p .z (.p (.p .z (.p (.o .z) .z)) .z)))) (.o .z)))))))))) false)]⟩)]⟩))],rjs:=[(4,⟨ks [4,5,6,7] [kB 36],ks [4,5] []⟩)] } false
def P107:=st P106 Tryz.func5 [v0 s16,vI] [(s18,(.p .z (.p .z (.p .z (.p .z (.p (.o .z) (.p .z (.o .z))))))))] (u2 Qcm) { rjs:=[(13,⟨ks [4,6] [],ks [4] [kS 6 s16]⟩)] } false
def P108:=st P107 Tryz.func62 [v0 (.list .str)] [((.list .str),(.o .z))] (u1 QcA) { lps:=[(3,(⟨ks [0] [(3,.st (.list .str) (.o .z) false),kI 4],[]⟩,⟨[((.exit 0),⟨[(3,.st (.list .str) (.o .z) false)],[]⟩)]⟩))] }
def P109:=st P108 Tryz.func119 [v0 s0] [o0 s0] (u1 Qe2)
def P110:=st P109 Tryz.func63 [v0 (.list s0)] [((.list s0),(.o .z))] (u1 QdZ) { lps:=[(3,(⟨ks [0] [(3,.st (.list s0) (.o .z) false),kI 4],[]⟩,⟨[((.exit 0),⟨[(3,.st (.list s0) (.o .z) false)],[]⟩)]⟩))] }
def P111:=st P110 Tryz.func26 [v0 s1] [(s1,(.p (.o .z) (.o .z)))] (u1 Qdg)
def P112:=st P111 Tryz.func64 [v0 s2] [o0 s2] (u1 QeE)
def P113:=st P112 Tryz.func27 [v0 (.list s2)] [((.list s2),(.o .z))] (u1 Qd5) h11
def P114:=st P113 Tryz.func28 [v0 (.list (.int .i64))] [((.list (.int .i64)),(.o .z))] (u1 Qbm) { lps:=[(3,(⟨ks [0] [(3,.st (.list (.int .i64)) (.o .z) false),kI 4],[]⟩,⟨[((.exit 0),⟨[(3,.st (.list (.int .i64)) (.o .z) false)],[]⟩)]⟩))] }
def P115:=st P114 Tryz.func176 [v0 s0] [o0 s0] (u1 QfU)
def P116:=st P115 Tryz.func217 [v0 s3] [(s3,(.p (.o .z) .z))] (u1 Qe7)
def P117:=st P116 Tryz.func177 [v0 s4] [(s4,(.p .z (.p (.o .z) .z)))] (u1 QfZ)
def P118:=st P117 Tryz.func120 [v0 s7] [(s7,(.p .z (.p (.p .z (.p (.o .z) .z)) .z)))] (u1 QcR)
def P119:=st P118 Tryz.func65 [v0 (.list s7)] [((.list s7),(.o (.p .z (.p (.p .z (.p (.o .z) .z)) .z))))] (u1 Qan) h5
def P120:=st P119 Tryz.func121 [v0 s2] [o0 s2] (u1 Qa9)
def P121:=st P120 Tryz.func66 [v0 (.list s2)] [((.list s2),(.o .z))] (u1 QaI) h11
def P122:=st P121 Tryz.func29 [v0 s10] [(s10,(.p .z (.p .z (.p (.o (.p .z (.p (.p .z (.p (.o .z) .z)) .z))) (.o .z)))))] (u1 Qd8)
def P123:=st P122 Tryz.func122 [v0 (.list (.list s7))] [((.list (.list s7)),(.o (.o (.p .z (.p (.p .z (.p (.o .z) .z)) .z)))))] (u1 Qdh) { lps:=[(3,(⟨ks [0] [(3,.st (.list (.list s7)) (.o (.o (.p .z (.p (.p .z (.p (.o .z) .z)) .z)))) false),kI 4],[]⟩,⟨[((.exit 0),⟨[(3,.st (.list (.list s7)) (.o (.o (.p .z (.p (.p .z (.p (.o .z) .z)) .z)))) false)],[]⟩)]⟩))] }
def P124:=st P123 Tryz.func67 [v0 s12] [(s12,(.p .z (.p (.o (.o (.p .z (.p (.p .z (.p (.o .z) .z)) .z)))) (.o .z))))] (u1 QcS)
def P125:=st P124 Tryz.func30 [v0 (.list s12)] [((.list s12),(.o (.p .z (.p (.o (.o (.p .z (.p (.p .z (.p (.o .z) .z)) .z)))) (.o .z)))))] (u1 Qek) { lps:=[(3,(⟨ks [0] [(3,.st (.list s12) (.o (.p .z (.p (.o (.o (.p .z (.p (.p .z (.p (.o .z) .z)) .z)))) (.o .z)))) false),kI 4],[]⟩,⟨[((.exit 0),⟨[(3,.st (.list s12) (.o (.p .z (.p (.o (.o (.p .z (.p (.p .z (.p (.o .z) .z)) .z)))) (.o .z)))) false)],[]⟩)]⟩))] }
def P126:=st P125 Tryz.func6 [v0 s16] [(s16,(.p (.p (.o .z) (.o .z)) (.p (.o .z) (.p (.o .z) (.p (.p .z (.p .z (.p (.o (.p .z (.p (.p .z (.p (.o .z) .z)) .z))) (.o .z)))) (.o (.p .z (.p (.o (.o (.p .z (.p (.p .z (.p (.o .z) .z)) .z)))) (.o .z)))))))))] (u1 Jv)
def P127:=st P126 Tryz.func126 [vI,vI,vI] [oB] (u3 QX) h2
def P128:=st P127 Tryz.func123 [v0 .str] [oB] (u1 QeN)
def P129:=st P128 Tryz.func178 [v0 (.list .str),v0 .str] [oI] (u2 QT) h12
def P130:=st P129 Tryz.func124 [v0 (.list .str),v0 .str] [oB] (u2 ZS)
def P131:=st P130 Tryz.func125 [vI] [oB] (u1 JH)
def P132:=st P131 Tryz.func179 [v0 (.list s0),v0 s0] [oI] (u2 Yb) h13
def P133:=st P132 Tryz.func127 [v0 (.list s0),v0 s0] [oB] (u2 Q5)
def P134:=st P133 Tryz.func68 [v0 s1] [oI] (u1 Qbj) { lps:=[(4,(⟨ks [1,18,19] [kI 20],ks [1] []⟩,⟨[((.exit 0),⟨ks [1] [],ks [1] []⟩),(.ret,⟨[kI 2],[]⟩)]⟩)),(12,(⟨ks [1,36,37] [kI 38],ks [1] []⟩,⟨[((.exit 2),⟨[],[]⟩),(.ret,⟨[kI 2],[]⟩)]⟩))],rjs:=[(1,⟨ks [1] [kB 16],ks [1] []⟩),(14,⟨ks [1,5,6,36,37,38] [kB 55],ks [1,6] []⟩)] }
def P135:=st P134 Tryz.func185 [v0 (.list s2),v0 (.fn1 s2 .bool .z)] [oI] (u2 Zq) h12
def P136:=st P135 Tryz.func186 [v0 s2,.rp (.int .i64) false] [oB] (u2 Qdx)
def P137:=st P136 Tryz.func133 [v0 (.list s2),vI] [oI] (u2 ZZ)
def P138:=st P137 Tryz.func180 [vI] [oB] (u1 Jy)
def P139:=st P138 Tryz.func128 [v0 (.list s2),v0 s2] [oI] (u2 Qcy) { jns:=[(4,⟨[(.normal,⟨ks [0,3,6] [kI 5],ks [3] []⟩)]⟩)],rjs:=[(3,⟨ks [0,3,5,6] [kB 17],ks [3] []⟩),(5,⟨ks [0,3,5,6] [kB 24],ks [3] []⟩),(9,⟨ks [3,5] [kB 41],ks [3] []⟩)] }
def P140:=st P139 Tryz.func69 [v0 (.list s2)] [oI] (u1 Qcx) { lps:=[(4,(⟨ks [0,9,10] [kI 11],[]⟩,⟨[((.exit 0),⟨[],[]⟩),(.ret,⟨[kI 2],[]⟩)]⟩))] }
def P141:=st P140 Tryz.func218 [v0 s1,vI] [oB] (u2 Qbf)
def P142:=st P141 Tryz.func181 [v0 s1,vI] [o0 .str,oI] (u2 YS)
def P143:=sc P142 fun h=>QrY (ents Tryz.func219) h.M
def P144:=sc P143 fun h=>QvA (ents Tryz.func272) h.T
def P145:=st P144 Tryz.func245 [vI] [o0 .str] (u1 Y5)
def P146:=sc P145 fun h=>QuA (ents Tryz.func220) h.T h.S
def P147:=st P146 Tryz.func221 [v0 .str,v0 .str] [((.list (.int .i64)),(.o .z))] (u2 Qau) { lps:=[(3,(⟨ks [11,12] [(5,.st (.list (.int .i64)) (.o .z) false),kI 13],[]⟩,⟨[((.exit 0),⟨[(5,.st (.list (.int .i64)) (.o .z) false)],[]⟩)]⟩))] } false
def P148:=st P147 Tryz.func145 [v0 (.list (.int .i64)),vI] [oI] (u2 Zd) h12
def P149:=st P148 Tryz.func80 [v0 (.list (.int .i64)),vI] [oB] (u2 Qw)
def P150:=st P149 Tryz.func222 [v0 s24] [oI] (u1 QbL) { lps:=[(8,(⟨ks [1,36,37] [kI 38],ks [1] []⟩,⟨[((.exit 1),⟨[],[]⟩),(.ret,⟨[kI 2],[]⟩)]⟩))],rjs:=[(1,⟨ks [1] [kB 5],ks [1] []⟩)] }
def P151:=sc P150 fun _=>Qte (ents Tryz.func273)
def P152:=st P151 Tryz.func246 [v0 (.list (.int .i64)),v0 .str] [o0 .str] (u2 J5) { lps:=[(3,(⟨ks [1,9,10] [(5,.st (.list .str) (.o .z) false),kI 11],[]⟩,⟨[((.exit 0),⟨ks [1] [(5,.st (.list .str) (.o .z) false)],[]⟩)]⟩))] } false
def P153:=st P152 Tryz.func223 [v0 s24] [o0 .str] (u1 Qco) { jns:=[(3,⟨[(.normal,⟨ks [1] [kS 3 .str],ks [1] []⟩)]⟩)] } false
def P154:=st P153 Tryz.func182 [v0 .str] [(s24,(.p .z (.p .z (.p .z (.o .z))))),oB] (u1 Yz) { jns:=[(6,⟨[(.normal,⟨ks [0,2,5] [],ks [2] [(5,.st s24 (.p .z (.p .z (.p .z (.o .z)))) false)]⟩)]⟩)],rjs:=[(2,⟨ks [0,2,4] [kB 15],ks [2] []⟩),(7,⟨ks [2,5] [kB 47],ks [2,5] []⟩)] } false
def P155:=st P154 Tryz.func129 [v0 s1,vI] [o0 s24,oI] (u2 Z4) {} false
def P156:=st P155 Tryz.func141 [v0 (.list (.int .i64))] [((.list (.int .i64)),(.o .z))] (u1 ZP)
def P157:=st P156 Tryz.func257 [v0 s3] [(s3,(.p (.o .z) .z))] (u1 Qgk)
def P158:=st P157 Tryz.func228 [v0 s4] [(s4,(.p .z (.p (.o .z) .z)))] (u1 QcT)
def P159:=st P158 Tryz.func194 [v0 (.list s7)] [((.list s7),(.o (.p .z (.p (.p .z (.p (.o .z) .z)) .z))))] (u1 ZA) { lps:=[(3,(⟨ks [7,8] [(3,.st (.list s7) (.o (.p .z (.p (.p .z (.p (.o .z) .z)) .z))) false),kI 9],[]⟩,⟨[((.exit 0),⟨[(3,.st (.list s7) (.o (.p .z (.p (.p .z (.p (.o .z) .z)) .z))) false)],[]⟩)]⟩))] }
def P160:=st P159 Tryz.func195 [v0 (.list s2)] [((.list s2),(.o .z))] (u1 Qt)
def P161:=st P160 Tryz.func142 [v0 s10] [(s10,(.p .z (.p .z (.p (.o (.p .z (.p (.p .z (.p (.o .z) .z)) .z))) (.o .z)))))] (u1 Qbl)
def P162:=st P161 Tryz.func318 [] [((.list .str),(.o .z))] (fun t=>QaD )
def P163:=st P162 Tryz.func321 [v0 s3,v0 .str] [o0 .str] (u2 Qbd) { jns:=[(3,⟨[(.normal,⟨[kS 5 .str],[]⟩)]⟩)] } false
def P164:=st P163 Tryz.func275 [v0 s30] [o0 .str,oI] (u1 QcK) { lps:=[(6,(⟨ks [1,4,28,29] [(5,.st (.list .str) (.o .z) false),kI 30],ks [1] []⟩,⟨[((.exit 0),⟨ks [1,4] [(5,.st (.list .str) (.o .z) false)],ks [1] []⟩)]⟩)),(12,(⟨ks [52,53] [(4,.st (.list .str) (.o .z) false),kI 54],[]⟩,⟨[((.exit 2),⟨[(4,.st (.list .str) (.o .z) false)],[]⟩)]⟩))],jns:=[(3,⟨[(.normal,⟨ks [1] [(4,.st (.list .str) (.o .z) false)],ks [1] []⟩)]⟩)] } false
def P165:=st P164 Tryz.func252 [vI] [oB] (u1 Yi)
def P166:=st P165 Tryz.func183 [v0 (.list (.int .i64)),v0 (.fn1 (.int .i64) .bool .z)] [oI] (u2 ZW) h12
def P167:=st P166 Tryz.func130 [v0 (.list (.int .i64)),v0 (.fn1 (.int .i64) .bool .z)] [oB] (u2 Q1)
def P168:=st P167 Tryz.func362 [vI] [oB] (u1 Qep)
def P169:=st P168 Tryz.func329 [v0 (.list (.int .i64))] [oB] (u1 Qd3)
def P170:=st P169 Tryz.func330 [v0 (.list (.int .i64))] [oB] (u1 Qdk) { lps:=[(2,(⟨ks [0] [kI 3],[]⟩,⟨[((.exit 0),⟨[],[]⟩),(.ret,⟨[kB 2],[]⟩)]⟩))] }
def P171:=st P170 Tryz.func291 [v0 s3] [oI] (u1 Jw) { rjs:=[(4,⟨ks [1] [kB 11],ks [1] []⟩)] }
def P172:=st P171 Tryz.func253 [v0 s4] [oI] (u1 YX)
def P173:=st P172 Tryz.func326 [v0 (.list s0),v0 s0] [oI] (u2 Yp) h13
def P174:=st P173 Tryz.func286 [v0 (.list s0),v0 s0] [oB] (u2 QI)
def P175:=st P174 Tryz.func298 [v0 s0] [oB] (u1 QaM) h6
def P176:=st P175 Tryz.func335 [vI] [oB] (u1 J8) h6
def P177:=st P176 Tryz.func303 [v0 s30] [oI] (u1 Qb2) { lps:=[(9,(⟨ks [1,47,48] [kI 49],ks [1] []⟩,⟨[((.exit 1),⟨ks [1] [],ks [1] []⟩),(.ret,⟨[kI 2],[]⟩)]⟩)),(17,(⟨ks [1,65,66] [kI 67],ks [1] []⟩,⟨[((.exit 3),⟨ks [1] [],ks [1] []⟩),(.ret,⟨[kI 2],[]⟩)]⟩))],rjs:=[(2,⟨ks [1,3] [kB 9],ks [1] []⟩),(4,⟨ks [1,3] [kB 23],ks [1] []⟩),(6,⟨ks [1] [kB 33],ks [1] []⟩),(23,⟨[kB 87],[]⟩)] }
def P178:=sc P177 fun h=>Qu4 (ents Tryz.func319) h.M
def P179:=st P178 Tryz.func359 [v0 .str,v0 .str] [(s3,(.p (.o .z) .z)),oB] (u2 Qc4) { jns:=[(6,⟨[(.normal,⟨ks [0,1,4,7] [],ks [4] [(7,.st s3 (.p (.o .z) .z) false)]⟩)]⟩)],rjs:=[(2,⟨ks [0,1,4,6] [kB 23],ks [4] []⟩),(7,⟨ks [4,7] [kB 51],ks [4,7] []⟩)] } false
def P180:=st P179 Tryz.func320 [v0 .str] [(s4,(.p .z (.p (.o .z) .z))),oB] (u1 Qea) {} false
def P181:=st P180 Tryz.func274 [v0 .str] [(s30,(.p .z (.p .z (.p (.o .z) (.o (.p .z (.p (.o .z) .z))))))),oB] (u1 QeG) { lps:=[(12,(⟨ks [0,2,4,5,63,64] [kI 65],ks [2] [(5,.st s30 (.p .z (.p .z (.p (.o .z) (.o (.p .z (.p (.o .z) .z)))))) false)]⟩,⟨[((.exit 0),⟨ks [0,2,4,5] [],ks [2] [(5,.st s30 (.p .z (.p .z (.p (.o .z) (.o (.p .z (.p (.o .z) .z)))))) false)]⟩)]⟩)),(18,(⟨ks [0,2,4,5,87,88] [kI 89],ks [2] [(5,.st s30 (.p .z (.p .z (.p (.o .z) (.o (.p .z (.p (.o .z) .z)))))) false)]⟩,⟨[((.exit 2),⟨ks [0,2,5] [],ks [2] [(5,.st s30 (.p .z (.p .z (.p (.o .z) (.o (.p .z (.p (.o .z) .z)))))) false)]⟩),(.ret,⟨ks [2] [kB 3],[(2,.st s30 (.p .z (.p .z (.p (.o .z) (.o (.p .z (.p (.o .z) .z)))))) false)]⟩)]⟩))],jns:=[(7,⟨[(.normal,⟨ks [0,2,5] [(4,.st (.list .str) (.o .z) false)],ks [2] [(5,.st s30 (.p .z (.p .z (.p (.o .z) (.o (.p .z (.p (.o .z) .z)))))) false)]⟩)]⟩)],rjs:=[(3,⟨ks [0,2,4,5] [kB 32],ks [2,5] []⟩),(6,⟨ks [0,2,4,5] [kB 43],ks [2,5] []⟩),(9,⟨ks [0,2,4,5] [kB 58],ks [2,5] []⟩),(28,⟨ks [2] [kB 3],[(2,.st s30 (.p .z (.p .z (.p (.o .z) (.o (.p .z (.p (.o .z) .z)))))) false)]⟩)] } false
def P182:=st P181 Tryz.func247 [v0 s1,vI] [o0 s30,oI] (u2 JQ) {} false
def P183:=sc P182 fun _=>Qs2 (ents Tryz.func294)
def P184:=st P183 Tryz.func360 [vI] [oB] (u1 QbF)
def P185:=st P184 Tryz.func324 [vI,vI] [oI] (u2 Ym)
def P186:=st P185 Tryz.func334 [v0 (.list (.int .i64))] [oI] (u1 QfO) { lps:=[(3,(⟨ks [3,6,7] [kI 8],[]⟩,⟨[((.exit 0),⟨ks [3] [],[]⟩),(.ret,⟨[kI 2],[]⟩)]⟩))] }
def P187:=st P186 Tryz.func296 [v0 s0,v0 s0] [oI] (u2 YG)
def P188:=st P187 Tryz.func295 [v0 s7,v0 s7] [oI] (u2 YA)
def P189:=st P188 Tryz.func255 [.v (.list s7) (.o .z)] [((.list s7),(.o .z))] (u1 J6)
def P190:=st P189 Tryz.func300 [v0 (.list s7),v0 s0,v0 (.fn2 s7 s0 (.int .i64))] [oI,oB] (u3 Za) { lps:=[(3,(⟨ks [0,2,4,8] [kI 9,kI 10],ks [4] []⟩,⟨[((.exit 0),⟨ks [0,2,4,8] [kI 9],ks [4] []⟩)]⟩))],jns:=[(6,⟨[(.normal,⟨ks [0,2,4,8] [kI 9,kI 10],ks [4] []⟩)]⟩)],rjs:=[(8,⟨[kI 6,kB 7],[]⟩)] }
def P191:=st P190 Tryz.func301 [v0 s7,v0 s0] [oI] (u2 Qa2)
def P192:=st P191 Tryz.func259 [v0 (.list s7),v0 s0] [oI,oB] (u2 Yg)
def P193:=st P192 Tryz.func250 [v0 (.list s7),v0 s30] [o0 (.list s7),oI] (u2 Qar) { lps:=[(3,(⟨ks [0,13,14] [(6,.st (.list s7) (.o .z) false),kI 15],[]⟩,⟨[((.exit 0),⟨[(6,.st (.list s7) (.o .z) false)],[]⟩),(.ret,⟨[(4,.st (.list s7) (.o (.p .z (.p (.p .z (.p (.o .z) .z)) .z))) false),kI 5],[]⟩)]⟩))] }
def P194:=st P193 Tryz.func276 [v0 s1,v0 .str] [oI] (u2 Qbe)
def P195:=st P194 Tryz.func277 [v0 s7,vI] [oB] (u2 QeW) h7
def P196:=st P195 Tryz.func281 [v0 s1,vI,vI] [oB] (u3 Z5)
def P197:=st P196 Tryz.func278 [v0 s1,v0 s3,vI,vI] [oI] (u4 JX) { lps:=[(5,(⟨ks [2,4,5,17,18] [kI 9,kI 19],ks [4,5] []⟩,⟨[((.exit 0),⟨ks [5] [kI 9],ks [5] []⟩)]⟩))],jns:=[(8,⟨[(.normal,⟨ks [2,4,5,17,18,19] [kI 9],ks [4,5] []⟩)]⟩)] }
def P198:=st P197 Tryz.func279 [v0 (.list s7)] [oI] (u1 Qf2) { lps:=[(3,(⟨ks [6,7] [kI 3,kI 8],[]⟩,⟨[((.exit 0),⟨[kI 3],[]⟩)]⟩))] }
def P199:=st P198 Tryz.func280 [v0 s30] [oI] (u1 QeM) { lps:=[(3,(⟨ks [7,8] [kI 3,kI 9],[]⟩,⟨[((.exit 0),⟨[kI 3],[]⟩)]⟩))] }
def P200:=st P199 Tryz.func248 [v0 s1,v0 (.list s7),v0 s30,vI] [oI,oI] (u4 J0) { frz:=[(10,0)],lps:=[(11,(⟨ks [3,4,6,12,13,40,41] [kI 42],ks [4,6] []⟩,⟨[((.exit 0),⟨ks [4,6,12,13] [],ks [4,6] []⟩),(.ret,⟨[kI 8,kI 9],[]⟩)]⟩))],rjs:=[(20,⟨ks [17] [kB 66],[]⟩)] } false
def P201:=st P200 Tryz.func322 [v0 (.list s2),vI,v0 (.fn2 s2 (.int .i64) (.int .i64))] [oI,oB] (u3 Q8) { lps:=[(3,(⟨ks [0,1,2,8] [kI 9,kI 10],[]⟩,⟨[((.exit 0),⟨ks [0,1,2,8] [kI 9],[]⟩)]⟩))],jns:=[(6,⟨[(.normal,⟨ks [0,1,2,8] [kI 9,kI 10],[]⟩)]⟩)],rjs:=[(8,⟨[kI 6,kB 7],[]⟩)] }
def P202:=st P201 Tryz.func323 [v0 s2,vI] [oI] (u2 Qag)
def P203:=st P202 Tryz.func282 [v0 (.list s2),vI] [oI,oB] (u2 Y7)
def P204:=sc P203 fun _=>Qvx (ents Tryz.func283)
def P205:=st P204 Tryz.func325 [v0 (.list s2),v0 (.fn1 s2 .bool .z)] [oI] (u2 QV) h12
def P206:=st P205 Tryz.func284 [.v (.list s2) (.o .z),v0 (.fn1 s2 .bool .z)] [((.list s2),(.o .z))] (u2 Zb) { lps:=[(5,(⟨ks [1] [(0,.st (.list s2) (.o .z) false),kI 5,kI 6],[]⟩,⟨[((.exit 0),⟨[(0,.st (.list s2) (.o .z) false),kI 5],[]⟩)]⟩))],jns:=[(9,⟨[(.normal,⟨ks [1,6] [(0,.st (.list s2) (.o .z) false),kI 5],[]⟩)]⟩)] }
def P207:=st P206 Tryz.func287 [v0 (.list s2),v0 (.fn1 s2 .bool .z)] [oB] (u2 QL)
def P208:=sc P207 fun _=>Qvu (ents Tryz.func289)
def P209:=st P208 Tryz.func285 [v0 s2,.rp s30 false] [oB] (u2 QbQ)
def P210:=st P209 Tryz.func288 [v0 s2,.rp s0 false] [oB] (u2 Qcb)
def P211:=st P210 Tryz.func249 [v0 (.list s2),v0 s30,vI] [o0 (.list s2),oI] (u3 Qbo) { jns:=[(5,⟨[(.normal,⟨ks [2,4] [(8,.st (.list s2) (.o .z) false)],ks [4] []⟩),(.ret,⟨[(6,.st (.list s2) (.o .z) false),kI 7],[]⟩)]⟩)],rjs:=[(14,⟨ks [4,8,11,12] [kB 52],ks [4,11] []⟩)] }
def P212:=st P211 Tryz.func331 [v0 (.list s7),v0 (.fn1 s7 .bool .z)] [oI] (u2 QM) h12
def P213:=st P212 Tryz.func292 [v0 (.list s7),v0 (.fn1 s7 .bool .z)] [oB] (u2 QH)
def P214:=st P213 Tryz.func293 [v0 s7,.rp (.int .i64) false] [oB] (u2 QfR)
def P215:=st P214 Tryz.func254 [v0 (.list s7),vI] [oB] (u2 QdE)
def P216:=st P215 Tryz.func226 [v0 (.list s7),vI,v0 (.list s4),vI,v0 .bool] [((.list s7),(.o .z)),oI] (u5 JU) { lps:=[(6,(⟨ks [0,1,2,3,4,31,32] [kI 33],[]⟩,⟨[((.exit 1),⟨ks [0,1,2,3,4] [],[]⟩),(.ret,⟨[(10,.st (.list s7) (.o (.p .z (.p (.p .z (.p (.o .z) .z)) .z))) false),kI 11],[]⟩)]⟩)),(18,(⟨ks [1,3,4,56,57] [(15,.st (.list s7) (.o (.p .z (.p (.p .z (.p (.o .z) .z)) .z))) false),kI 58],[]⟩,⟨[((.exit 4),⟨[(15,.st (.list s7) (.o (.p .z (.p (.p .z (.p (.o .z) .z)) .z))) false)],[]⟩)]⟩))],rjs:=[(1,⟨ks [0,1,2,3,4] [kB 18],[]⟩)] }
def P217:=sc P216 fun _=>Quv (ents Tryz.func260)
def P218:=st P217 Tryz.func290 [v0 (.list s7),v0 (.list s0)] [((.list s7),(.o .z)),oI] (u2 Qcn) { lps:=[(3,(⟨ks [13,14] [(6,.st (.list s7) (.o .z) false),kI 15],[]⟩,⟨[((.exit 0),⟨[(6,.st (.list s7) (.o .z) false)],[]⟩),(.ret,⟨[(4,.st (.list s7) (.o (.p .z (.p (.p .z (.p (.o .z) .z)) .z))) false),kI 5],[]⟩)]⟩))] }
def P219:=st P218 Tryz.func251 [v0 (.list s7),v0 s30,vI,vI] [o0 (.list s7),oI] (u4 Qed) h9
def P220:=st P219 Tryz.func224 [v0 s1,.io s10 .z .z,vI,vI] [oI,o0 (.list s7),oI] (u4 Qbp) {} false
def P221:=st P220 Tryz.func225 [vI] [oI] (u1 Qc6)
def P222:=st P221 Tryz.func187 [v0 s1,v0 s10,vI] [(s21,(.p .z (.p .z (.p (.p .z (.p (.o .z) (.o .z))) (.p .z (.p .z (.p (.o .z) .z)))))))] (u3 YJ) { lps:=[(10,(⟨ks [2,3,6,7,9,10,51,52] [kI 11,kI 53],ks [3,6,7] [kS 9 s10,(10,.st s12 (.p .z (.p (.o .z) (.o .z))) false)]⟩,⟨[((.exit 0),⟨ks [2,6,7,9,10] [kI 11],ks [6,7] [kS 9 s10,(10,.st s12 (.p .z (.p (.o .z) (.o .z))) false)]⟩),(.ret,⟨ks [6] [],[(6,.st s21 (.p .z (.p .z (.p (.p .z (.p (.o (.o (.p .z (.p (.p .z (.p (.o .z) .z)) .z)))) (.o .z))) (.p .z (.p .z (.p (.o (.p .z (.p (.p .z (.p (.o .z) .z)) .z))) (.o .z))))))) false)]⟩)]⟩))],rjs:=[(4,⟨ks [2,3,4,6,7] [kB 41],ks [3,4,6,7] []⟩)] } false
def P223:=st P222 Tryz.func134 [v0 s1,v0 (.list (.int .i64))] [o0 s21,o0 (.list s12)] (u2 JK) { frz:=[(6,2)],lps:=[(4,(⟨ks [2,4,6,13,14] [(7,.st (.list s12) (.o (.p .z (.p (.o .z) (.o .z)))) false),kI 15],ks [2,4] [(6,.st s21 (.p .z (.p .z (.p (.p .z (.p (.o (.o (.p .z (.p (.p .z (.p (.o .z) .z)) .z)))) (.o .z))) (.p .z (.p .z (.p (.o .z) .z)))))) false)]⟩,⟨[((.exit 0),⟨ks [4,6] [(7,.st (.list s12) (.o (.p .z (.p (.o .z) (.o .z)))) false)],ks [4] [(6,.st s21 (.p .z (.p .z (.p (.p .z (.p (.o (.o (.p .z (.p (.p .z (.p (.o .z) .z)) .z)))) (.o .z))) (.p .z (.p .z (.p (.o .z) .z)))))) false)]⟩),(.ret,⟨ks [4] [(5,.st (.list s12) (.o (.p .z (.p (.o (.o (.p .z (.p (.p .z (.p (.o .z) .z)) .z)))) (.o .z)))) false)],[(4,.st s21 (.p .z (.p .z (.p (.p .z (.p (.o (.o (.p .z (.p (.p .z (.p (.o .z) .z)) .z)))) (.o .z))) (.p .z (.p .z (.p (.o (.p .z (.p (.p .z (.p (.o .z) .z)) .z))) (.o .z))))))) false)]⟩)]⟩))] } false
def P224:=sc P223 fun _=>Qls (ents Tryz.func188) Qv9 Qtc
def P225:=st P224 Tryz.func135 [v0 (.list s2),vI] [((.list (.int .i64)),(.o .z))] (u2 QaP) { lps:=[(3,(⟨ks [0] [(5,.st (.list (.int .i64)) (.o .z) false),kI 6],[]⟩,⟨[((.exit 0),⟨[(5,.st (.list (.int .i64)) (.o .z) false)],[]⟩)]⟩))] }
def P226:=st P225 Tryz.func73 [.rp s16 false,vI] [o0 s21,o0 (.list s12)] (u2 Jl) {} false
def P227:=st P226 Tryz.func70 [.rp s16 false] [oI] (u1 Jg) { lps:=[(2,(⟨ks [0,12,13] [kI 14],[]⟩,⟨[((.exit 0),⟨[],[]⟩),(.ret,⟨[kI 2],[]⟩)]⟩))],rjs:=[(7,⟨ks [0,4,12,13,14] [kB 42],ks [4,5] []⟩)] } false
def P228:=st P227 Tryz.func78 [v0 (.list s2),vI] [oB] (u2 Qc0)
def P229:=st P228 Tryz.func184 [v0 (.list s2),vI,vI] [oB] (u3 QbO)
def P230:=st P229 Tryz.func132 [v0 (.list s2),vI,vI] [oB] (u3 QbN) h2
def P231:=st P230 Tryz.func144 [vI,.rp s16 true,.rp (.int .i64) false] [oB] (u3 QaK)
def P232:=st P231 Tryz.func79 [.rp s16 false,v0 (.list (.int .i64)),vI] [oB] (u3 YK)
def P233:=st P232 Tryz.func71 [.rp s16 false] [oI] (u1 Jh) { lps:=[(2,(⟨ks [0,8,9] [kI 10],[]⟩,⟨[((.exit 0),⟨[],[]⟩),(.ret,⟨[kI 2],[]⟩)]⟩))] }
def P234:=st P233 Tryz.func131 [vI,.rp (.list s2) false,.rp s2 false] [oB] (u3 Qcu) h7
def P235:=st P234 Tryz.func72 [v0 (.list s2),v0 (.list (.int .i64))] [oI] (u2 QaY) { lps:=[(3,(⟨ks [1,2,5,10,11] [kI 12],ks [2] [kS 5 s2]⟩,⟨[((.exit 0),⟨ks [5] [],[kS 5 s2]⟩)]⟩))],jns:=[(7,⟨[(.normal,⟨ks [1,2,5,10,11,12] [],ks [2] [kS 5 s2]⟩)]⟩)],rjs:=[(6,⟨ks [1,2,5,7,10,11,12] [kB 27],ks [2,5,7] []⟩)] }
def P236:=st P235 Tryz.func189 [v0 (.list s7),v0 (.list s7),v0 (.fn2 s7 s7 .bool)] [oB] (u3 QE) h14
def P237:=st P236 Tryz.func297 [v0 (.list (.int .i64)),v0 (.list (.int .i64))] [oB] (u2 Yf) h15
def P238:=st P237 Tryz.func256 [v0 s3,v0 s3] [oB] (u2 Qck) h7
def P239:=st P238 Tryz.func227 [v0 s4,v0 s4] [oB] (u2 Qbn) h7
def P240:=st P239 Tryz.func190 [v0 s7,v0 s7] [oB] (u2 Qde) h7
def P241:=st P240 Tryz.func136 [v0 (.list s7),v0 (.list s7)] [oB] (u2 QaF)
def P242:=st P241 Tryz.func191 [v0 (.list s2),v0 (.list s2)] [oB] (u2 Zr) h15
def P243:=st P242 Tryz.func137 [v0 (.list s2),v0 (.list s2)] [oB] (u2 JP)
def P244:=st P243 Tryz.func74 [v0 s10,v0 s10] [oB] (u2 QbG) h7
def P245:=st P244 Tryz.func75 [v0 (.list s12),v0 (.list s12),v0 (.fn2 s12 s12 .bool)] [oB] (u3 QF) h14
def P246:=st P245 Tryz.func138 [v0 (.list (.list s7)),v0 (.list (.list s7)),v0 (.fn2 (.list s7) (.list s7) .bool)] [oB] (u3 Qx) h14
def P247:=st P246 Tryz.func76 [v0 s12,v0 s12] [oB] (u2 QcB) h7
def P248:=st P247 Tryz.func31 [v0 s16] [oI] (u1 QbI) { frz:=[(0,0)] } false
def P249:=st P248 Tryz.func192 [v0 (.list .str)] [((.list .str),(.o .z))] (u1 Z6)
def P250:=st P249 Tryz.func193 [v0 (.list s0)] [((.list s0),(.o .z))] (u1 ZG)
def P251:=st P250 Tryz.func139 [v0 s1] [(s1,(.p (.o .z) (.o .z)))] (u1 QcE)
def P252:=st P251 Tryz.func140 [v0 (.list s2)] [((.list s2),(.o .z))] (u1 ZD)
def P253:=st P252 Tryz.func143 [v0 s12] [(s12,(.p .z (.p (.o (.o (.p .z (.p (.p .z (.p (.o .z) .z)) .z)))) (.o .z))))] (u1 Qeb) { lps:=[(3,(⟨ks [2,3,13,14] [kI 15],ks [2] [(3,.st s12 (.p .z (.p (.o (.o (.p .z (.p (.p .z (.p (.o .z) .z)) .z)))) (.o .z))) false)]⟩,⟨[((.exit 0),⟨ks [2,3] [],ks [2] [(3,.st s12 (.p .z (.p (.o (.o (.p .z (.p (.p .z (.p (.o .z) .z)) .z)))) (.o .z))) false)]⟩)]⟩))] }
def P254:=st P253 Tryz.func77 [v0 s16] [(s16,(.p (.p (.o .z) (.o .z)) (.p (.o .z) (.p (.o .z) (.p (.p .z (.p .z (.p (.o (.p .z (.p (.p .z (.p (.o .z) .z)) .z))) (.o .z)))) (.o (.p .z (.p (.o (.o (.p .z (.p (.p .z (.p (.o .z) .z)) .z)))) (.o .z)))))))))] (u1 Qbk) { lps:=[(3,(⟨ks [2,3,20,21] [kI 22],ks [2] [(3,.st s16 (.p (.p (.o .z) (.o .z)) (.p (.o .z) (.p (.o .z) (.p (.p .z (.p .z (.p (.o (.p .z (.p (.p .z (.p (.o .z) .z)) .z))) (.o .z)))) (.o (.p .z (.p (.o (.o (.p .z (.p (.p .z (.p (.o .z) .z)) .z)))) (.o .z)))))))) false)]⟩,⟨[((.exit 0),⟨ks [2,3] [],ks [2] [(3,.st s16 (.p (.p (.o .z) (.o .z)) (.p (.o .z) (.p (.o .z) (.p (.p .z (.p .z (.p (.o (.p .z (.p (.p .z (.p (.o .z) .z)) .z))) (.o .z)))) (.o (.p .z (.p (.o (.o (.p .z (.p (.p .z (.p (.o .z) .z)) .z)))) (.o .z)))))))) false)]⟩)]⟩))] }
def P255:=st P254 Tryz.func299 [v0 s2,.rp s2 false] [oB] (u2 Jz)
def P256:=st P255 Tryz.func258 [v0 (.list s2)] [oI] (u1 QaN) { lps:=[(4,(⟨ks [0,10,11] [kI 12],[]⟩,⟨[((.exit 0),⟨ks [0] [],[]⟩),(.ret,⟨[kI 2],[]⟩)]⟩)),(12,(⟨ks [0,41,42] [kI 43],[]⟩,⟨[((.exit 2),⟨[],[]⟩),(.ret,⟨[kI 2],[]⟩)]⟩))],rjs:=[(6,⟨ks [0,3,4,10,11,12] [kB 26],ks [4] []⟩),(8,⟨ks [0,10,11,12] [kB 39],ks [4] []⟩)] }
def P257:=st P256 Tryz.func302 [v0 (.list s7)] [oI] (u1 Qaa) { lps:=[(4,(⟨ks [0,9,10] [kI 11],[]⟩,⟨[((.exit 0),⟨[],[]⟩),(.ret,⟨[kI 2],[]⟩)]⟩))],rjs:=[(6,⟨ks [0,3,4,9,10,11] [kB 32],ks [4] []⟩),(11,⟨ks [0,9,10,11] [kB 53],ks [4] []⟩)] }
def P258:=st P257 Tryz.func373 [v0 s7,.rp (.list s0) false] [oB] (u2 QfK)
def P259:=st P258 Tryz.func336 [v0 (.list s7),v0 (.list s0)] [oB] (u2 QfC) h7
def P260:=st P259 Tryz.func340 [.v (.list s7) (.o .z),v0 (.fn1 s7 .bool .z)] [((.list s7),(.o .z))] (u2 Q0) { lps:=[(5,(⟨ks [1] [(0,.st (.list s7) (.o .z) false),kI 5,kI 6],[]⟩,⟨[((.exit 0),⟨[(0,.st (.list s7) (.o .z) false),kI 5],[]⟩)]⟩))],jns:=[(9,⟨[(.normal,⟨ks [1,6] [(0,.st (.list s7) (.o .z) false),kI 5],[]⟩)]⟩)] }
def P261:=st P260 Tryz.func374 [v0 (.list s7)] [((.list s7),(.o .z))] (u1 ZF)
def P262:=st P261 Tryz.func375 [v0 s7,.rp (.int .i64) false] [oB] (u2 Qen)
def P263:=st P262 Tryz.func337 [v0 (.list s7),vI,v0 (.list s4)] [oB] (u3 Qd4) { frz:=[(0,0)],lps:=[(5,(⟨ks [2,7,19,20] [kI 21],[]⟩,⟨[((.exit 0),⟨[],[]⟩),(.ret,⟨[kB 6],[]⟩)]⟩))],rjs:=[(7,⟨ks [2,7,19,20,21] [kB 40],ks [9] []⟩)] }
def P264:=st P263 Tryz.func376 [v0 (.list s0),v0 (.fn1 s0 .bool .z)] [oI] (u2 Z3) h12
def P265:=st P264 Tryz.func338 [v0 (.list s0),v0 (.fn1 s0 .bool .z)] [oB] (u2 Zk)
def P266:=st P265 Tryz.func339 [v0 s0,.rp (.list s7) false] [oB] (u2 Qfi)
def P267:=st P266 Tryz.func341 [v0 s7,.rp (.int .i64) false] [oB] (u2 Qfh)
def P268:=st P267 Tryz.func304 [v0 (.list s7),v0 s30,vI,v0 (.list s7)] [((.list s7),(.o .z)),oI] (u4 QeQ) { frz:=[(0,2)] }
def P269:=st P268 Tryz.func261 [v0 (.list s7),v0 s30,vI,v0 (.list s7)] [(s26,(.p .z (.o .z)))] (u4 Qe6) { lps:=[(2,(⟨ks [0,2,3,5,8,19,20] [kI 21],ks [5,8] []⟩,⟨[((.exit 0),⟨ks [0,2,3,5,8] [],ks [5,8] []⟩),(.ret,⟨ks [8] [],[(8,.st s26 (.p .z (.o (.p .z (.p (.p .z (.p (.o .z) .z)) .z)))) false)]⟩)]⟩))] }
def P270:=st P269 Tryz.func229 [v0 s1,v0 s10,v0 s12] [(s21,(.p .z (.p .z (.p (.p .z (.p (.o (.o (.p .z (.p (.p .z (.p (.o .z) .z)) .z)))) (.o .z))) (.p .z (.p .z (.p (.o .z) (.o .z))))))))] (u3 Y3) { frz:=[(22,0)],lps:=[(17,(⟨ks [3,4,5,6,7] [(12,.st (.list s7) (.o .z) false),kI 13],ks [3,4,5,6,7] []⟩,⟨[((.exit 0),⟨ks [4,5,6,7] [(12,.st (.list s7) (.o .z) false)],ks [4,5,6,7] []⟩),(.ret,⟨ks [6] [],[(6,.st s21 (.p .z (.p .z (.p (.p .z (.p (.o (.o (.p .z (.p (.p .z (.p (.o .z) .z)) .z)))) (.o .z))) (.p .z (.p .z (.p (.o (.p .z (.p (.p .z (.p (.o .z) .z)) .z))) (.o .z))))))) false)]⟩)]⟩))],rjs:=[(1,⟨ks [3,4,5,6] [kB 26],ks [3,4,5,6] []⟩),(6,⟨ks [3,4,5,6,7] [kB 52],ks [3,4,5,6,7] []⟩)] } false
def P271:=st P270 Tryz.func196 [.io s16 (.p .z (.p .z (.p .z (.p .z (.o .z))))) (.p .z (.p .z (.p .z (.p .z (.o .z)))))] [oI] (u1 J7) { frz:=[(4,1007)],jns:=[(4,⟨[(.normal,⟨ks [4] [],[(4,.st s21 (.p .z (.p .z (.p (.p .z (.p (.o (.o (.p .z (.p (.p .z (.p (.o .z) .z)) .z)))) (.o .z))) (.p .x (.p .x (.p .x .x)))))) true),(46,.st s16 (.p .z (.p .z (.p .z (.p .z (.o .z))))) false)]⟩)]⟩)] } false
def P272:=st P271 Tryz.func197 [.io s16 (.p .z (.p .z (.p .z (.p .z (.o .z))))) (.p .z (.p .z (.p .z (.p .z (.o .z))))),vI] [oI] (u2 Qdf) { jns:=[(3,⟨[(.normal,⟨ks [5] [],[(5,.st s21 (.p .z (.p .z (.p (.p .x (.p .x .x)) (.p .x (.p .x (.p .x .x)))))) true),(37,.st s16 (.p .z (.p .z (.p .z (.p .z (.o .z))))) false)]⟩)]⟩)] } false
def P273:=st P272 Tryz.func146 [.io s16 (.p .z (.p .z (.p .z (.p .z (.o .z))))) (.p .z (.p .z (.p .z (.p .z (.o .z))))),vI] [oI,oI] (u2 QbH) { lps:=[(3,(⟨ks [0,6] [kI 7],[(66,.st s16 (.p .z (.p .z (.p .z (.p .z (.o .z))))) false)]⟩,⟨[((.exit 0),⟨ks [0,6] [kI 7],[(66,.st s16 (.p .z (.p .z (.p .z (.p .z (.o .z))))) false)]⟩),(.ret,⟨[kI 4,kI 5],[(66,.st s16 (.p .z (.p .z (.p .z (.p .z (.o .z))))) false)]⟩)]⟩)),(9,(⟨ks [0,6,50,51] [kI 7,kI 52],[(66,.st s16 (.p .z (.p .z (.p .z (.p .z (.o .z))))) false)]⟩,⟨[((.exit 2),⟨[kI 7],[(66,.st s16 (.p .z (.p .z (.p .z (.p .z (.o .z))))) false)]⟩),(.ret,⟨[kI 4,kI 5],[(66,.st s16 (.p .z (.p .z (.p .z (.p .z (.o .z))))) false)]⟩)]⟩))],rjs:=[(3,⟨ks [0,6,7] [kB 33],ks [66] []⟩)] } false
def P274:=st P273 Tryz.func81 [.io s16 (.p .z (.p .z (.p .z (.p .z (.o .z))))) (.p .z (.p .z (.p .z (.p .z (.o .z))))),vI] [(s18,(.p .z (.p .z (.p (.p (.o .z) (.o .z)) (.p (.o .z) (.p (.o .z) (.p (.p .z (.p .z (.p (.o (.p .z (.p (.p .z (.p (.o .z) .z)) .z))) (.o .z)))) (.o (.p .z (.p (.o (.o (.p .z (.p (.p .z (.p (.o .z) .z)) .z)))) (.o .z)))))))))))] (u2 JN) {} false
def P275:=st P274 Tryz.func32 [v0 s16,vI] [(s18,(.p .z (.p .z (.p (.p (.o .z) (.o .z)) (.p (.o .z) (.p (.o .z) (.p (.p .z (.p .z (.p (.o (.p .z (.p (.p .z (.p (.o .z) .z)) .z))) (.o .z)))) (.o (.p .z (.p (.o (.o (.p .z (.p (.p .z (.p (.o .z) .z)) .z)))) (.o .z)))))))))))] (u2 QcC) {} false
def P276:=st P275 Tryz.func7 [v0 s16,vI] [(s18,(.p .z (.p .z (.p (.p (.o .z) (.o .z)) (.p (.o .z) (.p (.o .z) (.p (.p .z (.p .z (.p (.o (.p .z (.p (.p .z (.p (.o .z) .z)) .z))) (.o .z)))) (.o (.p .z (.p (.o (.o (.p .z (.p (.p .z (.p (.o .z) .z)) .z)))) (.o .z)))))))))))] (u2 QaA) {} false
def P277:=st P276 Tryz.func82 [v0 (.list .str),v0 (.list .str)] [oB] (u2 Qcz) h10
def P278:=st P277 Tryz.func147 [v0 s0,v0 s0] [oB] (u2 QeX)
def P279:=st P278 Tryz.func83 [v0 (.list s0),v0 (.list s0)] [oB] (u2 QdU) h10
def P280:=st P279 Tryz.func33 [v0 s1,v0 s1] [oB] (u2 Qdl)
def P281:=st P280 Tryz.func84 [v0 s2,v0 s2] [oB] (u2 Qe8)
def P282:=st P281 Tryz.func34 [v0 (.list s2),v0 (.list s2)] [oB] (u2 QdV) h10
def P283:=st P282 Tryz.func35 [v0 (.list (.int .i64)),v0 (.list (.int .i64))] [oB] (u2 Qa3) h10
def P284:=st P283 Tryz.func198 [v0 s0,v0 s0] [oB] (u2 Qdt)
def P285:=st P284 Tryz.func230 [v0 s3,v0 s3] [oB] (u2 Qe3)
def P286:=st P285 Tryz.func199 [v0 s4,v0 s4] [oB] (u2 QfD)
def P287:=st P286 Tryz.func148 [v0 s7,v0 s7] [oB] (u2 QeL)
def P288:=st P287 Tryz.func85 [v0 (.list s7),v0 (.list s7)] [oB] (u2 Qb9) h10
def P289:=st P288 Tryz.func149 [v0 s2,v0 s2] [oB] (u2 Qdm)
def P290:=st P289 Tryz.func86 [v0 (.list s2),v0 (.list s2)] [oB] (u2 Qav) h10
def P291:=st P290 Tryz.func36 [v0 s10,v0 s10] [oB] (u2 Qd1)
def P292:=st P291 Tryz.func150 [v0 (.list (.list s7)),v0 (.list (.list s7))] [oB] (u2 Qdi) h10
def P293:=st P292 Tryz.func87 [v0 s12,v0 s12] [oB] (u2 QeF)
def P294:=st P293 Tryz.func37 [v0 (.list s12),v0 (.list s12)] [oB] (u2 QdP) h10
def P295:=st P294 Tryz.func9 [v0 s16,v0 s16] [oB] (u2 Qb5)
def P296:=st P295 Tryz.func8 [v0 s18,v0 s18] [oB] (u2 Yc)
def P297:=st P296 Tryz.func151 [vI] [o0 .str] (u1 Y0) { lps:=[(4,(⟨[kI 0,kS 3 .str],[]⟩,⟨[((.exit 0),⟨[kS 3 .str],[]⟩)]⟩))] }
def P298:=st P297 Tryz.func88 [.mu (.list .str) (.o .z) (.o .z),vI] [oI] (u2 Qbb) { lps:=[(2,(⟨[(0,.st (.list .str) (.o .z) false),kI 1,kI 5],[]⟩,⟨[((.exit 0),⟨[(0,.st (.list .str) (.o .z) false),kI 1],[]⟩)]⟩))] }
def P299:=st P298 Tryz.func89 [.mu (.list s0) (.o .z) (.o .z),vI] [oI] (u2 Qcq) { lps:=[(2,(⟨[(0,.st (.list s0) (.o .z) false),kI 1,kI 5],[]⟩,⟨[((.exit 0),⟨[(0,.st (.list s0) (.o .z) false),kI 1],[]⟩)]⟩))] }
def P300:=st P299 Tryz.func38 [.mu s1 (.p (.o .z) (.o .z)) (.p (.o .z) (.o .z)),vI] [oI] (u2 Qeo)
def P301:=st P300 Tryz.func39 [.mu (.list s2) (.o .z) (.o .z),vI] [oI] (u2 Qfk) h16
def P302:=st P301 Tryz.func40 [.mu (.list (.int .i64)) (.o .z) (.o .z),vI] [oI] (u2 Qab) { lps:=[(2,(⟨[(0,.st (.list (.int .i64)) (.o .z) false),kI 1,kI 5],[]⟩,⟨[((.exit 0),⟨[(0,.st (.list (.int .i64)) (.o .z) false),kI 1],[]⟩)]⟩))] }
def P303:=st P302 Tryz.func90 [.mu (.list s7) (.o (.p .z (.p (.p .z (.p (.o .z) .z)) .z))) (.o (.p .z (.p (.p .z (.p (.o .z) .z)) .z))),vI] [oI] (u2 QaG) { lps:=[(2,(⟨[(0,.st (.list s7) (.o (.p .z (.p (.p .z (.p (.o .z) .z)) .z))) false),kI 1,kI 5],[]⟩,⟨[((.exit 0),⟨[(0,.st (.list s7) (.o (.p .z (.p (.p .z (.p (.o .z) .z)) .z))) false),kI 1],[]⟩)]⟩))] }
def P304:=st P303 Tryz.func91 [.mu (.list s2) (.o .z) (.o .z),vI] [oI] (u2 JR) h16
def P305:=st P304 Tryz.func41 [.mu s10 (.p .z (.p .z (.p (.o (.p .z (.p (.p .z (.p (.o .z) .z)) .z))) (.o .z)))) (.p .z (.p .z (.p (.o (.p .z (.p (.p .z (.p (.o .z) .z)) .z))) (.o .z)))),vI] [oI] (u2 Qfl)
def P306:=st P305 Tryz.func92 [.mu (.list (.list s7)) (.o (.o (.p .z (.p (.p .z (.p (.o .z) .z)) .z)))) (.o (.o (.p .z (.p (.p .z (.p (.o .z) .z)) .z)))),vI] [oI] (u2 QbB) { lps:=[(2,(⟨[(0,.st (.list (.list s7)) (.o (.o (.p .z (.p (.p .z (.p (.o .z) .z)) .z)))) false),kI 1,kI 5],[]⟩,⟨[((.exit 0),⟨[(0,.st (.list (.list s7)) (.o (.o (.p .z (.p (.p .z (.p (.o .z) .z)) .z)))) false),kI 1],[]⟩)]⟩))] }
def P307:=st P306 Tryz.func42 [.mu (.list s12) (.o (.p .z (.p (.o (.o (.p .z (.p (.p .z (.p (.o .z) .z)) .z)))) (.o .z)))) (.o (.p .z (.p (.o (.o (.p .z (.p (.p .z (.p (.o .z) .z)) .z)))) (.o .z)))),vI] [oI] (u2 Qcl) { lps:=[(2,(⟨[(0,.st (.list s12) (.o (.p .z (.p (.o (.o (.p .z (.p (.p .z (.p (.o .z) .z)) .z)))) (.o .z)))) false),kI 1,kI 5],[]⟩,⟨[((.exit 0),⟨[(0,.st (.list s12) (.o (.p .z (.p (.o (.o (.p .z (.p (.p .z (.p (.o .z) .z)) .z)))) (.o .z)))) false),kI 1],[]⟩)]⟩))] }
def P308:=st P307 Tryz.func10 [.mu s16 (.p (.p (.o .z) (.o .z)) (.p (.o .z) (.p (.o .z) (.p (.p .z (.p .z (.p (.o (.p .z (.p (.p .z (.p (.o .z) .z)) .z))) (.o .z)))) (.o (.p .z (.p (.o (.o (.p .z (.p (.p .z (.p (.o .z) .z)) .z)))) (.o .z)))))))) (.p (.p (.o .z) (.o .z)) (.p (.o .z) (.p (.o .z) (.p (.p .z (.p .z (.p (.o (.p .z (.p (.p .z (.p (.o .z) .z)) .z))) (.o .z)))) (.o (.p .z (.p (.o (.o (.p .z (.p (.p .z (.p (.o .z) .z)) .z)))) (.o .z)))))))),vI] [oI] (u2 QaL)
def P309:=st P308 Tryz.func11 [.mu s18 (.p .z (.p .z (.p (.p (.o .z) (.o .z)) (.p (.o .z) (.p (.o .z) (.p (.p .z (.p .z (.p (.o (.p .z (.p (.p .z (.p (.o .z) .z)) .z))) (.o .z)))) (.o (.p .z (.p (.o (.o (.p .z (.p (.p .z (.p (.o .z) .z)) .z)))) (.o .z)))))))))) (.p .z (.p .z (.p (.p (.o .z) (.o .z)) (.p (.o .z) (.p (.o .z) (.p (.p .z (.p .z (.p (.o (.p .z (.p (.p .z (.p (.o .z) .z)) .z))) (.o .z)))) (.o (.p .z (.p (.o (.o (.p .z (.p (.p .z (.p (.o .z) .z)) .z)))) (.o .z)))))))))),vI] [oI] (u2 JB)
def P310:=st P309 Tryz.func152 [v0 (.list .str),vI] [oI] (u2 Qbh) h17
def P311:=st P310 Tryz.func153 [v0 (.list s0),vI] [oI] (u2 Qct) h17
def P312:=st P311 Tryz.func93 [v0 s1,vI] [oI] (u2 Qeq)
def P313:=st P312 Tryz.func94 [v0 (.list s2),vI] [oI] (u2 Qfc) h17
def P314:=st P313 Tryz.func95 [v0 (.list (.int .i64)),vI] [oI] (u2 J9) h17
def P315:=st P314 Tryz.func154 [v0 (.list s7),vI] [oI] (u2 QaC) h17
def P316:=st P315 Tryz.func155 [v0 (.list s2),vI] [oI] (u2 JO) h17
def P317:=st P316 Tryz.func96 [v0 s10,vI] [oI] (u2 Qfd)
def P318:=st P317 Tryz.func156 [v0 (.list (.list s7)),vI] [oI] (u2 QbK) h17
def P319:=st P318 Tryz.func97 [v0 (.list s12),vI] [oI] (u2 Qcr) h17
def P320:=st P319 Tryz.func43 [v0 s16,vI] [oI] (u2 QaJ)
def P321:=st P320 Tryz.func12 [v0 s18,vI] [oI] (u2 Yn)
def P322:=st P321 Tryz.func3 [v0 s16,vI] [oB] (u2 Ji) { rjs:=[(14,⟨ks [1,2,6,8] [kB 46],ks [2,6,8] []⟩)] } false
theorem QhP {W0:World} (I:Lib.TabIs Tryz.prog W0 "internal/strconv.uint64pow10" .u64 Lib.pow10Tab) (J:∃m,W0.cell? ⟨0,0,none⟩=some (.int .i64 m)) (U:Qg8 Tryz.prog W0):Contract Tryz.prog W0 3 Qem:=(P322.o W0 ⟨I,J,U⟩).head
end GL
end Go.Dx
end
