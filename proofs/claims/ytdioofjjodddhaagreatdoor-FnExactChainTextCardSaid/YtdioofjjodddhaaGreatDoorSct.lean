/- What each function computes is so: by computation, each behind those that it calls -/
import Derived.Test.YtdioofjjodddhaaGreatDoorSck
import Derived.Test.YtdioofjjodddhaaGreatDoorHdDigW82
import Derived.Test.YtdioofjjodddhaaGreatDoorHdSwpW268
import Derived.Test.YtdioofjjodddhaaGreatDoorHdRewW122
import Derived.Test.YtdioofjjodddhaaGreatDoorHdSplitW163
import Derived.Test.YtdioofjjodddhaaGreatDoorHdFmtW141
import Derived.Test.YtdioofjjodddhaaGreatDoorHdNumW164
import Derived.Test.YtdioofjjodddhaaGreatDoorHdJoinW176
import Derived.Test.YtdioofjjodddhaaGreatDoorHdCutW279
import Derived.Test.YtdioofjjodddhaaGreatDoorHdSortW255
import Derived.Test.YtdioofjjodddhaaGreatDoorHdDelW242
import Derived.Test.YtdioofjjodddhaaGreatDoorHdInsW248
import Derived.Test.YtdioofjjodddhaaGreatDoorHdDelC291
import Derived.Test.YtdioofjjodddhaaGreatDoorHdRevW
import Derived.Test.YtdioofjjodddhaaGreatDoorDxr
set_option linter.unusedVariables false
set_option linter.unusedSimpArgs false
set_option maxRecDepth 100000
set_option maxHeartbeats 0
namespace Go.Dx
open Go.Proofs
namespace GL
structure Hyp (W0:World):Prop where
 T:Lib.TabIs Tryz.prog W0 "internal/strconv.uint64pow10" .u64 Lib.pow10Tab
 M:∃m,W0.cell? ⟨1,0,none⟩=some (.int .i64 m)
 S:QfF Tryz.prog W0
theorem npOk (W0:World):NpsL Tryz.prog W0 np:=trivial
abbrev Ok (T:Tb):Prop:=∀W0,Hyp W0->FnsL Tryz.prog W0 T
theorem stp {T:Tb} {K:Callee} {j:FuncId} {fn:Func} (o:Ok T) (I:Tryz.prog.funcs[j]? = some fn) (h:Hi) (he:EQ (mkX tys np T K.dm h) fn K) (hb:entB fn=true:=by kernel_rfl):Ok ((j,K)::T):=stpT (X0:=X0) QpO npOk follows o I h he hb
theorem o0:Ok T0:=fun _ _=>trivial
theorem o1:Ok T1:=stp o0 Tryz.func29 { lps:=[(5,(⟨ks [0] [kI 1,kI 5],[]⟩,⟨[((.exit 0),⟨[kI 1],[]⟩),(.ret,⟨[kI 4],[]⟩)]⟩))] } fun t=>by kernel_rfl
theorem o2:Ok T2:=stp o1 Tryz.func30 {} fun t=>by kernel_rfl
theorem o3:Ok T3:=stp o2 Tryz.func10 {} fun t=>by kernel_rfl
theorem o4:Ok T4:=stp o3 Tryz.func11 {} fun t=>by kernel_rfl
theorem o5:Ok T5:=stp o4 Tryz.func12 {} fun t=>by kernel_rfl
theorem o6:Ok T6:=stp o5 Tryz.func145 {} fun t=>by kernel_rfl
theorem o7:Ok T7:=stp o6 Tryz.func112 {} fun t=>by kernel_rfl
theorem o8:Ok T8:=stp o7 Tryz.func66 {} fun t=>by kernel_rfl
theorem o9:Ok T9:=stp o8 Tryz.func31 { lps:=[(5,(⟨ks [0] [kI 1,kI 5],[]⟩,⟨[((.exit 0),⟨[kI 1],[]⟩),(.ret,⟨[kI 4],[]⟩)]⟩))] } fun t=>by kernel_rfl
theorem o10:Ok T10:=stp o9 Tryz.func32 {} fun t=>by kernel_rfl
theorem o11:Ok T11:=stp o10 Tryz.func13 {} fun t=>by kernel_rfl
theorem o12:Ok T12:=stp o11 Tryz.func67 { lps:=[(5,(⟨ks [0] [kI 1,kI 5],[]⟩,⟨[((.exit 0),⟨[kI 1],[]⟩),(.ret,⟨[kI 4],[]⟩)]⟩))] } fun t=>by kernel_rfl
theorem o13:Ok T13:=stp o12 Tryz.func33 {} fun t=>by kernel_rfl
theorem o14:Ok T14:=stp o13 Tryz.func14 { lps:=[(5,(⟨ks [0] [kI 1,kI 5],[]⟩,⟨[((.exit 0),⟨[kI 1],[]⟩),(.ret,⟨[kI 4],[]⟩)]⟩))] } fun t=>by kernel_rfl
theorem o15:Ok T15:=stp o14 Tryz.func4 {} fun t=>by kernel_rfl
theorem o16:Ok T16:=stp o15 Tryz.func68 { lps:=[(2,(⟨ks [0,1] [kI 5],[]⟩,⟨[((.exit 0),⟨[],[]⟩),(.ret,⟨[kI 4],[]⟩)]⟩))] } fun t=>by kernel_rfl
theorem o17:Ok T17:=stp o16 Tryz.func70 { rjs:=[(1,⟨[kB 6],[]⟩)] } fun t=>by kernel_rfl
theorem o18:Ok T18:=stp o17 Tryz.func69 {} fun t=>by kernel_rfl
theorem o19:Ok T19:=stp o18 Tryz.func71 { lps:=[(2,(⟨ks [0,3] [kI 5],ks [3] []⟩,⟨[((.exit 0),⟨[],[]⟩),(.ret,⟨[kB 4],[]⟩)]⟩))] } fun t=>by kernel_rfl
theorem o20:Ok T20:=stp o19 Tryz.func34 { lps:=[(4,(⟨ks [0] [kI 3],[]⟩,⟨[((.exit 0),⟨ks [0] [],[]⟩),(.ret,⟨[kI 2],[]⟩)]⟩)),(11,(⟨ks [0] [kI 4],[]⟩,⟨[((.exit 2),⟨[],[]⟩),(.ret,⟨[kI 2],[]⟩)]⟩))],rjs:=[(1,⟨ks [0] [kB 18],[]⟩),(6,⟨ks [0,3] [kB 47],[]⟩),(13,⟨ks [0,4] [kB 98],[]⟩)] } fun t=>by kernel_rfl
theorem o21:Ok T21:=stp o20 Tryz.func76 { lps:=[(2,(⟨ks [0,1] [kI 5],[]⟩,⟨[((.exit 0),⟨[],[]⟩),(.ret,⟨[kI 4],[]⟩)]⟩))] } fun t=>by kernel_rfl
theorem o22:Ok T22:=stp o21 Tryz.func72 { jns:=[(7,⟨[(.normal,⟨ks [3] [kI 5],ks [3] []⟩),(.ret,⟨[kI 4],[]⟩)]⟩)],rjs:=[(1,⟨ks [0,3] [kB 16],ks [3] []⟩)] } fun t=>by kernel_rfl
theorem o23:Ok T23:=stp o22 Tryz.func35 { lps:=[(4,(⟨ks [0] [kI 3],[]⟩,⟨[((.exit 0),⟨[],[]⟩),(.ret,⟨[kI 2],[]⟩)]⟩))] } fun t=>by kernel_rfl
theorem o24:Ok T24:=stp o23 Tryz.func146 {} fun t=>by kernel_rfl
theorem o25:Ok T25:=stp o24 Tryz.func113 {} fun t=>by kernel_rfl
theorem o26:Ok T26:=stp o25 Tryz.func178 { lps:=[(4,(⟨ks [0,1] [(5,.st (.list .str) (.o .z) false),kI 6,kI 7],[]⟩,⟨[((.exit 0),⟨[(5,.st (.list .str) (.o .z) false)],[]⟩)]⟩))],jns:=[(7,⟨[(.normal,⟨ks [0,1,7] [(5,.st (.list .str) (.o .z) false),kI 6],[]⟩)]⟩)],rjs:=[(6,⟨ks [0,1,5,6,7] [kB 25],[]⟩)] } fun t=>by kernel_rfl
theorem o27:Ok T27:=stp o26 Tryz.func179 { lps:=[(5,(⟨ks [0] [kI 6,kI 7],[]⟩,⟨[((.exit 0),⟨[kI 6],[]⟩),(.ret,⟨[kI 4,kB 5],[]⟩)]⟩))],rjs:=[(1,⟨ks [0] [kB 26],[]⟩),(7,⟨ks [0,6,7] [kB 42],[]⟩)] } fun t=>by kernel_rfl
theorem o28:Ok T28:=stp o27 Tryz.func218 { lps:=[(2,(⟨ks [0,1] [kI 5],[]⟩,⟨[((.exit 0),⟨[],[]⟩),(.ret,⟨[kB 4],[]⟩)]⟩))] } fun t=>by kernel_rfl
theorem o29:Ok T29:=stp o28 Tryz.func180 { lps:=[(8,(⟨ks [0] [kI 3],[]⟩,⟨[((.exit 0),⟨[],[]⟩),(.ret,⟨[kI 2],[]⟩)]⟩))],rjs:=[(1,⟨ks [0] [kB 25],[]⟩)] } fun t=>by kernel_rfl
theorem o30:Ok T30:=stp o29 Tryz.func147 { lps:=[(11,(⟨ks [2,4,11,13] [kB 12,kI 14],ks [2] [(11,.st s23 (.p .z (.p .z (.p .z (.o .z)))) false)]⟩,⟨[((.exit 0),⟨ks [2,11] [kB 12],ks [2] [(11,.st s23 (.p .z (.p .z (.p .z (.o .z)))) false)]⟩)]⟩))],rjs:=[(2,⟨ks [2,4] [kB 27],ks [2] []⟩),(8,⟨ks [2,4,11] [kB 12],ks [2,11] []⟩),(11,⟨ks [2,4,11,12,13,14] [kB 74],ks [2,11] []⟩),(14,⟨ks [2,4,11,13,14,15] [kB 12],ks [2,11] []⟩),(16,⟨ks [2] [kB 3],[(2,.st s23 (.p .z (.p .z (.p .z (.o .z)))) false)]⟩)] } fun t=>by kernel_rfl
theorem o31:Ok T31:=stp o30 Tryz.func114 {} fun t=>by kernel_rfl
theorem o32:Ok T32:=stp o31 Tryz.func73 {} fun t=>by kernel_rfl
theorem o33:Ok T33:=stp o32 Tryz.func115 {} fun t=>by kernel_rfl
theorem o34:Ok T34:=stp o33 Tryz.func182 {} fun t=>by kernel_rfl
theorem o35:Ok T35:=stp o34 Tryz.func150 { lps:=[(3,(⟨ks [0] [(3,.st (.list s7) (.o (.p .z (.p (.p .z (.p (.o .z) .z)) .z))) false),kI 4],[]⟩,⟨[((.exit 0),⟨[(3,.st (.list s7) (.o (.p .z (.p (.p .z (.p (.o .z) .z)) .z))) false)],[]⟩)]⟩))] } fun t=>by kernel_rfl
theorem o36:Ok T36:=stp o35 Tryz.func120 {} fun t=>by kernel_rfl
theorem o37:Ok T37:=stp o36 Tryz.func188 { lps:=[(2,(⟨ks [0,3] [kI 5],ks [3] []⟩,⟨[((.exit 0),⟨[],[]⟩),(.ret,⟨[kB 4],[]⟩)]⟩))] } fun t=>by kernel_rfl
theorem o38:Ok T38:=stp o37 Tryz.func192 { rjs:=[(1,⟨[kB 2],[]⟩)] } fun t=>by kernel_rfl
theorem o39:Ok T39:=stp o38 Tryz.func157 {} fun t=>by kernel_rfl
theorem o40:Ok T40:=stp o39 Tryz.func194 { lps:=[(5,(⟨ks [0,3] [kI 4],[]⟩,⟨[((.exit 0),⟨ks [0,3] [],[]⟩),(.ret,⟨[kI 2],[]⟩)]⟩)),(12,(⟨ks [0] [kI 5],[]⟩,⟨[((.exit 2),⟨[],[]⟩),(.ret,⟨[kI 2],[]⟩)]⟩))],rjs:=[(9,⟨ks [0] [kB 46],[]⟩)] } fun t=>by kernel_rfl
theorem o41:Ok T41:=stp o40 Tryz.func220 { lps:=[(2,(⟨ks [0] [kI 3],[]⟩,⟨[((.exit 0),⟨ks [0] [],[]⟩),(.ret,⟨[kI 2],[]⟩)]⟩))],rjs:=[(9,⟨[kB 49],[]⟩)] } fun t=>by kernel_rfl
theorem o42:Ok T42:=stp o41 Tryz.func184 { lps:=[(8,(⟨ks [0] [kI 3],[]⟩,⟨[((.exit 0),⟨ks [0] [],[]⟩),(.ret,⟨[kI 2],[]⟩)]⟩))],rjs:=[(1,⟨ks [0] [kB 22],[]⟩),(3,⟨ks [0] [kB 35],[]⟩),(5,⟨ks [0] [kB 51],[]⟩)] } fun t=>by kernel_rfl
theorem o43:Ok T43:=fun _ h=>.cons (QsZ 19) (o42 _ h)
theorem o44:Ok T44:=stp o43 Tryz.func83 { lps:=[(3,(⟨ks [0] [kS 3 .str,kI 4],[]⟩,⟨[((.exit 0),⟨ks [0] [kS 3 .str],[]⟩)]⟩))],jns:=[(7,⟨[(.normal,⟨[kS 3 .str],[]⟩)]⟩)] } fun t=>by kernel_rfl
theorem o45:Ok T45:=fun _ h=>.cons (QsF (ents Tryz.func268)) (o44 _ h)
theorem o46:Ok T46:=stp o45 Tryz.func221 { lps:=[(5,(⟨ks [0] [kS 3 .str,kI 4],[]⟩,⟨[((.exit 0),⟨ks [0] [kS 3 .str],[]⟩)]⟩)),(12,(⟨ks [0] [kS 3 .str,kI 6],[]⟩,⟨[((.exit 2),⟨[kS 3 .str],[]⟩)]⟩))],jns:=[(3,⟨[(.normal,⟨ks [0] [kS 3 .str],[]⟩)]⟩),(9,⟨[(.normal,⟨ks [0,3,4] [kS 5 .str],[]⟩)]⟩)] } fun t=>by kernel_rfl
theorem o47:Ok T47:=stp o46 Tryz.func266 { lps:=[(4,(⟨ks [5] [(4,.st (.list s0) (.o .z) false),kI 6],[]⟩,⟨[((.exit 0),⟨[(4,.st (.list s0) (.o .z) false)],[]⟩),(.ret,⟨[(2,.st (.list s0) (.o .z) false),kB 3],[]⟩)]⟩))],rjs:=[(11,⟨ks [4,5,6,8,10] [kB 48],[]⟩)] } fun t=>by kernel_rfl
theorem o48:Ok T48:=stp o47 Tryz.func267 { lps:=[(8,(⟨ks [2,4,7,8] [kB 6,kI 9],ks [2] [(7,.st s3 (.p (.o .z) .z) false)]⟩,⟨[((.exit 0),⟨ks [2,4,7] [kB 6],ks [2] [(7,.st s3 (.p (.o .z) .z) false)]⟩)]⟩))],jns:=[(14,⟨[(.normal,⟨ks [2,7] [kB 6],ks [2] [(7,.st s3 (.p (.o .z) .z) false)]⟩)]⟩)],rjs:=[(2,⟨ks [2,4] [kB 29],ks [2] []⟩),(11,⟨ks [2,4,7,8,9,10] [kB 6],ks [2,7] []⟩),(15,⟨ks [2,7,12] [kB 6],ks [2,7] []⟩),(17,⟨ks [2] [kB 3],[(2,.st s3 (.p (.o .z) .z) false)]⟩)] } fun t=>by kernel_rfl
theorem o49:Ok T49:=stp o48 Tryz.func219 { lps:=[(22,(⟨ks [0,2,4,5] [kB 10,kI 11],ks [2] [(5,.st s28 (.p .z (.p .z (.p (.o .z) (.o (.p .z (.p (.o .z) .z)))))) false)]⟩,⟨[((.exit 0),⟨ks [0,2,5] [kB 10],ks [2] [(5,.st s28 (.p .z (.p .z (.p (.o .z) (.o (.p .z (.p (.o .z) .z)))))) false)]⟩),(.ret,⟨ks [2] [kB 3],[(2,.st s28 (.p .z (.p .z (.p (.o .z) (.o (.p .z (.p (.o .z) .z)))))) false)]⟩)]⟩))],jns:=[(5,⟨[(.normal,⟨ks [0,2,4,5] [kI 6],ks [2] [(5,.st s28 (.p .z (.p .z (.p (.o .z) (.o (.p .z (.p (.o .z) .z)))))) false)]⟩),(.ret,⟨ks [2] [kB 3],[(2,.st s28 (.p .z (.p .z (.p (.o .z) (.o (.p .z (.p (.o .z) .z)))))) false)]⟩)]⟩),(12,⟨[(.normal,⟨ks [0,2,4,5,7] [],ks [2] [(5,.st s28 (.p .z (.p .z (.p (.o .z) (.o (.p .z (.p (.o .z) .z)))))) false)]⟩)]⟩)],rjs:=[(4,⟨ks [0,2,4,5,6] [kB 29],ks [2,5] []⟩),(22,⟨ks [0,2,4,5,10,11] [kB 81],ks [2,5] []⟩),(29,⟨ks [0,2,4,5,11,13,15] [kB 10],ks [2,5,15] []⟩),(31,⟨ks [2] [kB 3],[(2,.st s28 (.p .z (.p .z (.p (.o .z) (.o (.p .z (.p (.o .z) .z)))))) false)]⟩)] } fun t=>by kernel_rfl
theorem o50:Ok T50:=stp o49 Tryz.func183 {} fun t=>by kernel_rfl
theorem o51:Ok T51:=stp o50 Tryz.func151 {} fun t=>by kernel_rfl
theorem o52:Ok T52:=stp o51 Tryz.func158 {} fun t=>by kernel_rfl
theorem o53:Ok T53:=stp o52 Tryz.func193 {} fun t=>by kernel_rfl
theorem o54:Ok T54:=stp o53 Tryz.func156 { lps:=[(4,(⟨ks [0] [kI 3],[]⟩,⟨[((.exit 0),⟨[],[]⟩),(.ret,⟨[kI 2],[]⟩)]⟩))],rjs:=[(6,⟨ks [0,3] [kB 29],[]⟩),(11,⟨ks [0,3] [kB 54],[]⟩)] } fun t=>by kernel_rfl
theorem o55:Ok T55:=stp o54 Tryz.func185 {} fun t=>by kernel_rfl
theorem o56:Ok T56:=stp o55 Tryz.func154 { lps:=[(3,(⟨ks [0,1] [(6,.st (.list s7) (.o .z) false),kI 7],[]⟩,⟨[((.exit 0),⟨ks [1] [(6,.st (.list s7) (.o .z) false)],[]⟩)]⟩))],jns:=[(6,⟨[(.normal,⟨ks [0,1,7] [(6,.st (.list s7) (.o .z) false)],[]⟩)]⟩)] } fun t=>by kernel_rfl
theorem o57:Ok T57:=stp o56 Tryz.func222 { rjs:=[(1,⟨[kB 4],[]⟩)] } fun t=>by kernel_rfl
theorem o58:Ok T58:=stp o57 Tryz.func224 {} fun t=>by kernel_rfl
theorem o59:Ok T59:=stp o58 Tryz.func223 { lps:=[(5,(⟨ks [0,1,2] [kI 9,kI 10],[]⟩,⟨[((.exit 0),⟨ks [1] [kI 9],[]⟩)]⟩))],jns:=[(8,⟨[(.normal,⟨ks [0,1,2,10] [kI 9],[]⟩)]⟩)] } fun t=>by kernel_rfl
theorem o60:Ok T60:=stp o59 Tryz.func225 { lps:=[(3,(⟨ks [0] [kI 3,kI 4],[]⟩,⟨[((.exit 0),⟨[kI 3],[]⟩)]⟩))] } fun t=>by kernel_rfl
theorem o61:Ok T61:=stp o60 Tryz.func226 { lps:=[(3,(⟨ks [0] [kI 3,kI 4],[]⟩,⟨[((.exit 0),⟨[kI 3],[]⟩)]⟩))] } fun t=>by kernel_rfl
theorem o62:Ok T62:=stp o61 Tryz.func186 { lps:=[(5,(⟨ks [0,2,3,4,12] [kI 14],[]⟩,⟨[((.exit 0),⟨ks [0,2,3,12] [],[]⟩),(.ret,⟨[kI 10,kI 11],[]⟩)]⟩))],rjs:=[(12,⟨ks [2,12] [kB 63],[]⟩)] } fun t=>by kernel_rfl
theorem o63:Ok T63:=stp o62 Tryz.func152 {} fun t=>by kernel_rfl
theorem o64:Ok T64:=stp o63 Tryz.func187 { lps:=[(2,(⟨ks [0,1] [kI 5],[]⟩,⟨[((.exit 0),⟨[],[]⟩),(.ret,⟨[kI 4],[]⟩)]⟩))] } fun t=>by kernel_rfl
theorem o65:Ok T65:=stp o64 Tryz.func189 { lps:=[(5,(⟨ks [0,3] [kI 6,kI 7],ks [3] []⟩,⟨[((.exit 0),⟨ks [0,3] [kI 6],ks [3] []⟩),(.ret,⟨[(4,.st (.list s2) (.o .z) false),kI 5],[]⟩)]⟩))],jns:=[(10,⟨[(.normal,⟨ks [0,3,7] [kI 6],ks [3] []⟩)]⟩)] } fun t=>by kernel_rfl
theorem o66:Ok T66:=stp o65 Tryz.func153 { lps:=[(5,(⟨ks [0,1,2] [(8,.st (.list s2) (.o .z) false),kI 9],[]⟩,⟨[((.exit 0),⟨ks [1,2] [(8,.st (.list s2) (.o .z) false)],[]⟩)]⟩))],jns:=[(9,⟨[(.normal,⟨ks [0,1,2,9] [(8,.st (.list s2) (.o .z) false)],[]⟩)]⟩)],rjs:=[(1,⟨ks [0,1,2] [kB 24],[]⟩),(7,⟨ks [0,1,2,8,9] [kB 10],[]⟩),(8,⟨ks [0,1,2,8,9] [kB 63],[]⟩)] } fun t=>by kernel_rfl
theorem o67:Ok T67:=stp o66 Tryz.func159 { lps:=[(2,(⟨ks [0,1] [kI 5],[]⟩,⟨[((.exit 0),⟨[],[]⟩),(.ret,⟨[kB 4],[]⟩)]⟩))] } fun t=>by kernel_rfl
theorem o68:Ok T68:=stp o67 Tryz.func195 { lps:=[(2,(⟨ks [0,3] [kI 5],ks [3] []⟩,⟨[((.exit 0),⟨ks [0,3] [kI 5],ks [3] []⟩)]⟩))],rjs:=[(2,⟨ks [0,3,5] [kB 20],ks [3] []⟩)] } fun t=>by kernel_rfl
theorem o69:Ok T69:=stp o68 Tryz.func160 { frz:=[(6,0)],lps:=[(3,(⟨ks [0,1,2,3,4] [(11,.st (.list s7) (.o .z) false),kI 12],[]⟩,⟨[((.exit 0),⟨ks [0] [(11,.st (.list s7) (.o .z) false)],[]⟩)]⟩))] } fun t=>by kernel_rfl
theorem o70:Ok T70:=stp o69 Tryz.func123 { lps:=[(9,(⟨ks [0,1,2,3,4,10] [kI 12],ks [10] []⟩,⟨[((.exit 0),⟨ks [0,1,2,3,4,10] [],ks [10] []⟩),(.ret,⟨ks [0,10] [],[(10,.st s25 (.p .z (.o (.p .z (.p (.p .z (.p (.o .z) .z)) .z)))) false)]⟩)]⟩))],rjs:=[(4,⟨ks [0,1,2,3,4,10] [kB 27],ks [10] []⟩)] } fun t=>by kernel_rfl
theorem o71:Ok T71:=stp o70 Tryz.func190 {} fun t=>by kernel_rfl
theorem o72:Ok T72:=stp o71 Tryz.func227 { lps:=[(2,(⟨ks [0,3] [kI 5],ks [3] []⟩,⟨[((.exit 0),⟨[],[]⟩),(.ret,⟨[kI 4],[]⟩)]⟩))] } fun t=>by kernel_rfl
theorem o73:Ok T73:=stp o72 Tryz.func191 { lps:=[(3,(⟨ks [0,1] [(6,.st (.list s7) (.o .z) false),kI 7],[]⟩,⟨[((.exit 0),⟨ks [0] [(6,.st (.list s7) (.o .z) false)],[]⟩),(.ret,⟨ks [0] [(4,.st (.list s7) (.o (.p .z (.p (.p .z (.p (.o .z) .z)) .z))) false),kB 5],[]⟩)]⟩))] } fun t=>by kernel_rfl
theorem o74:Ok T74:=stp o73 Tryz.func155 {} fun t=>by kernel_rfl
theorem o75:Ok T75:=stp o74 Tryz.func121 { frz:=[(11,5),(15,1)] } fun t=>by kernel_rfl
theorem o76:Ok T76:=fun _ h=>.cons (Qsk (ents Tryz.func122)) (o75 _ h)
theorem o77:Ok T77:=stp o76 Tryz.func80 { lps:=[(8,(⟨ks [0,2,6,7,8] [kI 9],ks [6,7] [(8,.st s20 (.p .z (.p .z (.p (.p .z (.p (.o .z) (.o .z))) (.p .z (.p .z (.p (.o .z) .z)))))) false),kS 139 s1]⟩,⟨[((.exit 0),⟨ks [2,6,7,8] [],ks [6,7] [(8,.st s20 (.p .z (.p .z (.p (.p .z (.p (.o .z) (.o .z))) (.p .z (.p .z (.p (.o .z) .z)))))) false),kS 139 s1]⟩),(.ret,⟨ks [6] [],[kS 6 s20,kS 139 s1]⟩)]⟩))],rjs:=[(4,⟨ks [0,2,4,6,7] [kB 41],ks [4,6,7,139] []⟩)] } fun t=>by kernel_rfl
theorem o78:Ok T78:=stp o77 Tryz.func74 { frz:=[(10,1)],lps:=[(8,(⟨ks [1,2,4,6] [kI 7],ks [4] [kS 2 s1,(6,.st s20 (.p .z (.p .z (.p (.p .z (.p (.o (.o (.p .z (.p (.p .z (.p (.o .z) .z)) .z)))) (.o .z))) .z))) false)]⟩,⟨[((.exit 0),⟨ks [4,6] [],ks [4] [(6,.st s20 (.p .z (.p .z (.p (.p .z (.p (.o (.o (.p .z (.p (.p .z (.p (.o .z) .z)) .z)))) (.o .z))) .z))) false)]⟩),(.ret,⟨ks [4] [],[kS 4 s20]⟩)]⟩))] } fun t=>by kernel_rfl
theorem o79:Ok T79:=stp o78 Tryz.func75 { lps:=[(2,(⟨ks [0] [kI 1,(5,.st (.list (.int .i64)) (.o .z) false)],[]⟩,⟨[((.exit 0),⟨[(5,.st (.list (.int .i64)) (.o .z) false)],[]⟩)]⟩))] } fun t=>by kernel_rfl
theorem o80:Ok T80:=stp o79 Tryz.func36 { lps:=[(2,(⟨ks [0] [kI 3],[]⟩,⟨[((.exit 0),⟨[],[]⟩),(.ret,⟨[kI 2],[]⟩)]⟩))],rjs:=[(7,⟨ks [0,3] [kB 58],ks [4] []⟩)] } fun t=>by kernel_rfl
theorem o81:Ok T81:=stp o80 Tryz.func148 { lps:=[(1,(⟨ks [0,1] [kI 2],[]⟩,⟨[((.exit 0),⟨[],[]⟩),(.ret,⟨[kB 6],[]⟩)]⟩))] } fun t=>by kernel_rfl
theorem o82:Ok T82:=stp o81 Tryz.func116 { rjs:=[(1,⟨[kB 6],[]⟩)] } fun t=>by kernel_rfl
theorem o83:Ok T83:=stp o82 Tryz.func77 { lps:=[(2,(⟨ks [0,1,2] [kI 7],[]⟩,⟨[((.exit 0),⟨[],[]⟩),(.ret,⟨[kB 6],[]⟩)]⟩))] } fun t=>by kernel_rfl
theorem o84:Ok T84:=stp o83 Tryz.func37 { lps:=[(2,(⟨ks [0] [kI 3],[]⟩,⟨[((.exit 0),⟨[],[]⟩),(.ret,⟨[kI 2],[]⟩)]⟩))] } fun t=>by kernel_rfl
theorem o85:Ok T85:=stp o84 Tryz.func117 { lps:=[(2,(⟨ks [0,2,4] [kI 7],ks [4] []⟩,⟨[((.exit 0),⟨[],[]⟩),(.ret,⟨[kB 6],[]⟩)]⟩))],rjs:=[(4,⟨ks [0,2,4,7] [kB 37],ks [4] []⟩)] } fun t=>by kernel_rfl
theorem o86:Ok T86:=stp o85 Tryz.func78 { lps:=[(3,(⟨ks [0,1] [kI 5,kI 6],[]⟩,⟨[((.exit 0),⟨ks [0] [kI 5],[]⟩)]⟩))],jns:=[(6,⟨[(.normal,⟨ks [0,1,6] [kI 5],[]⟩)]⟩)],rjs:=[(5,⟨ks [0,1,5,6] [kB 36],[]⟩)] } fun t=>by kernel_rfl
theorem o87:Ok T87:=stp o86 Tryz.func181 { lps:=[(4,(⟨ks [0,1] [kI 5],[]⟩,⟨[((.exit 0),⟨[],[]⟩),(.ret,⟨[kB 4],[]⟩)]⟩))] } fun t=>by kernel_rfl
theorem o88:Ok T88:=stp o87 Tryz.func149 { rjs:=[(1,⟨[kB 4],[]⟩)] } fun t=>by kernel_rfl
theorem o89:Ok T89:=stp o88 Tryz.func118 { lps:=[(4,(⟨ks [0,1] [kI 5],[]⟩,⟨[((.exit 0),⟨[],[]⟩),(.ret,⟨[kB 4],[]⟩)]⟩))],rjs:=[(6,⟨ks [0,1,5] [kB 82],[]⟩)] } fun t=>by kernel_rfl
theorem o90:Ok T90:=stp o89 Tryz.func119 { lps:=[(4,(⟨ks [0,1] [kI 5],[]⟩,⟨[((.exit 0),⟨[],[]⟩),(.ret,⟨[kB 4],[]⟩)]⟩))] } fun t=>by kernel_rfl
theorem o91:Ok T91:=stp o90 Tryz.func79 { rjs:=[(1,⟨[kB 4],[]⟩)] } fun t=>by kernel_rfl
theorem o92:Ok T92:=stp o91 Tryz.func81 { lps:=[(4,(⟨ks [0,1] [kI 5],[]⟩,⟨[((.exit 0),⟨[],[]⟩),(.ret,⟨[kB 4],[]⟩)]⟩))],rjs:=[(1,⟨ks [0,1] [kB 39],[]⟩)] } fun t=>by kernel_rfl
theorem o93:Ok T93:=stp o92 Tryz.func38 { frz:=[(4,4),(15,3)],lps:=[(13,(⟨ks [0,3,5] [kI 6],[kS 5 s10,kS 85 s16]⟩,⟨[((.exit 0),⟨[],[kS 85 s16]⟩),(.ret,⟨[kI 2],[kS 85 s16]⟩)]⟩))] } fun t=>by kernel_rfl
theorem o94:Ok T94:=stp o93 Tryz.func15 {} fun t=>by kernel_rfl
theorem o95:Ok T95:=stp o94 Tryz.func39 { lps:=[(2,(⟨ks [1] [kS 0 .str,kI 5],[]⟩,⟨[((.exit 0),⟨[kS 0 .str],[]⟩)]⟩))] } fun t=>by kernel_rfl
theorem o96:Ok T96:=stp o95 Tryz.func40 { lps:=[(3,(⟨ks [0] [(3,.st (.list (.int .i64)) (.o .z) false),kI 4],[]⟩,⟨[((.exit 0),⟨[(3,.st (.list (.int .i64)) (.o .z) false)],[]⟩)]⟩))] } fun t=>by kernel_rfl
theorem o97:Ok T97:=stp o96 Tryz.func41 { lps:=[(3,(⟨ks [0] [kS 3 .str,kI 4],[]⟩,⟨[((.exit 0),⟨[kS 3 .str],[]⟩)]⟩))] } fun t=>by kernel_rfl
theorem o98:Ok T98:=stp o97 Tryz.func16 {} fun t=>by kernel_rfl
theorem o99:Ok T99:=stp o98 Tryz.func5 {} fun t=>by kernel_rfl
theorem o100:Ok T100:=stp o99 Tryz.func42 { lps:=[(3,(⟨ks [0] [(3,.st (.list .str) (.o .z) false),kI 4],[]⟩,⟨[((.exit 0),⟨[(3,.st (.list .str) (.o .z) false)],[]⟩)]⟩))] } fun t=>by kernel_rfl
theorem o101:Ok T101:=stp o100 Tryz.func84 {} fun t=>by kernel_rfl
theorem o102:Ok T102:=stp o101 Tryz.func43 { lps:=[(3,(⟨ks [0] [(3,.st (.list s0) (.o .z) false),kI 4],[]⟩,⟨[((.exit 0),⟨[(3,.st (.list s0) (.o .z) false)],[]⟩)]⟩))] } fun t=>by kernel_rfl
theorem o103:Ok T103:=stp o102 Tryz.func17 {} fun t=>by kernel_rfl
theorem o104:Ok T104:=stp o103 Tryz.func44 {} fun t=>by kernel_rfl
theorem o105:Ok T105:=stp o104 Tryz.func18 { lps:=[(3,(⟨ks [0] [(3,.st (.list s2) (.o .z) false),kI 4],[]⟩,⟨[((.exit 0),⟨[(3,.st (.list s2) (.o .z) false)],[]⟩)]⟩))] } fun t=>by kernel_rfl
theorem o106:Ok T106:=stp o105 Tryz.func19 { lps:=[(3,(⟨ks [0] [(3,.st (.list (.int .i64)) (.o .z) false),kI 4],[]⟩,⟨[((.exit 0),⟨[(3,.st (.list (.int .i64)) (.o .z) false)],[]⟩)]⟩))] } fun t=>by kernel_rfl
theorem o107:Ok T107:=stp o106 Tryz.func124 {} fun t=>by kernel_rfl
theorem o108:Ok T108:=stp o107 Tryz.func161 {} fun t=>by kernel_rfl
theorem o109:Ok T109:=stp o108 Tryz.func125 {} fun t=>by kernel_rfl
theorem o110:Ok T110:=stp o109 Tryz.func85 {} fun t=>by kernel_rfl
theorem o111:Ok T111:=stp o110 Tryz.func45 { lps:=[(3,(⟨ks [0] [(3,.st (.list s7) (.o (.p .z (.p (.p .z (.p (.o .z) .z)) .z))) false),kI 4],[]⟩,⟨[((.exit 0),⟨[(3,.st (.list s7) (.o (.p .z (.p (.p .z (.p (.o .z) .z)) .z))) false)],[]⟩)]⟩))] } fun t=>by kernel_rfl
theorem o112:Ok T112:=stp o111 Tryz.func86 {} fun t=>by kernel_rfl
theorem o113:Ok T113:=stp o112 Tryz.func46 { lps:=[(3,(⟨ks [0] [(3,.st (.list s2) (.o .z) false),kI 4],[]⟩,⟨[((.exit 0),⟨[(3,.st (.list s2) (.o .z) false)],[]⟩)]⟩))] } fun t=>by kernel_rfl
theorem o114:Ok T114:=stp o113 Tryz.func20 {} fun t=>by kernel_rfl
theorem o115:Ok T115:=stp o114 Tryz.func87 { lps:=[(3,(⟨ks [0] [(3,.st (.list (.list s7)) (.o (.o (.p .z (.p (.p .z (.p (.o .z) .z)) .z)))) false),kI 4],[]⟩,⟨[((.exit 0),⟨[(3,.st (.list (.list s7)) (.o (.o (.p .z (.p (.p .z (.p (.o .z) .z)) .z)))) false)],[]⟩)]⟩))] } fun t=>by kernel_rfl
theorem o116:Ok T116:=stp o115 Tryz.func47 {} fun t=>by kernel_rfl
theorem o117:Ok T117:=stp o116 Tryz.func21 { lps:=[(3,(⟨ks [0] [(3,.st (.list s12) (.o (.p .z (.p (.o (.o (.p .z (.p (.p .z (.p (.o .z) .z)) .z)))) (.o .z)))) false),kI 4],[]⟩,⟨[((.exit 0),⟨[(3,.st (.list s12) (.o (.p .z (.p (.o (.o (.p .z (.p (.p .z (.p (.o .z) .z)) .z)))) (.o .z)))) false)],[]⟩)]⟩))] } fun t=>by kernel_rfl
theorem o118:Ok T118:=stp o117 Tryz.func6 {} fun t=>by kernel_rfl
theorem o119:Ok T119:=stp o118 Tryz.func91 { rjs:=[(1,⟨[kB 6],[]⟩)] } fun t=>by kernel_rfl
theorem o120:Ok T120:=stp o119 Tryz.func88 {} fun t=>by kernel_rfl
theorem o121:Ok T121:=stp o120 Tryz.func126 { lps:=[(2,(⟨ks [0,1,7] [kI 8],[]⟩,⟨[((.exit 0),⟨[],[]⟩),(.ret,⟨[kI 4],[]⟩)]⟩))] } fun t=>by kernel_rfl
theorem o122:Ok T122:=stp o121 Tryz.func89 {} fun t=>by kernel_rfl
theorem o123:Ok T123:=stp o122 Tryz.func90 {} fun t=>by kernel_rfl
theorem o124:Ok T124:=stp o123 Tryz.func127 { lps:=[(2,(⟨ks [0,3,7] [kI 8],ks [3] []⟩,⟨[((.exit 0),⟨[],[]⟩),(.ret,⟨[kI 4],[]⟩)]⟩))] } fun t=>by kernel_rfl
theorem o125:Ok T125:=stp o124 Tryz.func92 {} fun t=>by kernel_rfl
theorem o126:Ok T126:=stp o125 Tryz.func48 { lps:=[(4,(⟨ks [1,18,19] [kI 20],ks [1] []⟩,⟨[((.exit 0),⟨ks [1] [],ks [1] []⟩),(.ret,⟨[kI 2],[]⟩)]⟩)),(12,(⟨ks [1,36,37] [kI 38],ks [1] []⟩,⟨[((.exit 2),⟨[],[]⟩),(.ret,⟨[kI 2],[]⟩)]⟩))],rjs:=[(1,⟨ks [1] [kB 16],ks [1] []⟩),(14,⟨ks [1,5,6,36,37,38] [kB 55],ks [1,6] []⟩)] } fun t=>by kernel_rfl
theorem o127:Ok T127:=stp o126 Tryz.func134 { lps:=[(2,(⟨ks [0,1,7] [kI 8],[]⟩,⟨[((.exit 0),⟨[],[]⟩),(.ret,⟨[kI 4],[]⟩)]⟩))] } fun t=>by kernel_rfl
theorem o128:Ok T128:=stp o127 Tryz.func135 {} fun t=>by kernel_rfl
theorem o129:Ok T129:=stp o128 Tryz.func100 {} fun t=>by kernel_rfl
theorem o130:Ok T130:=stp o129 Tryz.func128 {} fun t=>by kernel_rfl
theorem o131:Ok T131:=stp o130 Tryz.func93 { jns:=[(4,⟨[(.normal,⟨ks [0,3,6] [kI 5],ks [3] []⟩)]⟩)],rjs:=[(3,⟨ks [0,3,5,6] [kB 17],ks [3] []⟩),(5,⟨ks [0,3,5,6] [kB 24],ks [3] []⟩),(9,⟨ks [3,5] [kB 41],ks [3] []⟩)] } fun t=>by kernel_rfl
theorem o132:Ok T132:=stp o131 Tryz.func49 { lps:=[(4,(⟨ks [0,9,10] [kI 11],[]⟩,⟨[((.exit 0),⟨[],[]⟩),(.ret,⟨[kI 2],[]⟩)]⟩))] } fun t=>by kernel_rfl
theorem o133:Ok T133:=stp o132 Tryz.func162 {} fun t=>by kernel_rfl
theorem o134:Ok T134:=stp o133 Tryz.func129 {} fun t=>by kernel_rfl
theorem o135:Ok T135:=fun _ h=>.cons (QpV (ents Tryz.func163) h.M) (o134 _ h)
theorem o136:Ok T136:=fun _ h=>.cons (QsA (ents Tryz.func141) h.T) (o135 _ h)
theorem o137:Ok T137:=stp o136 Tryz.func106 {} fun t=>by kernel_rfl
theorem o138:Ok T138:=fun _ h=>.cons (Qr6 (ents Tryz.func164) h.T h.S) (o137 _ h)
theorem o139:Ok T139:=stp o138 Tryz.func165 { lps:=[(3,(⟨ks [11,12] [(5,.st (.list (.int .i64)) (.o .z) false),kI 13],[]⟩,⟨[((.exit 0),⟨[(5,.st (.list (.int .i64)) (.o .z) false)],[]⟩)]⟩))] } fun t=>by kernel_rfl
theorem o140:Ok T140:=stp o139 Tryz.func198 { lps:=[(2,(⟨ks [0,1,7] [kI 8],[]⟩,⟨[((.exit 0),⟨[],[]⟩),(.ret,⟨[kI 4],[]⟩)]⟩))] } fun t=>by kernel_rfl
theorem o141:Ok T141:=stp o140 Tryz.func168 {} fun t=>by kernel_rfl
theorem o142:Ok T142:=stp o141 Tryz.func166 { lps:=[(8,(⟨ks [1,36,37] [kI 38],ks [1] []⟩,⟨[((.exit 1),⟨[],[]⟩),(.ret,⟨[kI 2],[]⟩)]⟩))],rjs:=[(1,⟨ks [1] [kB 5],ks [1] []⟩)] } fun t=>by kernel_rfl
theorem o143:Ok T143:=fun _ h=>.cons (Qq6 (ents Tryz.func176)) (o142 _ h)
theorem o144:Ok T144:=stp o143 Tryz.func142 { lps:=[(3,(⟨ks [1,9,10] [(5,.st (.list .str) (.o .z) false),kI 11],[]⟩,⟨[((.exit 0),⟨ks [1] [(5,.st (.list .str) (.o .z) false)],[]⟩)]⟩))] } fun t=>by kernel_rfl
theorem o145:Ok T145:=stp o144 Tryz.func167 { jns:=[(3,⟨[(.normal,⟨ks [1] [kS 3 .str],ks [1] []⟩)]⟩)] } fun t=>by kernel_rfl
theorem o146:Ok T146:=stp o145 Tryz.func130 { jns:=[(6,⟨[(.normal,⟨ks [0,2,5] [],ks [2] [(5,.st s23 (.p .z (.p .z (.p .z (.o .z)))) false)]⟩)]⟩)],rjs:=[(2,⟨ks [0,2,4] [kB 15],ks [2] []⟩),(7,⟨ks [2,5] [kB 47],ks [2,5] []⟩)] } fun t=>by kernel_rfl
theorem o147:Ok T147:=stp o146 Tryz.func94 {} fun t=>by kernel_rfl
theorem o148:Ok T148:=stp o147 Tryz.func170 {} fun t=>by kernel_rfl
theorem o149:Ok T149:=stp o148 Tryz.func295 {} fun t=>by kernel_rfl
theorem o150:Ok T150:=stp o149 Tryz.func254 {} fun t=>by kernel_rfl
theorem o151:Ok T151:=stp o150 Tryz.func208 {} fun t=>by kernel_rfl
theorem o152:Ok T152:=stp o151 Tryz.func199 { lps:=[(3,(⟨ks [7,8] [(3,.st (.list s7) (.o (.p .z (.p (.p .z (.p (.o .z) .z)) .z))) false),kI 9],[]⟩,⟨[((.exit 0),⟨[(3,.st (.list s7) (.o (.p .z (.p (.p .z (.p (.o .z) .z)) .z))) false)],[]⟩)]⟩))] } fun t=>by kernel_rfl
theorem o153:Ok T153:=stp o152 Tryz.func169 {} fun t=>by kernel_rfl
theorem o154:Ok T154:=stp o153 Tryz.func107 { jns:=[(3,⟨[(.normal,⟨[kS 5 .str],[]⟩)]⟩)] } fun t=>by kernel_rfl
theorem o155:Ok T155:=stp o154 Tryz.func278 {} fun t=>by kernel_rfl
theorem o156:Ok T156:=stp o155 Tryz.func234 { lps:=[(6,(⟨ks [1,4,28,29] [(5,.st (.list .str) (.o .z) false),kI 30],ks [1] []⟩,⟨[((.exit 0),⟨ks [1,4] [(5,.st (.list .str) (.o .z) false)],ks [1] []⟩)]⟩)),(12,(⟨ks [52,53] [(4,.st (.list .str) (.o .z) false),kI 54],[]⟩,⟨[((.exit 2),⟨[(4,.st (.list .str) (.o .z) false)],[]⟩)]⟩))],jns:=[(3,⟨[(.normal,⟨ks [1] [(4,.st (.list .str) (.o .z) false)],ks [1] []⟩)]⟩)] } fun t=>by kernel_rfl
theorem o157:Ok T157:=fun _ h=>.cons (Qsf (ents Tryz.func279) h.M) (o156 _ h)
theorem o158:Ok T158:=stp o157 Tryz.func205 {} fun t=>by kernel_rfl
theorem o159:Ok T159:=stp o158 Tryz.func132 { lps:=[(2,(⟨ks [0,1,7] [kI 8],[]⟩,⟨[((.exit 0),⟨[],[]⟩),(.ret,⟨[kI 4],[]⟩)]⟩))] } fun t=>by kernel_rfl
theorem o160:Ok T160:=stp o159 Tryz.func97 {} fun t=>by kernel_rfl
theorem o161:Ok T161:=stp o160 Tryz.func319 {} fun t=>by kernel_rfl
theorem o162:Ok T162:=stp o161 Tryz.func292 {} fun t=>by kernel_rfl
theorem o163:Ok T163:=stp o162 Tryz.func293 { lps:=[(2,(⟨ks [0] [kI 3],[]⟩,⟨[((.exit 0),⟨[],[]⟩),(.ret,⟨[kB 2],[]⟩)]⟩))] } fun t=>by kernel_rfl
theorem o164:Ok T164:=stp o163 Tryz.func251 { rjs:=[(4,⟨ks [1] [kB 11],ks [1] []⟩)] } fun t=>by kernel_rfl
theorem o165:Ok T165:=stp o164 Tryz.func314 { jns:=[(6,⟨[(.normal,⟨ks [0,1,4,7] [],ks [4] [(7,.st s3 (.p (.o .z) .z) false)]⟩)]⟩)],rjs:=[(2,⟨ks [0,1,4,6] [kB 23],ks [4] []⟩),(7,⟨ks [4,7] [kB 51],ks [4,7] []⟩)] } fun t=>by kernel_rfl
theorem o166:Ok T166:=stp o165 Tryz.func280 {} fun t=>by kernel_rfl
theorem o167:Ok T167:=stp o166 Tryz.func206 {} fun t=>by kernel_rfl
theorem o168:Ok T168:=stp o167 Tryz.func286 { lps:=[(2,(⟨ks [0,3,7] [kI 8],ks [3] []⟩,⟨[((.exit 0),⟨[],[]⟩),(.ret,⟨[kI 4],[]⟩)]⟩))] } fun t=>by kernel_rfl
theorem o169:Ok T169:=stp o168 Tryz.func245 {} fun t=>by kernel_rfl
theorem o170:Ok T170:=stp o169 Tryz.func315 { rjs:=[(1,⟨[kB 2],[]⟩)] } fun t=>by kernel_rfl
theorem o171:Ok T171:=stp o170 Tryz.func316 { rjs:=[(1,⟨[kB 2],[]⟩)] } fun t=>by kernel_rfl
theorem o172:Ok T172:=stp o171 Tryz.func281 { lps:=[(9,(⟨ks [1,47,48] [kI 49],ks [1] []⟩,⟨[((.exit 1),⟨ks [1] [],ks [1] []⟩),(.ret,⟨[kI 2],[]⟩)]⟩)),(17,(⟨ks [1,65,66] [kI 67],ks [1] []⟩,⟨[((.exit 3),⟨ks [1] [],ks [1] []⟩),(.ret,⟨[kI 2],[]⟩)]⟩))],rjs:=[(2,⟨ks [1,3] [kB 9],ks [1] []⟩),(4,⟨ks [1,3] [kB 23],ks [1] []⟩),(6,⟨ks [1] [kB 33],ks [1] []⟩),(23,⟨[kB 87],[]⟩)] } fun t=>by kernel_rfl
theorem o173:Ok T173:=stp o172 Tryz.func233 { lps:=[(12,(⟨ks [0,2,4,5,63,64] [kI 65],ks [2] [(5,.st s28 (.p .z (.p .z (.p (.o .z) (.o (.p .z (.p (.o .z) .z)))))) false)]⟩,⟨[((.exit 0),⟨ks [0,2,4,5] [],ks [2] [(5,.st s28 (.p .z (.p .z (.p (.o .z) (.o (.p .z (.p (.o .z) .z)))))) false)]⟩)]⟩)),(18,(⟨ks [0,2,4,5,87,88] [kI 89],ks [2] [(5,.st s28 (.p .z (.p .z (.p (.o .z) (.o (.p .z (.p (.o .z) .z)))))) false)]⟩,⟨[((.exit 2),⟨ks [0,2,5] [],ks [2] [(5,.st s28 (.p .z (.p .z (.p (.o .z) (.o (.p .z (.p (.o .z) .z)))))) false)]⟩),(.ret,⟨ks [2] [kB 3],[(2,.st s28 (.p .z (.p .z (.p (.o .z) (.o (.p .z (.p (.o .z) .z)))))) false)]⟩)]⟩))],jns:=[(7,⟨[(.normal,⟨ks [0,2,5] [(4,.st (.list .str) (.o .z) false)],ks [2] [(5,.st s28 (.p .z (.p .z (.p (.o .z) (.o (.p .z (.p (.o .z) .z)))))) false)]⟩)]⟩)],rjs:=[(3,⟨ks [0,2,4,5] [kB 32],ks [2,5] []⟩),(6,⟨ks [0,2,4,5] [kB 43],ks [2,5] []⟩),(9,⟨ks [0,2,4,5] [kB 58],ks [2,5] []⟩),(28,⟨ks [2] [kB 3],[(2,.st s28 (.p .z (.p .z (.p (.o .z) (.o (.p .z (.p (.o .z) .z)))))) false)]⟩)] } fun t=>by kernel_rfl
theorem o174:Ok T174:=stp o173 Tryz.func200 {} fun t=>by kernel_rfl
theorem o175:Ok T175:=fun _ h=>.cons (QqU (ents Tryz.func255)) (o174 _ h)
theorem o176:Ok T176:=stp o175 Tryz.func317 {} fun t=>by kernel_rfl
theorem o177:Ok T177:=stp o176 Tryz.func284 {} fun t=>by kernel_rfl
theorem o178:Ok T178:=stp o177 Tryz.func298 { lps:=[(3,(⟨ks [3,6,7] [kI 8],[]⟩,⟨[((.exit 0),⟨ks [3] [],[]⟩),(.ret,⟨[kI 2],[]⟩)]⟩))] } fun t=>by kernel_rfl
theorem o179:Ok T179:=stp o178 Tryz.func257 {} fun t=>by kernel_rfl
theorem o180:Ok T180:=stp o179 Tryz.func256 {} fun t=>by kernel_rfl
theorem o181:Ok T181:=stp o180 Tryz.func209 {} fun t=>by kernel_rfl
theorem o182:Ok T182:=stp o181 Tryz.func289 { lps:=[(3,(⟨ks [0,2,4,8] [kI 9,kI 10],ks [4] []⟩,⟨[((.exit 0),⟨ks [0,2,4,8] [kI 9],ks [4] []⟩)]⟩))],jns:=[(6,⟨[(.normal,⟨ks [0,2,4,8] [kI 9,kI 10],ks [4] []⟩)]⟩)],rjs:=[(8,⟨[kI 6,kB 7],[]⟩)] } fun t=>by kernel_rfl
theorem o183:Ok T183:=stp o182 Tryz.func290 {} fun t=>by kernel_rfl
theorem o184:Ok T184:=stp o183 Tryz.func249 {} fun t=>by kernel_rfl
theorem o185:Ok T185:=stp o184 Tryz.func203 { lps:=[(3,(⟨ks [0,13,14] [(6,.st (.list s7) (.o .z) false),kI 15],[]⟩,⟨[((.exit 0),⟨[(6,.st (.list s7) (.o .z) false)],[]⟩),(.ret,⟨[(4,.st (.list s7) (.o (.p .z (.p (.p .z (.p (.o .z) .z)) .z))) false),kI 5],[]⟩)]⟩))] } fun t=>by kernel_rfl
theorem o186:Ok T186:=stp o185 Tryz.func235 {} fun t=>by kernel_rfl
theorem o187:Ok T187:=stp o186 Tryz.func236 { rjs:=[(1,⟨[kB 4],[]⟩)] } fun t=>by kernel_rfl
theorem o188:Ok T188:=stp o187 Tryz.func240 {} fun t=>by kernel_rfl
theorem o189:Ok T189:=stp o188 Tryz.func237 { lps:=[(5,(⟨ks [2,4,5,17,18] [kI 9,kI 19],ks [4,5] []⟩,⟨[((.exit 0),⟨ks [5] [kI 9],ks [5] []⟩)]⟩))],jns:=[(8,⟨[(.normal,⟨ks [2,4,5,17,18,19] [kI 9],ks [4,5] []⟩)]⟩)] } fun t=>by kernel_rfl
theorem o190:Ok T190:=stp o189 Tryz.func238 { lps:=[(3,(⟨ks [6,7] [kI 3,kI 8],[]⟩,⟨[((.exit 0),⟨[kI 3],[]⟩)]⟩))] } fun t=>by kernel_rfl
theorem o191:Ok T191:=stp o190 Tryz.func239 { lps:=[(3,(⟨ks [7,8] [kI 3,kI 9],[]⟩,⟨[((.exit 0),⟨[kI 3],[]⟩)]⟩))] } fun t=>by kernel_rfl
theorem o192:Ok T192:=stp o191 Tryz.func201 { frz:=[(10,0)],lps:=[(11,(⟨ks [3,4,6,12,13,40,41] [kI 42],ks [4,6] []⟩,⟨[((.exit 0),⟨ks [4,6,12,13] [],ks [4,6] []⟩),(.ret,⟨[kI 8,kI 9],[]⟩)]⟩))],rjs:=[(20,⟨ks [17] [kB 66],[]⟩)] } fun t=>by kernel_rfl
theorem o193:Ok T193:=stp o192 Tryz.func282 { lps:=[(3,(⟨ks [0,1,2,8] [kI 9,kI 10],[]⟩,⟨[((.exit 0),⟨ks [0,1,2,8] [kI 9],[]⟩)]⟩))],jns:=[(6,⟨[(.normal,⟨ks [0,1,2,8] [kI 9,kI 10],[]⟩)]⟩)],rjs:=[(8,⟨[kI 6,kB 7],[]⟩)] } fun t=>by kernel_rfl
theorem o194:Ok T194:=stp o193 Tryz.func283 {} fun t=>by kernel_rfl
theorem o195:Ok T195:=stp o194 Tryz.func241 {} fun t=>by kernel_rfl
theorem o196:Ok T196:=fun _ h=>.cons (QrO (ents Tryz.func242)) (o195 _ h)
theorem o197:Ok T197:=stp o196 Tryz.func285 { lps:=[(2,(⟨ks [0,1,7] [kI 8],[]⟩,⟨[((.exit 0),⟨[],[]⟩),(.ret,⟨[kI 4],[]⟩)]⟩))] } fun t=>by kernel_rfl
theorem o198:Ok T198:=stp o197 Tryz.func243 { lps:=[(5,(⟨ks [1] [(0,.st (.list s2) (.o .z) false),kI 5,kI 6],[]⟩,⟨[((.exit 0),⟨[(0,.st (.list s2) (.o .z) false),kI 5],[]⟩)]⟩))],jns:=[(9,⟨[(.normal,⟨ks [1,6] [(0,.st (.list s2) (.o .z) false),kI 5],[]⟩)]⟩)] } fun t=>by kernel_rfl
theorem o199:Ok T199:=stp o198 Tryz.func246 {} fun t=>by kernel_rfl
theorem o200:Ok T200:=fun _ h=>.cons (Qst (ents Tryz.func248)) (o199 _ h)
theorem o201:Ok T201:=stp o200 Tryz.func244 {} fun t=>by kernel_rfl
theorem o202:Ok T202:=stp o201 Tryz.func247 {} fun t=>by kernel_rfl
theorem o203:Ok T203:=stp o202 Tryz.func202 { jns:=[(5,⟨[(.normal,⟨ks [2,4] [(8,.st (.list s2) (.o .z) false)],ks [4] []⟩),(.ret,⟨[(6,.st (.list s2) (.o .z) false),kI 7],[]⟩)]⟩)],rjs:=[(14,⟨ks [4,8,11,12] [kB 52],ks [4,11] []⟩)] } fun t=>by kernel_rfl
theorem o204:Ok T204:=stp o203 Tryz.func294 { lps:=[(2,(⟨ks [0,1,7] [kI 8],[]⟩,⟨[((.exit 0),⟨[],[]⟩),(.ret,⟨[kI 4],[]⟩)]⟩))] } fun t=>by kernel_rfl
theorem o205:Ok T205:=stp o204 Tryz.func252 {} fun t=>by kernel_rfl
theorem o206:Ok T206:=stp o205 Tryz.func253 {} fun t=>by kernel_rfl
theorem o207:Ok T207:=stp o206 Tryz.func207 {} fun t=>by kernel_rfl
theorem o208:Ok T208:=stp o207 Tryz.func173 { lps:=[(6,(⟨ks [0,1,2,3,4,31,32] [kI 33],[]⟩,⟨[((.exit 1),⟨ks [0,1,2,3,4] [],[]⟩),(.ret,⟨[(10,.st (.list s7) (.o (.p .z (.p (.p .z (.p (.o .z) .z)) .z))) false),kI 11],[]⟩)]⟩)),(18,(⟨ks [1,3,4,56,57] [(15,.st (.list s7) (.o (.p .z (.p (.p .z (.p (.o .z) .z)) .z))) false),kI 58],[]⟩,⟨[((.exit 4),⟨[(15,.st (.list s7) (.o (.p .z (.p (.p .z (.p (.o .z) .z)) .z))) false)],[]⟩)]⟩))],rjs:=[(1,⟨ks [0,1,2,3,4] [kB 18],[]⟩)] } fun t=>by kernel_rfl
theorem o209:Ok T209:=fun _ h=>.cons (QrQ (ents Tryz.func291)) (o208 _ h)
theorem o210:Ok T210:=stp o209 Tryz.func250 { lps:=[(3,(⟨ks [13,14] [(6,.st (.list s7) (.o .z) false),kI 15],[]⟩,⟨[((.exit 0),⟨[(6,.st (.list s7) (.o .z) false)],[]⟩),(.ret,⟨[(4,.st (.list s7) (.o (.p .z (.p (.p .z (.p (.o .z) .z)) .z))) false),kI 5],[]⟩)]⟩))] } fun t=>by kernel_rfl
theorem o211:Ok T211:=stp o210 Tryz.func204 {} fun t=>by kernel_rfl
theorem o212:Ok T212:=stp o211 Tryz.func171 { frz:=[(7,4)] } fun t=>by kernel_rfl
theorem o213:Ok T213:=stp o212 Tryz.func172 {} fun t=>by kernel_rfl
theorem o214:Ok T214:=stp o213 Tryz.func136 { lps:=[(10,(⟨ks [2,3,6,7,9,10,51,52] [kI 11,kI 53],ks [3,6,7] [kS 9 s10,(10,.st s12 (.p .z (.p (.o .z) (.o .z))) false)]⟩,⟨[((.exit 0),⟨ks [2,6,7,9,10] [kI 11],ks [6,7] [kS 9 s10,(10,.st s12 (.p .z (.p (.o .z) (.o .z))) false)]⟩),(.ret,⟨ks [6] [],[(6,.st s20 (.p .z (.p .z (.p (.p .z (.p (.o (.o (.p .z (.p (.p .z (.p (.o .z) .z)) .z)))) (.o .z))) (.p .z (.p .z (.p (.o (.p .z (.p (.p .z (.p (.o .z) .z)) .z))) (.o .z))))))) false)]⟩)]⟩))],rjs:=[(4,⟨ks [2,3,4,6,7] [kB 41],ks [3,4,6,7] []⟩)] } fun t=>by kernel_rfl
theorem o215:Ok T215:=stp o214 Tryz.func101 { frz:=[(6,2)],lps:=[(4,(⟨ks [2,4,6,13,14] [(7,.st (.list s12) (.o (.p .z (.p (.o .z) (.o .z)))) false),kI 15],ks [2,4] [(6,.st s20 (.p .z (.p .z (.p (.p .z (.p (.o (.o (.p .z (.p (.p .z (.p (.o .z) .z)) .z)))) (.o .z))) (.p .z (.p .z (.p (.o (.p .z (.p (.p .z (.p (.o .z) .z)) .z))) .z)))))) false)]⟩,⟨[((.exit 0),⟨ks [4,6] [(7,.st (.list s12) (.o (.p .z (.p (.o .z) (.o .z)))) false)],ks [4] [(6,.st s20 (.p .z (.p .z (.p (.p .z (.p (.o (.o (.p .z (.p (.p .z (.p (.o .z) .z)) .z)))) (.o .z))) (.p .z (.p .z (.p (.o (.p .z (.p (.p .z (.p (.o .z) .z)) .z))) .z)))))) false)]⟩),(.ret,⟨ks [4] [(5,.st (.list s12) (.o (.p .z (.p (.o (.o (.p .z (.p (.p .z (.p (.o .z) .z)) .z)))) (.o .z)))) false)],[(4,.st s20 (.p .z (.p .z (.p (.p .z (.p (.o (.o (.p .z (.p (.p .z (.p (.o .z) .z)) .z)))) (.o .z))) (.p .z (.p .z (.p (.o (.p .z (.p (.p .z (.p (.o .z) .z)) .z))) (.o .z))))))) false)]⟩)]⟩))] } fun t=>by kernel_rfl
theorem o216:Ok T216:=fun _ h=>.cons (Qjz (ents Tryz.func137) Qs1 QqB) (o215 _ h)
theorem o217:Ok T217:=stp o216 Tryz.func102 { lps:=[(3,(⟨ks [0] [(5,.st (.list (.int .i64)) (.o .z) false),kI 6],[]⟩,⟨[((.exit 0),⟨[(5,.st (.list (.int .i64)) (.o .z) false)],[]⟩)]⟩))] } fun t=>by kernel_rfl
theorem o218:Ok T218:=stp o217 Tryz.func53 {} fun t=>by kernel_rfl
theorem o219:Ok T219:=stp o218 Tryz.func50 { lps:=[(2,(⟨ks [0,12,13] [kI 14],[]⟩,⟨[((.exit 0),⟨[],[]⟩),(.ret,⟨[kI 2],[]⟩)]⟩))],rjs:=[(7,⟨ks [0,4,12,13,14] [kB 42],ks [4,5] []⟩)] } fun t=>by kernel_rfl
theorem o220:Ok T220:=stp o219 Tryz.func95 {} fun t=>by kernel_rfl
theorem o221:Ok T221:=stp o220 Tryz.func133 {} fun t=>by kernel_rfl
theorem o222:Ok T222:=stp o221 Tryz.func99 { rjs:=[(1,⟨[kB 6],[]⟩)] } fun t=>by kernel_rfl
theorem o223:Ok T223:=stp o222 Tryz.func131 {} fun t=>by kernel_rfl
theorem o224:Ok T224:=stp o223 Tryz.func96 {} fun t=>by kernel_rfl
theorem o225:Ok T225:=stp o224 Tryz.func51 { lps:=[(2,(⟨ks [0,8,9] [kI 10],[]⟩,⟨[((.exit 0),⟨[],[]⟩),(.ret,⟨[kI 2],[]⟩)]⟩))] } fun t=>by kernel_rfl
theorem o226:Ok T226:=stp o225 Tryz.func98 { rjs:=[(1,⟨[kB 4],[]⟩)] } fun t=>by kernel_rfl
theorem o227:Ok T227:=stp o226 Tryz.func52 { lps:=[(3,(⟨ks [1,2,5,10,11] [kI 12],ks [2] [kS 5 s2]⟩,⟨[((.exit 0),⟨ks [5] [],[kS 5 s2]⟩)]⟩))],jns:=[(7,⟨[(.normal,⟨ks [1,2,5,10,11,12] [],ks [2] [kS 5 s2]⟩)]⟩)],rjs:=[(6,⟨ks [1,2,5,7,10,11,12] [kB 27],ks [2,5,7] []⟩)] } fun t=>by kernel_rfl
theorem o228:Ok T228:=stp o227 Tryz.func138 { lps:=[(4,(⟨ks [1,2,15,16] [kI 17],[]⟩,⟨[((.exit 0),⟨[],[]⟩),(.ret,⟨[kB 6],[]⟩)]⟩))] } fun t=>by kernel_rfl
theorem o229:Ok T229:=stp o228 Tryz.func258 { lps:=[(4,(⟨ks [0,1,12] [kI 13],[]⟩,⟨[((.exit 0),⟨[],[]⟩),(.ret,⟨[kB 4],[]⟩)]⟩))] } fun t=>by kernel_rfl
theorem o230:Ok T230:=stp o229 Tryz.func210 { rjs:=[(1,⟨[kB 4],[]⟩)] } fun t=>by kernel_rfl
theorem o231:Ok T231:=stp o230 Tryz.func174 { rjs:=[(1,⟨[kB 4],[]⟩)] } fun t=>by kernel_rfl
theorem o232:Ok T232:=stp o231 Tryz.func139 { rjs:=[(1,⟨[kB 4],[]⟩)] } fun t=>by kernel_rfl
theorem o233:Ok T233:=stp o232 Tryz.func103 {} fun t=>by kernel_rfl
theorem o234:Ok T234:=stp o233 Tryz.func140 { lps:=[(4,(⟨ks [0,1,12] [kI 13],[]⟩,⟨[((.exit 0),⟨[],[]⟩),(.ret,⟨[kB 4],[]⟩)]⟩))] } fun t=>by kernel_rfl
theorem o235:Ok T235:=stp o234 Tryz.func104 {} fun t=>by kernel_rfl
theorem o236:Ok T236:=stp o235 Tryz.func54 { rjs:=[(1,⟨[kB 4],[]⟩)] } fun t=>by kernel_rfl
theorem o237:Ok T237:=stp o236 Tryz.func55 { lps:=[(4,(⟨ks [1,2,15,16] [kI 17],[]⟩,⟨[((.exit 0),⟨[],[]⟩),(.ret,⟨[kB 6],[]⟩)]⟩))] } fun t=>by kernel_rfl
theorem o238:Ok T238:=stp o237 Tryz.func105 { lps:=[(4,(⟨ks [1,2,15,16] [kI 17],[]⟩,⟨[((.exit 0),⟨[],[]⟩),(.ret,⟨[kB 6],[]⟩)]⟩))] } fun t=>by kernel_rfl
theorem o239:Ok T239:=stp o238 Tryz.func56 { rjs:=[(1,⟨[kB 4],[]⟩)] } fun t=>by kernel_rfl
theorem o240:Ok T240:=stp o239 Tryz.func22 { frz:=[(0,0)] } fun t=>by kernel_rfl
theorem o241:Ok T241:=stp o240 Tryz.func57 { lps:=[(2,(⟨ks [7,8] [kS 0 .str,kI 9],[]⟩,⟨[((.exit 0),⟨[kS 0 .str],[]⟩)]⟩))] } fun t=>by kernel_rfl
theorem o242:Ok T242:=stp o241 Tryz.func58 { lps:=[(3,(⟨ks [7,8] [(3,.st (.list (.int .i64)) (.o .z) false),kI 9],[]⟩,⟨[((.exit 0),⟨[(3,.st (.list (.int .i64)) (.o .z) false)],[]⟩)]⟩))] } fun t=>by kernel_rfl
theorem o243:Ok T243:=stp o242 Tryz.func59 { lps:=[(3,(⟨ks [6,7] [kS 3 .str,kI 8],[]⟩,⟨[((.exit 0),⟨[kS 3 .str],[]⟩)]⟩))] } fun t=>by kernel_rfl
theorem o244:Ok T244:=stp o243 Tryz.func23 {} fun t=>by kernel_rfl
theorem o245:Ok T245:=stp o244 Tryz.func7 {} fun t=>by kernel_rfl
theorem o246:Ok T246:=stp o245 Tryz.func8 {} fun t=>by kernel_rfl
theorem o247:Ok T247:=stp o246 Tryz.func60 { lps:=[(4,(⟨ks [0,1] [kI 5],[]⟩,⟨[((.exit 0),⟨[],[]⟩),(.ret,⟨[kB 4],[]⟩)]⟩))] } fun t=>by kernel_rfl
theorem o248:Ok T248:=stp o247 Tryz.func108 {} fun t=>by kernel_rfl
theorem o249:Ok T249:=stp o248 Tryz.func61 { lps:=[(4,(⟨ks [0,1] [kI 5],[]⟩,⟨[((.exit 0),⟨[],[]⟩),(.ret,⟨[kB 4],[]⟩)]⟩))] } fun t=>by kernel_rfl
theorem o250:Ok T250:=stp o249 Tryz.func24 {} fun t=>by kernel_rfl
theorem o251:Ok T251:=stp o250 Tryz.func62 {} fun t=>by kernel_rfl
theorem o252:Ok T252:=stp o251 Tryz.func25 { lps:=[(4,(⟨ks [0,1] [kI 5],[]⟩,⟨[((.exit 0),⟨[],[]⟩),(.ret,⟨[kB 4],[]⟩)]⟩))] } fun t=>by kernel_rfl
theorem o253:Ok T253:=stp o252 Tryz.func26 { lps:=[(4,(⟨ks [0,1] [kI 5],[]⟩,⟨[((.exit 0),⟨[],[]⟩),(.ret,⟨[kB 4],[]⟩)]⟩))] } fun t=>by kernel_rfl
theorem o254:Ok T254:=stp o253 Tryz.func143 {} fun t=>by kernel_rfl
theorem o255:Ok T255:=stp o254 Tryz.func177 {} fun t=>by kernel_rfl
theorem o256:Ok T256:=stp o255 Tryz.func144 {} fun t=>by kernel_rfl
theorem o257:Ok T257:=stp o256 Tryz.func109 {} fun t=>by kernel_rfl
theorem o258:Ok T258:=stp o257 Tryz.func63 { lps:=[(4,(⟨ks [0,1] [kI 5],[]⟩,⟨[((.exit 0),⟨[],[]⟩),(.ret,⟨[kB 4],[]⟩)]⟩))] } fun t=>by kernel_rfl
theorem o259:Ok T259:=stp o258 Tryz.func110 {} fun t=>by kernel_rfl
theorem o260:Ok T260:=stp o259 Tryz.func64 { lps:=[(4,(⟨ks [0,1] [kI 5],[]⟩,⟨[((.exit 0),⟨[],[]⟩),(.ret,⟨[kB 4],[]⟩)]⟩))] } fun t=>by kernel_rfl
theorem o261:Ok T261:=stp o260 Tryz.func27 {} fun t=>by kernel_rfl
theorem o262:Ok T262:=stp o261 Tryz.func111 { lps:=[(4,(⟨ks [0,1] [kI 5],[]⟩,⟨[((.exit 0),⟨[],[]⟩),(.ret,⟨[kB 4],[]⟩)]⟩))] } fun t=>by kernel_rfl
theorem o263:Ok T263:=stp o262 Tryz.func65 {} fun t=>by kernel_rfl
theorem o264:Ok T264:=stp o263 Tryz.func28 { lps:=[(4,(⟨ks [0,1] [kI 5],[]⟩,⟨[((.exit 0),⟨[],[]⟩),(.ret,⟨[kB 4],[]⟩)]⟩))] } fun t=>by kernel_rfl
theorem o265:Ok T265:=stp o264 Tryz.func9 {} fun t=>by kernel_rfl
theorem o266:Ok T266:=stp o265 Tryz.func3 {} fun t=>by kernel_rfl
theorem Qgc {W0:World} (I:Lib.TabIs Tryz.prog W0 "internal/strconv.uint64pow10" .u64 Lib.pow10Tab) (J:∃m,W0.cell? ⟨1,0,none⟩=some (.int .i64 m)) (U:QfF Tryz.prog W0):Contract Tryz.prog W0 3 J6:=(o266 W0 ⟨I,J,U⟩).head
end GL
end Go.Dx
