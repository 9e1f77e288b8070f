/- A function of the library, walked -/
import Derived.Shelf.LaysC
import Derived.Shelf.Strconv.ErrVarParseInt
import Derived.Test.YtmklfdnhndakcaaGreatDoorProg
import Derived.WalkKit
import Derived.KernelRfl
import Derived.Test.YtmklfdnhndakcaaGreatDoorDxd
import Derived.Test.YtmklfdnhndakcaaGreatDoorHdFmtW272
set_option linter.unusedVariables false
set_option linter.unusedSimpArgs false
namespace Go.Proofs
open Go.Shelf
def Tryz.layPI_ren:Go.Shelf.Ren:=⟨fun | 174=>244 | 247=>270 | 245=>271 | 287=>309 | 279=>310 | 280=>311 | 281=>312 | 282=>313 | 321=>347 | 322=>348 | 316=>349 | 171=>351 | 205=>350 | 243=>379 | 246=>314 | 283=>352 | 284=>353 | 285=>354 | 286=>355 | 129=>372 | 317=>380 | 318=>381 | 319=>382 | 320=>383 | 337=>392 | 338=>393 | n=>n,fun | 9=>9 | 3=>3 | 2=>2 | 75=>296 | 85=>297 | 4=>4 | 167=>347 | 5=>5 | 53=>348 | 175=>349 | 46=>229 | 168=>351 | 37=>252 | 0=>0 | 210=>387 | 21=>21 | 127=>394 | 145=>415 | 143=>413 | 171=>389 | 173=>392 | 212=>417 | 51=>404 | 20=>20 | 213=>418 | 232=>432 | 233=>433 | 80=>360 | n=>n,fun | 15=>1 | 16=>2 | 17=>5 | 18=>6 | 19=>7 | n=>n⟩
theorem Tryz.layPI:Go.Proofs.LaysC.n174 Tryz.prog Tryz.layPI_ren:={
 mixed:=by kernel_rfl
 f129:=Tryz.func372.trans (congrArg some (by kernel_rfl))
 f171:=Tryz.func351.trans (congrArg some (by kernel_rfl))
 f174:=Tryz.func244.trans (congrArg some (by kernel_rfl))
 f205:=Tryz.func350.trans (congrArg some (by kernel_rfl))
 f243:=Tryz.func379.trans (congrArg some (by kernel_rfl))
 f245:=Tryz.func271.trans (congrArg some (by kernel_rfl))
 f246:=Tryz.func314.trans (congrArg some (by kernel_rfl))
 f247:=Tryz.func270.trans (congrArg some (by kernel_rfl))
 f279:=Tryz.func310.trans (congrArg some (by kernel_rfl))
 f280:=Tryz.func311.trans (congrArg some (by kernel_rfl))
 f281:=Tryz.func312.trans (congrArg some (by kernel_rfl))
 f282:=Tryz.func313.trans (congrArg some (by kernel_rfl))
 f283:=Tryz.func352.trans (congrArg some (by kernel_rfl))
 f284:=Tryz.func353.trans (congrArg some (by kernel_rfl))
 f285:=Tryz.func354.trans (congrArg some (by kernel_rfl))
 f286:=Tryz.func355.trans (congrArg some (by kernel_rfl))
 f287:=Tryz.func309.trans (congrArg some (by kernel_rfl))
 f316:=Tryz.func349.trans (congrArg some (by kernel_rfl))
 f317:=Tryz.func380.trans (congrArg some (by kernel_rfl))
 f318:=Tryz.func381.trans (congrArg some (by kernel_rfl))
 f319:=Tryz.func382.trans (congrArg some (by kernel_rfl))
 f320:=Tryz.func383.trans (congrArg some (by kernel_rfl))
 f321:=Tryz.func347.trans (congrArg some (by kernel_rfl))
 f322:=Tryz.func348.trans (congrArg some (by kernel_rfl))
 f337:=Tryz.func392.trans (congrArg some (by kernel_rfl))
 f338:=Tryz.func393.trans (congrArg some (by kernel_rfl))
 t0:=Tryz.underlying0
 a0:=Tryz.isAgg0
 z0:=Tryz.sizeOf0
 v0:=Tryz.zeroValue0
 t2:=Tryz.underlying2
 a2:=Tryz.isAgg2
 z2:=Tryz.sizeOf2
 v2:=Tryz.zeroValue2
 t3:=Tryz.underlying3
 a3:=Tryz.isAgg3
 z3:=Tryz.sizeOf3
 v3:=Tryz.zeroValue3
 t4:=Tryz.underlying4
 a4:=Tryz.isAgg4
 z4:=Tryz.sizeOf4
 v4:=Tryz.zeroValue4
 t5:=Tryz.underlying5
 a5:=Tryz.isAgg5
 z5:=Tryz.sizeOf5
 v5:=Tryz.zeroValue5
 t9:=Tryz.underlying9
 a9:=Tryz.isAgg9
 z9:=Tryz.sizeOf9
 v9:=Tryz.zeroValue9
 t20:=Tryz.underlying20
 a20:=Tryz.isAgg20
 z20:=Tryz.sizeOf20
 v20:=Tryz.zeroValue20
 t21:=Tryz.underlying21
 a21:=Tryz.isAgg21
 z21:=Tryz.sizeOf21
 v21:=Tryz.zeroValue21
 t37:=Tryz.underlying252
 a37:=Tryz.isAgg252
 z37:=Tryz.sizeOf252
 v37:=Tryz.zeroValue252
 t46:=Tryz.underlying229
 a46:=Tryz.isAgg229
 z46:=Tryz.sizeOf229
 v46:=Tryz.zeroValue229
 t51:=Tryz.underlying404
 a51:=Tryz.isAgg404
 z51:=Tryz.sizeOf404
 v51:=Tryz.zeroValue404
 t53:=Tryz.underlying348
 a53:=Tryz.isAgg348
 z53:=Tryz.sizeOf348
 v53:=Tryz.zeroValue348
 t75:=Tryz.underlying296
 a75:=Tryz.isAgg296
 z75:=Tryz.sizeOf296
 v75:=Tryz.zeroValue296
 t85:=Tryz.underlying297
 a85:=Tryz.isAgg297
 z85:=Tryz.sizeOf297
 v85:=Tryz.zeroValue297
 t127:=Tryz.underlying394
 a127:=Tryz.isAgg394
 z127:=Tryz.sizeOf394
 v127:=Tryz.zeroValue394
 t143:=Tryz.underlying413
 a143:=Tryz.isAgg413
 z143:=Tryz.sizeOf413
 v143:=Tryz.zeroValue413
 t145:=Tryz.underlying415
 a145:=Tryz.isAgg415
 z145:=Tryz.sizeOf415
 v145:=Tryz.zeroValue415
 t167:=Tryz.underlying347
 a167:=Tryz.isAgg347
 z167:=Tryz.sizeOf347
 v167:=Tryz.zeroValue347
 t168:=Tryz.underlying351
 a168:=Tryz.isAgg351
 z168:=Tryz.sizeOf351
 v168:=Tryz.zeroValue351
 t171:=Tryz.underlying389
 a171:=Tryz.isAgg389
 z171:=Tryz.sizeOf389
 v171:=Tryz.zeroValue389
 t173:=Tryz.underlying392
 a173:=Tryz.isAgg392
 z173:=Tryz.sizeOf392
 v173:=Tryz.zeroValue392
 t175:=Tryz.underlying349
 a175:=Tryz.isAgg349
 z175:=Tryz.sizeOf349
 v175:=Tryz.zeroValue349
 t210:=Tryz.underlying387
 a210:=Tryz.isAgg387
 z210:=Tryz.sizeOf387
 v210:=Tryz.zeroValue387
 t212:=Tryz.underlying417
 a212:=Tryz.isAgg417
 z212:=Tryz.sizeOf417
 v212:=Tryz.zeroValue417
 t213:=Tryz.underlying418
 a213:=Tryz.isAgg418
 z213:=Tryz.sizeOf418
 t232:=Tryz.underlying432
 a232:=Tryz.isAgg432
 z232:=Tryz.sizeOf432
 v232:=Tryz.zeroValue432
 t233:=Tryz.underlying433
 a233:=Tryz.isAgg433
 z233:=Tryz.sizeOf433
 v233:=Tryz.zeroValue433
 g15:=by kernel_rfl
 g16:=by kernel_rfl
 g17:=by kernel_rfl
 g18:=by kernel_rfl
 g19:=by kernel_rfl
 t80:=Tryz.underlying360
 a80:=Tryz.isAgg360
 z80:=Tryz.sizeOf360
 v80:=Tryz.zeroValue360
 i0:=by kernel_rfl
 i2:=by kernel_rfl
 i3:=by kernel_rfl
 i4:=by kernel_rfl
 i5:=by kernel_rfl
 i9:=by kernel_rfl
 i20:=by kernel_rfl
 i21:=by kernel_rfl
 i37:=by kernel_rfl
 i46:=by kernel_rfl
 i51:=by kernel_rfl
 i53:=by kernel_rfl
 i75:=by kernel_rfl
 i80:=by kernel_rfl
 i85:=by kernel_rfl
 i127:=by kernel_rfl
 i143:=by kernel_rfl
 i145:=by kernel_rfl
 i167:=by kernel_rfl
 i168:=by kernel_rfl
 i171:=by kernel_rfl
 i173:=by kernel_rfl
 i175:=by kernel_rfl
 i210:=by kernel_rfl
 i212:=by kernel_rfl
 i232:=by kernel_rfl
 i233:=by kernel_rfl
 m15:=by kernel_rfl
 m16:=by kernel_rfl
 m17:=by kernel_rfl
 m18:=by kernel_rfl
 m19:=by kernel_rfl
 c0:=by kernel_rfl
 c2:=by kernel_rfl
 c3:=by kernel_rfl
 c4:=by kernel_rfl
 c5:=by kernel_rfl
 c9:=by kernel_rfl
 c20:=by kernel_rfl
 c21:=by kernel_rfl
 c37:=by kernel_rfl
 c46:=by kernel_rfl
 c51:=by kernel_rfl
 c53:=by kernel_rfl
 c75:=by kernel_rfl
 c80:=by kernel_rfl
 c85:=by kernel_rfl
 c127:=by kernel_rfl
 c143:=by kernel_rfl
 c145:=by kernel_rfl
 c167:=by kernel_rfl
 c168:=by kernel_rfl
 c171:=by kernel_rfl
 c173:=by kernel_rfl
 c175:=by kernel_rfl
 c210:=by kernel_rfl
 c212:=by kernel_rfl
 c213:=by kernel_rfl
 c232:=by kernel_rfl
 c233:=by kernel_rfl }
end Go.Proofs
namespace Go.Dx
open Go.Proofs Go.RowKit
theorem Quu {l:List UInt8} {v:Int} (h:Lib.parseIntB 64 l=.ok v):-9223372036854775808<=v/\v<=9223372036854775807:=by
 unfold Lib.parseIntB at h
 split at h
 ·cases h
 ·simp only at h
  split at h
  ·cases h
  ·cases h
  ·split at h
   ·cases h
   ·split at h
    ·cases h
    ·rename_i u _ h1 h2
     simp only[Lib.NumEnd.ok.injEq] at h
     subst h
     split<;>omega
set_option maxHeartbeats 4000000 in
set_option maxRecDepth 1000000 in
theorem QuW (n:Int) (w:World) (h0:-9223372036854775808<=n) (h1:n<=9223372036854775807) (htab:Lib.TabIs Tryz.prog w "internal/strconv.uint64pow10" .u64 Lib.pow10Tab) :
  Calls Tryz.prog 245 #[.int .i64 n] w fun e w'=>e=.returned (.string ⟨(Lib.itoa n).toArray⟩)/\Below w.heap.size w w':=by
 have hF:Calls Tryz.prog 272 #[.int .i64 n,.int .i64 10] w fun e w'=>e=.returned (.string ⟨(Lib.itoa n).toArray⟩)/\Hid (Below w.heap.size w w'):=
  (Any.strconv_FormatInt_10 Tryz.layFmt n h0 h1 w htab).mono fun e w' h=>⟨h.1,by
   obtain⟨k,os,rfl⟩:=h.2
   exact⟨rfl,rfl,rfl,(Go.Dx.Qkg w k os).size,fun i hi=>Go.Dx.Qp6 w k os hi⟩⟩
 clear htab
 go_enter Tryz.func245,Tryz.ntmps245
 go_wp2_with (go_at_call 272;refine hF.mono ?_;rintro e w' ⟨rfl,hB⟩)
 all_goals (go_ret;exact⟨rfl,hB.out⟩)
set_option maxHeartbeats 4000000 in
set_option maxRecDepth 1000000 in
theorem Quq (decC:∀(n:Int) (w:World),-9223372036854775808<=n->n<=9223372036854775807->Lib.TabIs Tryz.prog w "internal/strconv.uint64pow10" .u64 Lib.pow10Tab->Calls Tryz.prog 245 #[.int .i64 n] w fun e w'=>e=.returned (.string ⟨(Lib.itoa n).toArray⟩)/\Below w.heap.size w w')
  (s:ByteArray) (w:World) (hs:s.size<=1000000) (hT:Lib.TabIs Tryz.prog w "internal/strconv.uint64pow10" .u64 Lib.pow10Tab)
  (hv1:∃tp p,w.var? Tryz.prog "strconv.ErrSyntax" = some #[.iface tp p]) (hv2:∃tp p,w.var? Tryz.prog "strconv.ErrRange" = some #[.iface tp p]) :
  Calls Tryz.prog 220 #[.string s] w fun e w'=>e=.returned (.int .i64 (numS s.data.toList))/\Below w.heap.size w w':=by
 have tabOf:∀w',Below w.heap.size w w'->Lib.TabIs Tryz.prog w' "internal/strconv.uint64pow10" .u64 Lib.pow10Tab:=fun w' hb=>by
  refine Go.Dx.Qm3 (ow:=fun _=>.fz) (fun i hi=>⟨rfl,hb.block i hi⟩) hT
 rcases hp:Lib.parseIntB 64 s.data.toList with v | _ | _
 ·
  have hb:=Quu hp
  have hPI:Calls Tryz.prog 244 #[.string s,.int .i64 10,.int .i64 64] w fun e w'=>e=.returned (.tuple #[.int .i64 v,.nilIface])/\Hid (Below w.heap.size w w'):=
   (Any.strconv_ParseInt_10_at64_ok Tryz.layPI s (by omega) v hp w).mono fun e w' h=>⟨h.1,by
    rcases h.2 with rfl | ⟨t,rfl⟩
    ·exact Below.refl _ _
    ·exact Lib.bytesWorld_below _ _ _⟩
  have DC:Hid (∀w',Below w.heap.size w w'->Calls Tryz.prog 245 #[.int .i64 v] w' fun e w''=>e=.returned (.string ⟨(Lib.itoa v).toArray⟩)/\Hid (Below w.heap.size w w'')):=fun w' hbw=>(decC v w' hb.1 hb.2 (tabOf w' hbw)).mono fun e w'' h=>⟨h.1,hbw.trans (h.2.mono hbw.size)⟩
  by_cases hl:s.size<=10
  ·by_cases he:(⟨(Lib.itoa v).toArray⟩:ByteArray)=s
   ·have hn:numS s.data.toList=v:=by
     unfold numS
     rw[hp]
     simp only
     rw[if_pos ⟨by have:=hl;simpa using this,by rw[<-he]⟩]
    rw[hn]
    have h10:¬(10:Int)<(s.size:Int):=by omega
    clear hn hp hT hv1 hv2 tabOf decC
    go_enter Tryz.func220,Tryz.ntmps220
    go_wp2_with (first | (go_at_call 244;refine hPI.mono ?_;rintro e w' ⟨rfl,hB⟩) | (go_at_call 245;refine (DC.out _ hB.out).mono ?_;rintro e w' ⟨rfl,hB2⟩))
    all_goals (go_ret;first | exact⟨rfl,hB2.out⟩ | exact⟨rfl,hB.out⟩)
   ·have hn:numS s.data.toList = -1:=by
     unfold numS
     rw[hp]
     simp only
     rw[if_neg (fun h=>he (by rw[h.2]))]
    rw[hn]
    have h10:¬(10:Int)<(s.size:Int):=by omega
    have hq:(Lib.itoa v == s.toList)=false:=by
     rw[ByteArray.toList_eq]
     exact beq_eq_false_iff_ne.2 fun h=>he (by rw[h])
    clear hn hp hT hv1 hv2 tabOf decC
    go_enter Tryz.func220,Tryz.ntmps220
    go_wp2_with (first | (go_at_call 244;refine hPI.mono ?_;rintro e w' ⟨rfl,hB⟩) | (go_at_call 245;refine (DC.out _ hB.out).mono ?_;rintro e w' ⟨rfl,hB2⟩))
    all_goals (go_ret;first | exact⟨rfl,hB2.out⟩ | exact⟨rfl,hB.out⟩)
  ·have hn:numS s.data.toList = -1:=by
    unfold numS
    rw[hp]
    simp only
    rw[if_neg (fun h=>hl (by simpa using h.1))]
   rw[hn]
   have h10:(10:Int)<(s.size:Int):=by omega
   clear hn hp hT hv1 hv2 tabOf decC
   go_enter Tryz.func220,Tryz.ntmps220
   go_wp2_with (first | (go_at_call 244;refine hPI.mono ?_;rintro e w' ⟨rfl,hB⟩) | (go_at_call 245;refine (DC.out _ hB.out).mono ?_;rintro e w' ⟨rfl,hB2⟩))
   all_goals (go_ret;first | exact⟨rfl,hB2.out⟩ | exact⟨rfl,hB.out⟩)
 ·
  obtain⟨tp,p,hv⟩:=hv1
  have hn:numS s.data.toList = -1:=by unfold numS;rw[hp]
  rw[hn]
  have hPI:=Any.strconv_ParseInt_10_at64_syntax_var Tryz.layPI s (by omega) hp tp p w hv
  clear hn hp hT hv2 hv tabOf decC
  go_enter Tryz.func220,Tryz.ntmps220
  go_wp2_with (go_at_call 244;refine hPI.mono ?_;rintro e w' ⟨N,rfl,hN,hc,hB⟩)
  all_goals (go_ret;exact⟨rfl,hB⟩)
 ·
  obtain⟨tp,p,hv⟩:=hv2
  have hn:numS s.data.toList = -1:=by unfold numS;rw[hp]
  rw[hn]
  have hPI:=Any.strconv_ParseInt_10_at64_range_var Tryz.layPI s (by omega) hp tp p w hv
  clear hn hp hT hv1 hv tabOf decC
  go_enter Tryz.func220,Tryz.ntmps220
  go_wp2_with (go_at_call 244;refine hPI.mono ?_;rintro e w' ⟨N,rfl,hN,hc,hB⟩)
  all_goals (go_ret;exact⟨rfl,hB⟩)
theorem QuA {W0:World} (hE:Enters Tryz.prog 220) (hT:Lib.TabIs Tryz.prog W0 "internal/strconv.uint64pow10" .u64 Lib.pow10Tab) (hS:Qg8 Tryz.prog W0):Contract Tryz.prog W0 220 { ins:=[.v .str .z],outs:=[(.int .i64,.z)],F:=fun t=>numO t.1,dm:=false }:=
 QqF hE fun s w hs hW=>by
  have up:∀(n:String) (r:Array Value),W0.var? Tryz.prog n=some r->w.var? Tryz.prog n=some r:=fun n r h=>Go.Dx.Qm3 (ow:=fun _=>.fz) (fun i hi=>⟨rfl,hW i hi⟩) h
  exact Quq QuW s w hs (up _ _ hT) (hS.syn.imp fun tp h=>h.imp fun p h=>up _ _ h) (hS.ran.imp fun tp h=>h.imp fun p h=>up _ _ h)
end Go.Dx
