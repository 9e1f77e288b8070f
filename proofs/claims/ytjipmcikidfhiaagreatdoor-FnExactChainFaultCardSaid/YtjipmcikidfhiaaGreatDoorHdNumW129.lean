/- A function of the library, walked -/
import Derived.Shelf.LaysC
import Derived.Shelf.Strconv.ErrVarParseInt
import Derived.Test.YtjipmcikidfhiaaGreatDoorProg
import Derived.WalkKit
import Derived.KernelRfl
import Derived.Test.YtjipmcikidfhiaaGreatDoorDxd
import Derived.Test.YtjipmcikidfhiaaGreatDoorHdFmtW200
set_option linter.unusedVariables false
set_option linter.unusedSimpArgs false
namespace Go.Proofs
open Go.Shelf
def Tryz.layPI_ren:Go.Shelf.Ren:=⟨fun | 174=>160 | 247=>198 | 245=>199 | 287=>242 | 279=>243 | 280=>244 | 281=>245 | 282=>246 | 321=>283 | 322=>284 | 316=>285 | 171=>287 | 205=>286 | 243=>313 | 246=>247 | 283=>288 | 284=>289 | 285=>290 | 286=>291 | 129=>310 | 317=>314 | 318=>315 | 319=>316 | 320=>317 | 337=>326 | 338=>327 | n=>n,fun | 9=>9 | 3=>3 | 2=>2 | 75=>235 | 85=>236 | 4=>4 | 167=>306 | 5=>5 | 53=>307 | 175=>308 | 46=>226 | 168=>310 | 37=>314 | 0=>0 | 210=>351 | 21=>21 | 127=>359 | 145=>380 | 143=>378 | 171=>354 | 173=>357 | 212=>382 | 51=>370 | 20=>20 | 213=>383 | 232=>397 | 233=>398 | 80=>320 | n=>n,fun | 15=>1 | 16=>2 | 17=>5 | 18=>6 | 19=>7 | n=>n⟩
theorem Tryz.layPI:Go.Proofs.LaysC.n174 Tryz.prog Tryz.layPI_ren:={
 mixed:=by kernel_rfl
 f129:=Tryz.func310.trans (congrArg some (by kernel_rfl))
 f171:=Tryz.func287.trans (congrArg some (by kernel_rfl))
 f174:=Tryz.func160.trans (congrArg some (by kernel_rfl))
 f205:=Tryz.func286.trans (congrArg some (by kernel_rfl))
 f243:=Tryz.func313.trans (congrArg some (by kernel_rfl))
 f245:=Tryz.func199.trans (congrArg some (by kernel_rfl))
 f246:=Tryz.func247.trans (congrArg some (by kernel_rfl))
 f247:=Tryz.func198.trans (congrArg some (by kernel_rfl))
 f279:=Tryz.func243.trans (congrArg some (by kernel_rfl))
 f280:=Tryz.func244.trans (congrArg some (by kernel_rfl))
 f281:=Tryz.func245.trans (congrArg some (by kernel_rfl))
 f282:=Tryz.func246.trans (congrArg some (by kernel_rfl))
 f283:=Tryz.func288.trans (congrArg some (by kernel_rfl))
 f284:=Tryz.func289.trans (congrArg some (by kernel_rfl))
 f285:=Tryz.func290.trans (congrArg some (by kernel_rfl))
 f286:=Tryz.func291.trans (congrArg some (by kernel_rfl))
 f287:=Tryz.func242.trans (congrArg some (by kernel_rfl))
 f316:=Tryz.func285.trans (congrArg some (by kernel_rfl))
 f317:=Tryz.func314.trans (congrArg some (by kernel_rfl))
 f318:=Tryz.func315.trans (congrArg some (by kernel_rfl))
 f319:=Tryz.func316.trans (congrArg some (by kernel_rfl))
 f320:=Tryz.func317.trans (congrArg some (by kernel_rfl))
 f321:=Tryz.func283.trans (congrArg some (by kernel_rfl))
 f322:=Tryz.func284.trans (congrArg some (by kernel_rfl))
 f337:=Tryz.func326.trans (congrArg some (by kernel_rfl))
 f338:=Tryz.func327.trans (congrArg some (by kernel_rfl))
 t0:=Tryz.underlying0
 a0:=Tryz.isAgg0
 z0:=Tryz.sizeOf0
 v0:=Tryz.zeroValue0
 t2:=Tryz.underlying2
 a2:=Tryz.isAgg2
 z2:=Tryz.sizeOf2
 v2:=Tryz.zeroValue2
 t3:=Tryz.underlying3
 a3:=Tryz.isAgg3
 z3:=Tryz.sizeOf3
 v3:=Tryz.zeroValue3
 t4:=Tryz.underlying4
 a4:=Tryz.isAgg4
 z4:=Tryz.sizeOf4
 v4:=Tryz.zeroValue4
 t5:=Tryz.underlying5
 a5:=Tryz.isAgg5
 z5:=Tryz.sizeOf5
 v5:=Tryz.zeroValue5
 t9:=Tryz.underlying9
 a9:=Tryz.isAgg9
 z9:=Tryz.sizeOf9
 v9:=Tryz.zeroValue9
 t20:=Tryz.underlying20
 a20:=Tryz.isAgg20
 z20:=Tryz.sizeOf20
 v20:=Tryz.zeroValue20
 t21:=Tryz.underlying21
 a21:=Tryz.isAgg21
 z21:=Tryz.sizeOf21
 v21:=Tryz.zeroValue21
 t37:=Tryz.underlying314
 a37:=Tryz.isAgg314
 z37:=Tryz.sizeOf314
 v37:=Tryz.zeroValue314
 t46:=Tryz.underlying226
 a46:=Tryz.isAgg226
 z46:=Tryz.sizeOf226
 v46:=Tryz.zeroValue226
 t51:=Tryz.underlying370
 a51:=Tryz.isAgg370
 z51:=Tryz.sizeOf370
 v51:=Tryz.zeroValue370
 t53:=Tryz.underlying307
 a53:=Tryz.isAgg307
 z53:=Tryz.sizeOf307
 v53:=Tryz.zeroValue307
 t75:=Tryz.underlying235
 a75:=Tryz.isAgg235
 z75:=Tryz.sizeOf235
 v75:=Tryz.zeroValue235
 t85:=Tryz.underlying236
 a85:=Tryz.isAgg236
 z85:=Tryz.sizeOf236
 v85:=Tryz.zeroValue236
 t127:=Tryz.underlying359
 a127:=Tryz.isAgg359
 z127:=Tryz.sizeOf359
 v127:=Tryz.zeroValue359
 t143:=Tryz.underlying378
 a143:=Tryz.isAgg378
 z143:=Tryz.sizeOf378
 v143:=Tryz.zeroValue378
 t145:=Tryz.underlying380
 a145:=Tryz.isAgg380
 z145:=Tryz.sizeOf380
 v145:=Tryz.zeroValue380
 t167:=Tryz.underlying306
 a167:=Tryz.isAgg306
 z167:=Tryz.sizeOf306
 v167:=Tryz.zeroValue306
 t168:=Tryz.underlying310
 a168:=Tryz.isAgg310
 z168:=Tryz.sizeOf310
 v168:=Tryz.zeroValue310
 t171:=Tryz.underlying354
 a171:=Tryz.isAgg354
 z171:=Tryz.sizeOf354
 v171:=Tryz.zeroValue354
 t173:=Tryz.underlying357
 a173:=Tryz.isAgg357
 z173:=Tryz.sizeOf357
 v173:=Tryz.zeroValue357
 t175:=Tryz.underlying308
 a175:=Tryz.isAgg308
 z175:=Tryz.sizeOf308
 v175:=Tryz.zeroValue308
 t210:=Tryz.underlying351
 a210:=Tryz.isAgg351
 z210:=Tryz.sizeOf351
 v210:=Tryz.zeroValue351
 t212:=Tryz.underlying382
 a212:=Tryz.isAgg382
 z212:=Tryz.sizeOf382
 v212:=Tryz.zeroValue382
 t213:=Tryz.underlying383
 a213:=Tryz.isAgg383
 z213:=Tryz.sizeOf383
 t232:=Tryz.underlying397
 a232:=Tryz.isAgg397
 z232:=Tryz.sizeOf397
 v232:=Tryz.zeroValue397
 t233:=Tryz.underlying398
 a233:=Tryz.isAgg398
 z233:=Tryz.sizeOf398
 v233:=Tryz.zeroValue398
 g15:=by kernel_rfl
 g16:=by kernel_rfl
 g17:=by kernel_rfl
 g18:=by kernel_rfl
 g19:=by kernel_rfl
 t80:=Tryz.underlying320
 a80:=Tryz.isAgg320
 z80:=Tryz.sizeOf320
 v80:=Tryz.zeroValue320
 i0:=by kernel_rfl
 i2:=by kernel_rfl
 i3:=by kernel_rfl
 i4:=by kernel_rfl
 i5:=by kernel_rfl
 i9:=by kernel_rfl
 i20:=by kernel_rfl
 i21:=by kernel_rfl
 i37:=by kernel_rfl
 i46:=by kernel_rfl
 i51:=by kernel_rfl
 i53:=by kernel_rfl
 i75:=by kernel_rfl
 i80:=by kernel_rfl
 i85:=by kernel_rfl
 i127:=by kernel_rfl
 i143:=by kernel_rfl
 i145:=by kernel_rfl
 i167:=by kernel_rfl
 i168:=by kernel_rfl
 i171:=by kernel_rfl
 i173:=by kernel_rfl
 i175:=by kernel_rfl
 i210:=by kernel_rfl
 i212:=by kernel_rfl
 i232:=by kernel_rfl
 i233:=by kernel_rfl
 m15:=by kernel_rfl
 m16:=by kernel_rfl
 m17:=by kernel_rfl
 m18:=by kernel_rfl
 m19:=by kernel_rfl
 c0:=by kernel_rfl
 c2:=by kernel_rfl
 c3:=by kernel_rfl
 c4:=by kernel_rfl
 c5:=by kernel_rfl
 c9:=by kernel_rfl
 c20:=by kernel_rfl
 c21:=by kernel_rfl
 c37:=by kernel_rfl
 c46:=by kernel_rfl
 c51:=by kernel_rfl
 c53:=by kernel_rfl
 c75:=by kernel_rfl
 c80:=by kernel_rfl
 c85:=by kernel_rfl
 c127:=by kernel_rfl
 c143:=by kernel_rfl
 c145:=by kernel_rfl
 c167:=by kernel_rfl
 c168:=by kernel_rfl
 c171:=by kernel_rfl
 c173:=by kernel_rfl
 c175:=by kernel_rfl
 c210:=by kernel_rfl
 c212:=by kernel_rfl
 c213:=by kernel_rfl
 c232:=by kernel_rfl
 c233:=by kernel_rfl }
end Go.Proofs
namespace Go.Dx
open Go.Proofs Go.RowKit
theorem QrQ {l:List UInt8} {v:Int} (h:Lib.parseIntB 64 l=.ok v):-9223372036854775808<=v/\v<=9223372036854775807:=by
 unfold Lib.parseIntB at h
 split at h
 ·cases h
 ·simp only at h
  split at h
  ·cases h
  ·cases h
  ·split at h
   ·cases h
   ·split at h
    ·cases h
    ·rename_i u _ h1 h2
     simp only[Lib.NumEnd.ok.injEq] at h
     subst h
     split<;>omega
set_option maxHeartbeats 4000000 in
set_option maxRecDepth 1000000 in
theorem Qry (n:Int) (w:World) (h0:-9223372036854775808<=n) (h1:n<=9223372036854775807) (htab:Lib.TabIs Tryz.prog w "internal/strconv.uint64pow10" .u64 Lib.pow10Tab) :
  Calls Tryz.prog 161 #[.int .i64 n] w fun e w'=>e=.returned (.string ⟨(Lib.itoa n).toArray⟩)/\Below w.heap.size w w':=by
 have hF:Calls Tryz.prog 200 #[.int .i64 n,.int .i64 10] w fun e w'=>e=.returned (.string ⟨(Lib.itoa n).toArray⟩)/\Hid (Below w.heap.size w w'):=
  (Any.strconv_FormatInt_10 Tryz.layFmt n h0 h1 w htab).mono fun e w' h=>⟨h.1,by
   obtain⟨k,os,rfl⟩:=h.2
   exact⟨rfl,rfl,rfl,(Go.Dx.Qil w k os).size,fun i hi=>Go.Dx.Qnj w k os hi⟩⟩
 clear htab
 go_enter Tryz.func161,Tryz.ntmps161
 go_wp2_with (go_at_call 200;refine hF.mono ?_;rintro e w' ⟨rfl,hB⟩)
 all_goals (go_ret;exact⟨rfl,hB.out⟩)
set_option maxHeartbeats 4000000 in
set_option maxRecDepth 1000000 in
theorem Qr6 (decC:∀(n:Int) (w:World),-9223372036854775808<=n->n<=9223372036854775807->Lib.TabIs Tryz.prog w "internal/strconv.uint64pow10" .u64 Lib.pow10Tab->Calls Tryz.prog 161 #[.int .i64 n] w fun e w'=>e=.returned (.string ⟨(Lib.itoa n).toArray⟩)/\Below w.heap.size w w')
  (s:ByteArray) (w:World) (hs:s.size<=1000000) (hT:Lib.TabIs Tryz.prog w "internal/strconv.uint64pow10" .u64 Lib.pow10Tab)
  (hv1:∃tp p,w.var? Tryz.prog "strconv.ErrSyntax" = some #[.iface tp p]) (hv2:∃tp p,w.var? Tryz.prog "strconv.ErrRange" = some #[.iface tp p]) :
  Calls Tryz.prog 129 #[.string s] w fun e w'=>e=.returned (.int .i64 (numS s.data.toList))/\Below w.heap.size w w':=by
 have tabOf:∀w',Below w.heap.size w w'->Lib.TabIs Tryz.prog w' "internal/strconv.uint64pow10" .u64 Lib.pow10Tab:=fun w' hb=>by
  refine Go.Dx.Qk4 (ow:=fun _=>.fz) (fun i hi=>⟨rfl,hb.block i hi⟩) hT
 rcases hp:Lib.parseIntB 64 s.data.toList with v | _ | _
 ·
  have hb:=QrQ hp
  have hPI:Calls Tryz.prog 160 #[.string s,.int .i64 10,.int .i64 64] w fun e w'=>e=.returned (.tuple #[.int .i64 v,.nilIface])/\Hid (Below w.heap.size w w'):=
   (Any.strconv_ParseInt_10_at64_ok Tryz.layPI s (by omega) v hp w).mono fun e w' h=>⟨h.1,by
    rcases h.2 with rfl | ⟨t,rfl⟩
    ·exact Below.refl _ _
    ·exact Lib.bytesWorld_below _ _ _⟩
  have DC:Hid (∀w',Below w.heap.size w w'->Calls Tryz.prog 161 #[.int .i64 v] w' fun e w''=>e=.returned (.string ⟨(Lib.itoa v).toArray⟩)/\Hid (Below w.heap.size w w'')):=fun w' hbw=>(decC v w' hb.1 hb.2 (tabOf w' hbw)).mono fun e w'' h=>⟨h.1,hbw.trans (h.2.mono hbw.size)⟩
  by_cases hl:s.size<=10
  ·by_cases he:(⟨(Lib.itoa v).toArray⟩:ByteArray)=s
   ·have hn:numS s.data.toList=v:=by
     unfold numS
     rw[hp]
     simp only
     rw[if_pos ⟨by have:=hl;simpa using this,by rw[<-he]⟩]
    rw[hn]
    have h10:¬(10:Int)<(s.size:Int):=by omega
    clear hn hp hT hv1 hv2 tabOf decC
    go_enter Tryz.func129,Tryz.ntmps129
    go_wp2_with (first | (go_at_call 160;refine hPI.mono ?_;rintro e w' ⟨rfl,hB⟩) | (go_at_call 161;refine (DC.out _ hB.out).mono ?_;rintro e w' ⟨rfl,hB2⟩))
    all_goals (go_ret;first | exact⟨rfl,hB2.out⟩ | exact⟨rfl,hB.out⟩)
   ·have hn:numS s.data.toList = -1:=by
     unfold numS
     rw[hp]
     simp only
     rw[if_neg (fun h=>he (by rw[h.2]))]
    rw[hn]
    have h10:¬(10:Int)<(s.size:Int):=by omega
    have hq:(Lib.itoa v == s.toList)=false:=by
     rw[ByteArray.toList_eq]
     exact beq_eq_false_iff_ne.2 fun h=>he (by rw[h])
    clear hn hp hT hv1 hv2 tabOf decC
    go_enter Tryz.func129,Tryz.ntmps129
    go_wp2_with (first | (go_at_call 160;refine hPI.mono ?_;rintro e w' ⟨rfl,hB⟩) | (go_at_call 161;refine (DC.out _ hB.out).mono ?_;rintro e w' ⟨rfl,hB2⟩))
    all_goals (go_ret;first | exact⟨rfl,hB2.out⟩ | exact⟨rfl,hB.out⟩)
  ·have hn:numS s.data.toList = -1:=by
    unfold numS
    rw[hp]
    simp only
    rw[if_neg (fun h=>hl (by simpa using h.1))]
   rw[hn]
   have h10:(10:Int)<(s.size:Int):=by omega
   clear hn hp hT hv1 hv2 tabOf decC
   go_enter Tryz.func129,Tryz.ntmps129
   go_wp2_with (first | (go_at_call 160;refine hPI.mono ?_;rintro e w' ⟨rfl,hB⟩) | (go_at_call 161;refine (DC.out _ hB.out).mono ?_;rintro e w' ⟨rfl,hB2⟩))
   all_goals (go_ret;first | exact⟨rfl,hB2.out⟩ | exact⟨rfl,hB.out⟩)
 ·
  obtain⟨tp,p,hv⟩:=hv1
  have hn:numS s.data.toList = -1:=by unfold numS;rw[hp]
  rw[hn]
  have hPI:=Any.strconv_ParseInt_10_at64_syntax_var Tryz.layPI s (by omega) hp tp p w hv
  clear hn hp hT hv2 hv tabOf decC
  go_enter Tryz.func129,Tryz.ntmps129
  go_wp2_with (go_at_call 160;refine hPI.mono ?_;rintro e w' ⟨N,rfl,hN,hc,hB⟩)
  all_goals (go_ret;exact⟨rfl,hB⟩)
 ·
  obtain⟨tp,p,hv⟩:=hv2
  have hn:numS s.data.toList = -1:=by unfold numS;rw[hp]
  rw[hn]
  have hPI:=Any.strconv_ParseInt_10_at64_range_var Tryz.layPI s (by omega) hp tp p w hv
  clear hn hp hT hv1 hv tabOf decC
  go_enter Tryz.func129,Tryz.ntmps129
  go_wp2_with (go_at_call 160;refine hPI.mono ?_;rintro e w' ⟨N,rfl,hN,hc,hB⟩)
  all_goals (go_ret;exact⟨rfl,hB⟩)
theorem Qse {W0:World} (hE:Enters Tryz.prog 129) (hT:Lib.TabIs Tryz.prog W0 "internal/strconv.uint64pow10" .u64 Lib.pow10Tab) (hS:Qfk Tryz.prog W0):Contract Tryz.prog W0 129 { ins:=[.v .str .z],outs:=[(.int .i64,.z)],F:=fun t=>numO t.1,dm:=false }:=
 Qnv hE fun s w hs hW=>by
  have up:∀(n:String) (r:Array Value),W0.var? Tryz.prog n=some r->w.var? Tryz.prog n=some r:=fun n r h=>Go.Dx.Qk4 (ow:=fun _=>.fz) (fun i hi=>⟨rfl,hW i hi⟩) h
  exact Qr6 Qry s w hs (up _ _ hT) (hS.syn.imp fun tp h=>h.imp fun p h=>up _ _ h) (hS.ran.imp fun tp h=>h.imp fun p h=>up _ _ h)
end Go.Dx
