/- FnFavors returns true whatever its arguments are, and they read behind the call as before. Conditions: none beyond the row's own -/
import Derived.Test.YtafmdbgjajnnkaaGreatDoorTie
import Derived.Test.YtafmdbgjajnnkaaGreatDoorCards
import Derived.Test.YtafmdbgjajnnkaaGreatDoorRows
import Derived.Test.YtafmdbgjajnnkaaGreatDoorJf
import Derived.Test.YtafmdbgjajnnkaaGreatDoorSct
import Derived.Test.YtafmdbgjajnnkaaGreatDoorPlb
import Derived.ProofKit
set_option linter.unusedVariables false
set_option linter.unusedSimpArgs false
namespace Go.Proofs.YtafmdbgjajnnkaaGreatDoor.fnFavors
open Go.ChangeShapes Go.WideShapes Go.ChangeAt Go.RowKit Go.Dx
theorem own:ownKnob Tryz.prog.godebug=none:=by kernel_rfl
theorem laidOut:laidOutB Tryz.prog=true:=by kernel_rfl
set_option maxRecDepth 100000 in
theorem contract (H:Type) (enc:TypeId×Value->H) (W:World) (hT:Lib.TabIs Tryz.prog W "internal/strconv.uint64pow10" .u64 Lib.pow10Tab) (hM:∃m,W.cell? ⟨0,0,none⟩=some (.int .i64 m)) (hS:Go.Dx.Jk Tryz.prog W) (base:Nat) (args:Array Value) (ds gs:List (DataW H)) (before:List MemPlace)
  (hval:∀(j:Nat) t v,Tryz.f4.params[j]? = some t->args[j]? = some v->Value.okWide Tryz.prog W .any base t v)
  (hW:DataW.Whole enc Tryz.prog Tryz.f4.params.toList Rows.fnFavorsSpec.vars false W args.toList ds gs before) :
  Calls Tryz.prog 4 args W fun e W'=>∃v,e=.returned v/\Rows.fnFavorsSpec.post enc Tryz.prog Tryz.f4 false true false false W args v W':=by
 refine Qjf (C:=GL.X0) (K:=GL.QFI) GL.Qd (GL.QF8 hT hM hS) ?_ (by kernel_rfl) Tryz.underlying4 rfl laidOut ?_ ?_ hval hW ?_
 ·rw[Tryz.params4]
  exact⟨⟨_,rfl,rfl,rfl⟩,rfl,trivial⟩
 ·rw[Tryz.params4]
  intro t ht
  have ht:t ∈ ([22]:List Nat):=ht
  simp only[List.mem_cons,List.not_mem_nil,or_false] at ht
  rcases ht with rfl<;>exact⟨by kernel_rfl,of_decide_eq_true (by kernel_rfl)⟩
 ·rw[Tryz.params4]
  intro ds hds
  match ds,hds with
  | [d0],_=>rfl
 ·intro xs hb
  exact⟨true,GL.QGn xs.1 hb.1,rfl,rfl⟩
theorem tab {W:World} (h:laidMetH Tryz.prog Rows.fnFavorsRow.laid W):Lib.TabIs Tryz.prog W "internal/strconv.uint64pow10" .u64 Lib.pow10Tab:=by
 rw[MakeChecks.laidMetH_plain _ _ _ (by kernel_rfl)] at h
 refine Go.Dx.Qzy (g:=3) (t:=336) (e:=300) (n:=20) (by kernel_rfl) (by kernel_rfl) Tryz.underlying336 Tryz.underlying300 (by kernel_rfl) (by kernel_rfl) h ?_
 have e:(Lib.tabData .u64 Lib.pow10Tab:DataW Unit)=Rows.laid_internal_strconv_uint64pow10:=by kernel_rfl
 rw[e]
 unfold Rows.fnFavorsRow
 simp
theorem errs {W:World} (h:laidMetH Tryz.prog Rows.fnFavorsRow.laid W):Go.Dx.Jk Tryz.prog W:=by
 rw[MakeChecks.laidMetH_plain _ _ _ (by kernel_rfl)] at h
 refine Go.Dx.QzA (g1:=1) (g2:=2) (ti:=248) (x1:=Rows.laid_strconv_ErrSyntax) (x2:=Rows.laid_strconv_ErrRange) (by kernel_rfl) (by kernel_rfl) (by kernel_rfl) (by kernel_rfl) Tryz.underlying248 h rfl rfl ?_ ?_
 ·unfold Rows.fnFavorsRow
  simp
 ·unfold Rows.fnFavorsRow
  simp
set_option maxRecDepth 100000 in
theorem lifted (os:Os) (started:os.Started) (H:Type) (enc:TypeId×Value->H) :
  ReturnsInHanded {} Tryz.checked os 4 .any (fun w args=>(Rows.fnFavorsSpec.pre enc Tryz.prog Tryz.f4 Rows.fnFavorsRow.domain false w args/\laidMetH Tryz.prog Rows.fnFavorsRow.laid w)/\sizedMet enc Tryz.prog Tryz.f4 (OpenSpec.ofChange Rows.fnFavorsSpec) false w args) (Rows.fnFavorsSpec.post enc Tryz.prog Tryz.f4 false true false false):=by
 refine Qw8 (C:=Tryz.checked) (X:=fun w _=>laidMetH Tryz.prog Rows.fnFavorsRow.laid w) (fun _ _ _ hh h=>h.of_heap hh) own started (by kernel_rfl) Tryz.func4
  (ChangeSpec.witness_shaped (enc:=enc) (C:=Tryz.checked) (os:=os) (X:=fun w _=>laidMetH Tryz.prog Rows.fnFavorsRow.laid w) false (World.laidAll Tryz.prog os Rows.fnFavorsRow.laid) #[zeroV (.list (.int .u8))] 8 (World.laidAll_os _ _ _)
   (World.shaped_of_ZipB (by kernel_rfl) (by kernel_rfl)) (by kernel_rfl) (by kernel_rfl) (by kernel_rfl)
   (by rw[MakeChecks.laidMetH_plain _ _ _ (by kernel_rfl)];exact laidMet_laidAll _ (by kernel_rfl) (by kernel_rfl))) ?_
 intro W base args ds gs before hsh hL hval hW
 exact contract H enc W (tab hL) (Tryz.laySplit.s1_3 W hsh) (errs hL) base args ds gs before hval hW
theorem QBd:Rows.FnFavorsSaid:=
 OpenClaim.holds_of_wide 4 Tryz.f4 rfl rfl rfl rfl rfl rfl rfl ⟨rfl,rfl,rfl,rfl,rfl⟩ rfl rfl rfl rfl rfl (by kernel_rfl) Tryz.func4 closed
  (of_decide_eq_true (by kernel_rfl)) (by unfold Func.isWrapper;first | (rw[if_pos (by decide +kernel)];kernel_rfl) | (rw[if_neg (by decide +kernel)];exact⟨rfl,rfl⟩))
  (fun os started H enc _=>lifted os started H enc)
theorem proved:Rows.FnFavorsCardSaid:=
 Claim7.holds_tied_plain_at .later [] [.data,.data,.data,.data,.sentinel,.sentinel,.pinned] true (true,"b556d8721c6a9fdfb74b22feb96462e54b1bc45db5ea70486b3f6c7527044b9e") true
  QBd (fun _ h=>by cases h) (by kernel_rfl) (fun _ h=>by cases h) fnFavors_row_tie rfl ⟨rfl,rfl⟩ (by kernel_rfl) rfl
  (fun f fn hf hfn=>by
   obtain rfl:f=4:=Option.some.inj ((show Tryz.prog.funcNamed "loop.example/g00304/laws.FnFavors" = some 4 by kernel_rfl).symm.trans hf) |>.symm
   obtain rfl:fn=Tryz.f4:=(Option.some.inj (Tryz.func4.symm.trans hfn)).symm
   exact⟨by kernel_rfl,fun j t ht=>by
    rw[Tryz.params4] at ht
    have hm:t ∈ [22]:=by simpa using Array.mem_of_getElem? ht
    have hall:([22].all fun u=>!Tryz.prog.wantsStandIn u)=true:=by kernel_rfl
    exact (show Tryz.prog.wantsStandIn t=false by simpa using List.all_eq_true.1 hall t hm)⟩)
  (by kernel_rfl)
#print axioms proved
end Go.Proofs.YtafmdbgjajnnkaaGreatDoor.fnFavors
