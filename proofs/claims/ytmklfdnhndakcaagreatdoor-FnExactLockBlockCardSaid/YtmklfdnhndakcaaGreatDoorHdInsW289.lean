/- A function of the library, walked -/
import Derived.Test.YtmklfdnhndakcaaGreatDoorProg
import Derived.WalkKit
import Derived.Deep.RegionLaw
import Derived.Lib.Walk
import Derived.Lib.SliceRun
import Derived.Lib.JoinLaws
import Derived.Lib.AppendZerosOnto
import Derived.Lib.Overlaps
import Derived.Laws.Externs
import Derived.Laws.IdiomCopy
import Derived.Laws.NewBlocks
import Derived.Shelf.RegionOpenPlain
import Derived.KernelRfl
import Derived.Test.YtmklfdnhndakcaaGreatDoorDxd
set_option linter.unusedVariables false
set_option linter.unusedSimpArgs false
namespace Go.Dx
open Go.Proofs Go.RowKit Go.Lib Go.Shelf
theorem QvP:(Tryz.prog.info? 185).map (fun i=>(i.zero,i.size,i.bytes))=some (some (.agg #[.int .i64 0,.int .i64 0,.int .i64 0]),3,24):=by kernel_rfl
theorem QvZ:∀w,(Go.sizeOf 185).run Tryz.prog w=.ok 3 w:=fun w=>by kernel_rfl
theorem QhU:∃i0,Tryz.prog.info? 185=some i0/\i0.zero=some (.agg #[.int .i64 0,.int .i64 0,.int .i64 0])/\i0.size=3/\i0.bytes=24:=by
 obtain⟨i0,h1,h2⟩:=Option.map_eq_some_iff.1 QvP
 simp only[Prod.mk.injEq] at h2
 exact⟨i0,h1,h2.1,h2.2.1,h2.2.2⟩
theorem Qp9 {P:Program} (w:World) {ops:Array Oper} {rest:List Oper} {o:Oper} {a:Act} {Q:Exit->Act->World->Prop} (hgd:o.guard=none) (d s:Operand) (t t':TypeId)
  (ho:o.op=.call { callee:=.builtin .copy,args:=#[d,s],argTypes:=#[t,t'] }) (v u:Value) (hd:a.eval d=v) (hs:a.eval s=u) {v':Value} {w':World}
  (hr:(Builtin.copy_ #[t,t'] o.type #[v,u]).run P w=.ok v' w') (h:wpList P ops Q rest (a.put o.dst v') w'):wpList P ops Q (o::rest) a w:=
 wpList_plain hgd fun _ hK=>by
  unfold Oper.wp execOp
  simp only[ho,resolve,invoke,builtin,Sem.run_bind,Sem.run_pure,Result.andThen_ok,List.map_toArray,List.map_cons,List.map_nil,hd,hs,hr]
  exact hK _ _ h
theorem Ql9 {P:Program} {ops:Array Oper} {o:Oper} {a:Act} {w:World} {K:Act->World->Prop} {Q:Exit->Act->World->Prop} {E:Prop}
  (hg:o.guard=none) (d x:Operand) (dT sT:TypeId) (hop:o.op=Op.call { callee:=Callee.builtin Builtin.copy,args:=#[d,x],argTypes:=#[dT,sT] })
  (v u:Value) (hd:a.eval d=v) (hx:a.eval x=u) {v':Value} {w':World} (hr:(Builtin.copy_ #[dT,sT] o.type #[v,u]).run P w=.ok v' w') (hK:K (a.put o.dst v') w') :
  if Region.wanted o (yielded ops a.tmps)=true then Oper.wp P o a w K Q else E:=by
 have hw:Region.wanted o (yielded ops a.tmps)=true:=by simp[Region.wanted,hg]
 rw[if_pos hw]
 unfold Oper.wp
 simp[execOp,hop,resolve,invoke,builtin,hd,hx,hr,Result.andThen]
 exact hK
set_option maxHeartbeats 4000000 in
set_option maxRecDepth 1000000 in
theorem Qqx (w:World) (b off n c vb voff vc:Nat) (vs:List Value) (hroom:n+1<=c) (hbig:n<=1000000) (hvl:vs.length=3)
  (hsp:∀j,j<3->(w.cell? ⟨b,off+n * 3+j,none⟩).isSome=true) (hfz:∀j,j<3->w.frozen? ⟨b,off+n * 3+j,none⟩=false)
  (hvs:∀j v,vs[j]? = some v->w.cell? ⟨vb,voff+j,none⟩=some v) (h1v:∀v ∈ vs,v.oneCell'=true) :
  Calls Tryz.prog 289 #[.slice (some ⟨b,off,none⟩) n c,.int .i64 n,.slice (some ⟨vb,voff,none⟩) 1 vc] w fun e w'=>
   e=.returned (.slice (some ⟨b,off,none⟩) (n+1) c)/\w'=w.setCells b (off+n * 3) vs:=by
 have mixed:Tryz.prog.follows .mixedOrders=true:=by kernel_rfl
 obtain⟨i0,hi,hz,hzs,hzb⟩:=QhU
 have hsrc:Src Tryz.prog 3 41 (.slice (some ⟨vb,voff,none⟩) 1 vc) 1 vs w:=Src.ofSlice w Tryz.underlying41 ⟨vb,voff,none⟩ 1 vc vs (by omega) (fun j u hj=>by rw[Addr.add_lit];exact hvs j u hj) h1v
 have H1:Hid (Src Tryz.prog i0.size 41 (.slice (some ⟨vb,voff,none⟩) 1 vc) 1 vs w):=by rw[hzs];exact hsrc
 have H2:Hid (∀j,j<vs.length->(w.cell? ⟨b,off+n * i0.size+j,none⟩).isSome=true):=by rw[hzs,hvl];exact hsp
 have H3:Hid (∀j,j<vs.length->w.frozen? ⟨b,off+n * i0.size+j,none⟩=false):=by rw[hzs,hvl];exact hfz
 have H4:Hid (i0.size=3):=hzs
 have H5:Hid (Tryz.prog.info? 185=some i0):=hi
 clear hsrc hsp hfz hvs h1v hzs hz hzb hi hvl
 go_enter Tryz.func289,Tryz.ntmps289
 go_wp2_with (at_builtin;refine wpList_append_room_src _ rfl _ _ 41 41 rfl 185 i0 Tryz.underlying41 H5.out b off n c rfl _ rfl 1 vs H1.out hroom H2.out H3.out ?_;rw[H4.out])
 go_ret
 exact⟨rfl,rfl⟩
set_option maxHeartbeats 4000000 in
set_option maxRecDepth 1000000 in
theorem Qp7 (w:World) (base:Option Addr) (n c vb voff vc:Nat) (cs vs:List Value) (hnc:n<=c) (hroom:c<n+1) (hbig:n<=1000000)
  (hcl:cs.length=n * 3) (hvl:vs.length=3) (hnil:base=none->n=0)
  (hcs:∀a,base=some a->∀j v,cs[j]? = some v->w.cell? (a.add j)=some v)
  (hvs:∀j v,vs[j]? = some v->w.cell? ⟨vb,voff+j,none⟩=some v) (h1v:∀v ∈ vs,v.oneCell'=true) :
  Calls Tryz.prog 289 #[.slice base n c,.int .i64 n,.slice (some ⟨vb,voff,none⟩) 1 vc] w fun e w'=>
   e=.returned (.slice (some ⟨w.heap.size,0,none⟩) (n+1) (grownCap w (n+1) c 185))/\
   w'=w.drew.alloc (.cells ((cs++vs).toArray++Builtin.zeroCells (Value.agg #[.int .i64 0,.int .i64 0,.int .i64 0]).cells (grownCap w (n+1) c 185 - (n+1))) 185):=by
 have mixed:Tryz.prog.follows .mixedOrders=true:=by kernel_rfl
 obtain⟨i0,hi,hz,hzs,hzb⟩:=QhU
 have hsrc:Src Tryz.prog i0.size 41 (.slice (some ⟨vb,voff,none⟩) 1 vc) 1 vs w:=by
  rw[hzs]
  exact Src.ofSlice w Tryz.underlying41 ⟨vb,voff,none⟩ 1 vc vs (by omega) (fun j u hj=>by rw[Addr.add_lit];exact hvs j u hj) h1v
 have hold:(Builtin.firstCells i0.size n (.slice base n c)).run Tryz.prog w.drew=.ok cs.toArray w.drew:=by
  rw[hzs]
  cases base with
  | none=>
   have h0:=hnil rfl
   subst h0
   rw[List.length_eq_zero_iff.1 (by omega:cs.length=0)]
   exact run_firstCells_none w.drew 3 0 0 c
  | some a=>exact run_firstCells_some w.drew 3 n a n c cs (by omega) (fun j v hj=>hcs a rfl j v hj)
 have hrun:∀ty,(Builtin.append_ #[41,41] ty #[.slice base n c,.slice (some ⟨vb,voff,none⟩) 1 vc]).run Tryz.prog w=_:=fun ty=>
  run_append_grow_src w 41 41 ty 185 i0 _ Tryz.underlying41 hi hz base n c cs hold _ 1 vs hsrc hroom (by omega) (by rw[hzb];exact growslice_fits hroom (by omega))
 have HR:Hid (∀ty,(Builtin.append_ #[41,41] ty #[.slice base n c,.slice (some ⟨vb,voff,none⟩) 1 vc]).run Tryz.prog w=_):=hrun
 clear hsrc hold hrun hi hz hzs hzb hcs hvs h1v
 go_enter Tryz.func289,Tryz.ntmps289
 cases base with
 | none=>
  have h0:=hnil rfl
  subst h0
  go_wp2_with (at_builtin;refine Lib.wpList_append_run _ rfl _ _ _ _ rfl _ _ rfl rfl _ _ (HR.out _) ?_)
  go_ret
  exact⟨rfl,rfl⟩
 | some a=>
  obtain⟨ab,ao,asp⟩:=a
  go_wp2_with (at_builtin;refine Lib.wpList_append_run _ rfl _ _ _ _ rfl _ _ rfl rfl _ _ (HR.out _) ?_)
  all_goals (go_ret;exact⟨rfl,rfl⟩)
set_option maxHeartbeats 4000000 in
set_option maxRecDepth 1000000 in
theorem Quc (w:World) (b off n c i vb voff vc:Nat) (cs vs:List Value) (hi:i<n) (hroom:n+1<=c) (hbig:n<=1000000) (hvb:vb ≠ b)
  (hcl:cs.length=n * 3) (hvl:vs.length=3)
  (hcs:∀j v,cs[j]? = some v->w.cell? ⟨b,off+j,none⟩=some v) (hsp:∀j,j<(n+1) * 3->(w.cell? ⟨b,off+j,none⟩).isSome=true) (hfz:∀j,j<(n+1) * 3->w.frozen? ⟨b,off+j,none⟩=false)
  (hvs:∀j v,vs[j]? = some v->w.cell? ⟨vb,voff+j,none⟩=some v) (h1c:∀v ∈ cs,v.oneCell'=true) (h1v:∀v ∈ vs,v.oneCell'=true)
  (tA tB:TypeId) (kA kB:Nat) (hsa:w.shape? vb=some (tA,kA)) (hsb:w.shape? b=some (tB,kB)) (hkB:kB ≠ 0) (hfa:w.frozen? ⟨vb,voff,none⟩=false) (hfe:w.frozen? ⟨vb,kA,none⟩=false) :
  Calls Tryz.prog 289 #[.slice (some ⟨b,off,none⟩) n c,.int .i64 i,.slice (some ⟨vb,voff,none⟩) 1 vc] w fun e w'=>
   e=.returned (.slice (some ⟨b,off,none⟩) (n+1) c)/\w'=(w.drew.setCells b (off+(i+1) * 3) (cs.drop (i * 3))).setCells b (off+i * 3) vs:=by
 have mixed:Tryz.prog.follows .mixedOrders=true:=by kernel_rfl
 obtain⟨i0,hi0,hz,hzs,hzb⟩:=QhU
 have hsz:(Tryz.prog.info? 185).map (·.size)=some 3:=by rw[hi0];simp[hzs]
 have hov:∀lb cb,(callFunc 327 #[.slice (some ⟨vb,voff,none⟩) 1 vc,.slice (some ⟨b,off+(i+1) * 3,none⟩) lb cb]).run Tryz.prog w=.ok (.value (.bool false)) w:=fun lb cb=>by
  rw[run_callFunc_extern Tryz.func327 (by kernel_rfl) (by kernel_rfl) (by kernel_rfl) (e:=Extern.SlicesOverlaps.overlaps #[41,41] #[4]) (by kernel_rfl),
   Lib.run_overlaps_apart w 41 4 185 Tryz.underlying41 3 QvZ ⟨vb,voff,none⟩ ⟨b,off+(i+1) * 3,none⟩ 1 vc lb cb hvb tA tB kA kB hsa hsb hkB hfa hfe]
  rfl
 have hdl:(cs.drop (i * 3)).length=(n - i) * 3:=by rw[List.length_drop,hcl];omega
 have hz2:¬((i:Int)=(n:Int)):=by omega
 have hin:i<=n:=by omega
 have hcp1:∀ty dc sc,(Builtin.copy_ #[41,41] ty #[.slice (some ⟨b,off+(i+1) * 3,none⟩) (n - i) dc,.slice (some ⟨b,off+i * 3,none⟩) (n+1 - i) sc]).run Tryz.prog w.drew=.ok (goInt (Nat.min (n+1 - i) (n - i))) (w.drew.setCells b (off+(i+1) * 3) (cs.drop (i * 3))):=fun ty dc sc=>
  QgU w.drew _ _ ty 185 3 b (off+(i+1) * 3) (n - i) dc ⟨b,off+i * 3,none⟩ (n+1 - i) sc (cs.drop (i * 3)) Tryz.underlying41 hsz (by rw[hdl];congr 1;simp only[Nat.min_def];split<;>omega)
   (fun j v hj=>by rw[Addr.add_lit,Nat.add_assoc];exact hcs (i * 3+j) v (by rwa [List.getElem?_drop] at hj))
   (fun j hj=>by rw[Nat.add_assoc];exact hsp _ (by omega)) (fun j hj=>by rw[Nat.add_assoc];exact hfz _ (by omega)) (fun v hv=>h1c v (List.mem_of_mem_drop hv))
 obtain⟨W1,hW1⟩:∃W1,W1=w.drew.setCells b (off+(i+1) * 3) (cs.drop (i * 3)):=⟨_,rfl⟩
 have hsp1:∀k,k<(n+1) * 3->(W1.cell? ⟨b,off+k,none⟩).isSome=true:=fun k hk=>by
  rw[hW1]
  exact Qk2 b _ _ _ (fun j hj=>by rw[Nat.add_assoc];exact hsp _ (by omega)) _ (hsp k hk)
 have hcp2:∀(W:World),(∀x,W.cell? x=W1.cell? x)->(∀x,W.frozen? x=W1.frozen? x)->∀ty dc,(Builtin.copy_ #[41,41] ty #[.slice (some ⟨b,off+i * 3,none⟩) (n+1 - i) dc,.slice (some ⟨vb,voff,none⟩) 1 vc]).run Tryz.prog W=.ok (goInt (Nat.min 1 (n+1 - i))) (W.setCells b (off+i * 3) vs):=fun W hWc hWf ty dc=>
  QgU W _ _ ty 185 3 b (off+i * 3) (n+1 - i) dc ⟨vb,voff,none⟩ 1 vc vs Tryz.underlying41 hsz (by rw[hvl,show Nat.min 1 (n+1 - i)=1 by simp only[Nat.min_def];split<;>omega])
   (fun j v hj=>by
    rw[Addr.add_lit,hWc,hW1,World.cell?_setCells_out b _ _ _ _ (fun h _=>absurd h hvb)]
    exact hvs j v hj)
   (fun j hj=>by rw[hWc,Nat.add_assoc];exact hsp1 _ (by omega)) (fun j hj=>by rw[hWf,hW1,World.frozen?_setCells,Nat.add_assoc];exact hfz _ (by omega)) h1v
 rw[<-hW1] at hcp1 ⊢
 have HC1:Hid (∀ty dc sc,(Builtin.copy_ #[41,41] ty #[.slice (some ⟨b,off+(i+1) * 3,none⟩) (n - i) dc,.slice (some ⟨b,off+i * 3,none⟩) (n+1 - i) sc]).run Tryz.prog w.drew=.ok (goInt (Nat.min (n+1 - i) (n - i))) W1):=hcp1
 have HC2:Hid (∀(W:World),(∀x,W.cell? x=W1.cell? x)->(∀x,W.frozen? x=W1.frozen? x)->∀ty dc,(Builtin.copy_ #[41,41] ty #[.slice (some ⟨b,off+i * 3,none⟩) (n+1 - i) dc,.slice (some ⟨vb,voff,none⟩) 1 vc]).run Tryz.prog W=.ok (goInt (Nat.min 1 (n+1 - i))) (W.setCells b (off+i * 3) vs)):=hcp2
 clear hcp1 hcp2 hsp1 hW1 hsp hfz hcs hvs h1c h1v hdl hsa hsb hfa hfe
 have hc1:¬(c=i+1):=by omega
 have hc2:¬(c=i):=by omega
 have hw1:IntKind.i64.wrap ((i:Int)+1)=(i:Int)+1:=by rw[IntKind.wrap_i64];omega
 have hb1:(0:Int)<=(i:Int)+1:=by omega
 have htn:((i:Int)+1).toNat=i+1:=by omega
 have hb3:(i:Int)<=(n:Int)+1:=by omega
 go_enter Tryz.func289,Tryz.ntmps289
 go_wp2_with (simp only[hov])
 go_region_law_o (refine Ql9 rfl _ _ 41 41 rfl (.slice (some ⟨b,off+(i+1) * 3,none⟩) (n - i) (c - (i+1))) (.slice (some ⟨b,off+i * 3,none⟩) (n+1 - i) (c - i)) (by simp[Act.eval,Act.put]) (by simp[Act.eval,Act.put]) (HC1.out 3 (c - (i+1)) (c - i)) ?_)
 go_wp2_with (refine Qp9 _ rfl _ _ 41 41 rfl _ _ rfl rfl (HC2.out _ (fun _=>rfl) (fun _=>rfl) _ _) ?_)
 go_ret
 exact⟨rfl,rfl⟩
set_option maxHeartbeats 4000000 in
set_option maxRecDepth 1000000 in
theorem QuM (w:World) (b off n c i vb voff vc:Nat) (cs vs:List Value) (hi:i<n) (hnc:n<=c) (hroom:c<n+1) (hbig:n<=1000000)
  (hcl:cs.length=n * 3) (hvl:vs.length=3)
  (hcs:∀j v,cs[j]? = some v->w.cell? ⟨b,off+j,none⟩=some v)
  (hvs:∀j v,vs[j]? = some v->w.cell? ⟨vb,voff+j,none⟩=some v) (h1c:∀v ∈ cs,v.oneCell'=true) (h1v:∀v ∈ vs,v.oneCell'=true) :
  Calls Tryz.prog 289 #[.slice (some ⟨b,off,none⟩) n c,.int .i64 i,.slice (some ⟨vb,voff,none⟩) 1 vc] w fun e w'=>
   e=.returned (.slice (some ⟨w.heap.size,0,none⟩) (n+1) (grownCap w (n+1) c 185))/\
   w'=(((w.alloc (.cells ((cs.take (i * 3)).toArray++Builtin.zeroCells (Value.agg #[.int .i64 0,.int .i64 0,.int .i64 0]).cells (n+1 - i)++Builtin.zeroCells (Value.agg #[.int .i64 0,.int .i64 0,.int .i64 0]).cells (grownCap w (n+1) c 185 - (n+1))) 185)).drew.setCells w.heap.size (i * 3) vs).drew).setCells w.heap.size ((i+1) * 3) (cs.drop (i * 3)):=by
 have mixed:Tryz.prog.follows .mixedOrders=true:=by kernel_rfl
 obtain⟨i0,hi0,hz0,hzs,hzb⟩:=QhU
 have hsz:(Tryz.prog.info? 185).map (·.size)=some 3:=by rw[hi0];simp[hzs]
 have hz2:¬((i:Int)=(n:Int)):=by omega
 have hz3:(c:Int)<(n:Int)+1:=by omega
 have hbw:b<w.heap.size:=block_lt_of_cell (hcs 0 _ (List.getElem?_eq_getElem (by omega)))
 have hvw:vb<w.heap.size:=block_lt_of_cell (hvs 0 _ (List.getElem?_eq_getElem (by omega)))
 have hkk:(n:Int)+1 - (i:Int)=((n+1 - i:Nat):Int):=by omega
 have hik:i+(n+1 - i)=n+1:=by omega
 have hold:(Builtin.firstCells i0.size i (.slice (some ⟨b,off,none⟩) i c)).run Tryz.prog w.drew=.ok (cs.take (i * 3)).toArray w.drew:=by
  rw[hzs]
  exact run_firstCells_some w.drew 3 i ⟨b,off,none⟩ i c (cs.take (i * 3)) (by rw[List.length_take];omega) (fun j v hj=>by
   rw[Addr.add_lit]
   rw[List.getElem?_take] at hj
   split at hj
   ·exact hcs j v hj
   ·cases hj)
 have hrz:∀ty,(Builtin.append_ #[41,3] ty #[.slice (some ⟨b,off,none⟩) i c,.int .i64 ((n:Int)+1 - (i:Int))]).run Tryz.prog w =
   .ok (.slice (some ⟨w.heap.size,0,none⟩) (n+1) (grownCap w (n+1) c 185)) (w.drew.alloc (.cells ((cs.take (i * 3)).toArray++Builtin.zeroCells (Value.agg #[.int .i64 0,.int .i64 0,.int .i64 0]).cells (n+1 - i)++Builtin.zeroCells (Value.agg #[.int .i64 0,.int .i64 0,.int .i64 0]).cells (grownCap w (n+1) c 185 - (n+1))) 185)):=fun ty=>by
  have h:=Lib.run_append_grow_zeros w 41 3 ty 185 i0 _ .i64 .i64 Tryz.underlying41 Tryz.underlying3 hi0 hz0 (some ⟨b,off,none⟩) i c (cs.take (i * 3)) hold (n+1 - i) (by omega) (by omega) (by omega) (by omega) (by rw[hzb];omega) (by rw[hzb,hik];exact growslice_fits hroom (by omega))
  rw[hik] at h
  rw[hkk]
  exact h
 obtain⟨G,hG⟩:∃G,G=grownCap w (n+1) c 185:=⟨_,rfl⟩
 obtain⟨ROW,hROW⟩:∃ROW:Array Value,ROW=(cs.take (i * 3)).toArray++Builtin.zeroCells (Value.agg #[.int .i64 0,.int .i64 0,.int .i64 0]).cells (n+1 - i)++Builtin.zeroCells (Value.agg #[.int .i64 0,.int .i64 0,.int .i64 0]).cells (G - (n+1)):=⟨_,rfl⟩
 rw[<-hG] at hrz ⊢
 rw[<-hROW] at hrz ⊢
 have hRl:(n+1) * 3<=ROW.size:=by
  rw[hROW]
  simp[Builtin.zeroCells,Value.cells]
  omega
 obtain⟨W1,hW1⟩:∃W1,W1=w.drew.alloc (.cells ROW 185):=⟨_,rfl⟩
 rw[<-hW1] at hrz
 have hN:∀j,j<(n+1) * 3->(W1.cell? ⟨w.heap.size,j,none⟩).isSome=true:=fun j hj=>by
  rw[hW1,World.cell?_alloc_at (w:=w.drew) ROW _ w.heap.size j rfl,Array.getElem?_eq_getElem (by omega)];rfl
 have hNf:∀j,W1.frozen? ⟨w.heap.size,j,none⟩=false:=fun j=>by rw[hW1];exact World.frozen?_alloc_at (w:=w.drew) ROW _ w.heap.size j rfl
 have hOb:∀j v,w.cell? ⟨b,j,none⟩=some v->W1.cell? ⟨b,j,none⟩=some v:=fun j v h=>by rw[hW1,World.cell?_alloc_past (w:=w.drew) _ b j hbw];exact h
 have hOv:∀j v,w.cell? ⟨vb,j,none⟩=some v->W1.cell? ⟨vb,j,none⟩=some v:=fun j v h=>by rw[hW1,World.cell?_alloc_past (w:=w.drew) _ vb j hvw];exact h
 have hcpA:∀(W:World),(∀x,W.cell? x=W1.cell? x)->(∀x,W.frozen? x=W1.frozen? x)->∀ty dc,(Builtin.copy_ #[41,41] ty #[.slice (some ⟨w.heap.size,i * 3,none⟩) (n+1 - i) dc,.slice (some ⟨vb,voff,none⟩) 1 vc]).run Tryz.prog W=.ok (goInt (Nat.min 1 (n+1 - i))) (W.setCells w.heap.size (i * 3) vs):=fun W hWc hWf ty dc=>
  QgU W _ _ ty 185 3 w.heap.size (i * 3) (n+1 - i) dc ⟨vb,voff,none⟩ 1 vc vs Tryz.underlying41 hsz (by rw[hvl,show Nat.min 1 (n+1 - i)=1 by simp only[Nat.min_def];split<;>omega])
   (fun j v hj=>by rw[Addr.add_lit,hWc];exact hOv _ v (hvs j v hj))
   (fun j hj=>by rw[hWc];exact hN _ (by omega)) (fun j hj=>by rw[hWf];exact hNf _) h1v
 have hGn:n+1<=G:=by rw[hG];exact grownCap_ge w _ _ _
 have hG63:G<=9223372036854775807:=by
  have:=grownCap_le_maxLen w (n+1) c 185 (by unfold maxLen;omega)
  rw[<-hG] at this
  unfold maxLen at this
  omega
 have hGi:¬(G=i):=by omega
 have hGim:¬(G=i+1):=by omega
 have hci:¬(c=i):=by omega
 have hbN:b ≠ w.heap.size:=by omega
 have hdl:(cs.drop (i * 3)).length=(n - i) * 3:=by rw[List.length_drop,hcl];omega
 have hcpB:∀(W:World),(∀x,W.cell? x=(W1.setCells w.heap.size (i * 3) vs).cell? x)->(∀x,W.frozen? x=(W1.setCells w.heap.size (i * 3) vs).frozen? x)->∀ty dc sc,(Builtin.copy_ #[41,41] ty #[.slice (some ⟨w.heap.size,(i+1) * 3,none⟩) (n - i) dc,.slice (some ⟨b,off+i * 3,none⟩) (n - i) sc]).run Tryz.prog W=.ok (goInt (Nat.min (n - i) (n - i))) (W.setCells w.heap.size ((i+1) * 3) (cs.drop (i * 3))):=fun W hWc hWf ty dc sc=>
  QgU W _ _ ty 185 3 w.heap.size ((i+1) * 3) (n - i) dc ⟨b,off+i * 3,none⟩ (n - i) sc (cs.drop (i * 3)) Tryz.underlying41 hsz (by rw[hdl];congr 1;simp only[Nat.min_def];split<;>omega)
   (fun j v hj=>by
    rw[Addr.add_lit,hWc,World.cell?_setCells_out _ _ _ _ _ (fun h _=>absurd h hbN),Nat.add_assoc]
    exact hOb _ v (hcs (i * 3+j) v (by rwa [List.getElem?_drop] at hj)))
   (fun j hj=>by rw[hWc];exact Qk2 _ _ _ _ (fun t ht=>hN _ (by omega)) _ (hN _ (by omega)))
   (fun j hj=>by rw[hWf,World.frozen?_setCells];exact hNf _) (fun v hv=>h1c v (List.mem_of_mem_drop hv))
 subst hW1
 have HE1:Hid (∀x,((w.alloc (.cells ROW 185)).drew).cell? x=(w.drew.alloc (.cells ROW 185)).cell? x):=fun x=>rfl
 have HE2:Hid (∀x,((w.alloc (.cells ROW 185)).drew).frozen? x=(w.drew.alloc (.cells ROW 185)).frozen? x):=fun x=>rfl
 have HF1:Hid (∀x,(((w.alloc (.cells ROW 185)).drew.setCells w.heap.size (i * 3) vs).drew).cell? x=((w.drew.alloc (.cells ROW 185)).setCells w.heap.size (i * 3) vs).cell? x):=fun x=>rfl
 have HF2:Hid (∀x,(((w.alloc (.cells ROW 185)).drew.setCells w.heap.size (i * 3) vs).drew).frozen? x=((w.drew.alloc (.cells ROW 185)).setCells w.heap.size (i * 3) vs).frozen? x):=fun x=>rfl
 have HRZ:Hid (∀ty,(Builtin.append_ #[41,3] ty #[.slice (some ⟨b,off,none⟩) i c,.int .i64 ((n:Int)+1 - (i:Int))]).run Tryz.prog w=_):=hrz
 have HCA:Hid (∀(W:World),(∀x,W.cell? x=(w.drew.alloc (.cells ROW 185)).cell? x)->(∀x,W.frozen? x=(w.drew.alloc (.cells ROW 185)).frozen? x)->∀ty dc,(Builtin.copy_ #[41,41] ty #[.slice (some ⟨w.heap.size,i * 3,none⟩) (n+1 - i) dc,.slice (some ⟨vb,voff,none⟩) 1 vc]).run Tryz.prog W=.ok (goInt (Nat.min 1 (n+1 - i))) (W.setCells w.heap.size (i * 3) vs)):=hcpA
 have HCB:Hid (∀(W:World),(∀x,W.cell? x=((w.drew.alloc (.cells ROW 185)).setCells w.heap.size (i * 3) vs).cell? x)->(∀x,W.frozen? x=((w.drew.alloc (.cells ROW 185)).setCells w.heap.size (i * 3) vs).frozen? x)->∀ty dc sc,(Builtin.copy_ #[41,41] ty #[.slice (some ⟨w.heap.size,(i+1) * 3,none⟩) (n - i) dc,.slice (some ⟨b,off+i * 3,none⟩) (n - i) sc]).run Tryz.prog W=.ok (goInt (Nat.min (n - i) (n - i))) (W.setCells w.heap.size ((i+1) * 3) (cs.drop (i * 3)))):=hcpB
 have hw1:IntKind.i64.wrap ((i:Int)+1)=(i:Int)+1:=by rw[IntKind.wrap_i64];omega
 have hb1:(0:Int)<=(i:Int)+1:=by omega
 have hin:i<=n:=by omega
 have htn:((i:Int)+1).toNat=i+1:=by omega
 have hb3:(i:Int)<=(n:Int):=by omega
 clear hkk hik hold hROW hG hRl hrz hcpA hcpB hN hNf hOb hOv hcs hvs h1c h1v hdl
 go_enter Tryz.func289,Tryz.ntmps289
 go_wp2_with (first
  | (at_builtin;refine Lib.wpList_append_run _ rfl _ _ _ _ rfl _ _ rfl rfl _ _ (HRZ.out _) ?_)
  | (refine Qp9 _ rfl _ _ 41 41 rfl _ _ rfl rfl (HCA.out _ HE1.out HE2.out _ _) ?_))
 go_region_law_o (refine Ql9 rfl _ _ 41 41 rfl (.slice (some ⟨w.heap.size,(i+1) * 3,none⟩) (n - i) (G - (i+1))) (.slice (some ⟨b,off+i * 3,none⟩) (n - i) (c - i)) (by simp[Act.eval,Act.put]) (by simp[Act.eval,Act.put]) (HCB.out _ HF1.out HF2.out 3 (G - (i+1)) (c - i)) ?_)
 go_wp2
 go_ret
 exact⟨rfl,rfl⟩
theorem QjP (w:World) (o:Obj):Streams w (w.drew.alloc o)/\(w.drew.alloc o).heap.size=w.heap.size+1:=by
 have h:(w.drew.alloc o).heap.size=w.heap.size+1:=by show (w.heap.push _).size=_;simp
 exact⟨⟨rfl,rfl,rfl,by rw[h];exact Nat.le_succ _,Nat.le_succ _⟩,h⟩
theorem alloc_old (w:World) (o:Obj) {b:Nat} (hb:b<w.heap.size):(w.drew.alloc o).heap[b]? = w.heap[b]?:=by
 show (w.heap.push o)[b]? = _
 rw[Array.getElem?_push,if_neg (by omega)]
theorem Qoz (w:World) (o:Obj):(w.drew.alloc o).heap[w.heap.size]? = some o:=by
 show (w.heap.push o)[w.heap.size]? = _
 simp
theorem zerosz (m:Nat):(Builtin.zeroCells (Value.agg #[.int .i64 0,.int .i64 0,.int .i64 0]).cells m).size=m * 3:=by
 simp[Builtin.zeroCells,Value.cells]
theorem Qvu {W0:World} (hE:Enters Tryz.prog 289):Contract Tryz.prog W0 289 { ins:=[.v (.list (.prod (.int .i64) (.prod (.int .i64) (.int .i64)))) (.o .z),.v (.int .i64) .z,.v (.list (.prod (.int .i64) (.prod (.int .i64) (.int .i64)))) (.o .z)],outs:=[(.list (.prod (.int .i64) (.prod (.int .i64) (.int .i64))),.o .z)],F:=fun t=>insS t.1 t.2.1 t.2.2.1 }:=by
 refine Qqh (S:=.prod (.int .i64) (.prod (.int .i64) (.int .i64))) rfl hE ?_
 intro w A n cap i olds vs vb voff vcap arrv tyv hi hcap hbig hol ho1 hA hblv hszv hvl hvg hv1
 show Calls Tryz.prog 289 #[.slice A n cap,.int .i64 i,.slice (some ⟨vb,voff,none⟩) 1 vcap] w fun e w'=>∃b' off' cap',e=.returned (.slice (some ⟨b',off',none⟩) (n+1) cap')/\Qm5 w w' A 3 n i olds vs b' off' cap'
 have hol:olds.length=n * 3:=hol
 have hvl:vs.length=3:=hvl
 have hszv:voff+3<=arrv.size:=hszv
 have hvg:∀t,t<3->arrv[voff+t]? = vs[t]?:=hvg
 have hcv:∀j v,vs[j]? = some v->w.cell? ⟨vb,voff+j,none⟩=some v:=fun j v hj=>by
  have hj3:j<3:=by have:=(List.getElem?_eq_some_iff.1 hj).1;omega
  simp only[World.cell?,hblv]
  rw[<-hvg j hj3] at hj
  simpa using hj
 have grow:∀(base:Option Addr),i=n->cap<n+1->(base=none->n=0)->(∀a,base=some a->∀j v,olds[j]? = some v->w.cell? (a.add j)=some v)->
   Calls Tryz.prog 289 #[.slice base n cap,.int .i64 i,.slice (some ⟨vb,voff,none⟩) 1 vcap] w fun e w'=>∃b' off' cap',e=.returned (.slice (some ⟨b',off',none⟩) (n+1) cap')/\Qm5 w w' base 3 n i olds vs b' off' cap':=fun base hin hr hnil hcs=>by
  subst hin
  refine (Qp7 w base i cap vb voff vcap olds vs hcap hr hbig hol hvl hnil hcs hcv hv1).mono fun e w' h=>?_
  obtain⟨rfl,rfl⟩:=h
  obtain⟨s1,s2⟩:=QjP w (.cells ((olds++vs).toArray++Builtin.zeroCells (Value.agg #[.int .i64 0,.int .i64 0,.int .i64 0]).cells (grownCap w (i+1) cap 185 - (i+1))) 185)
  have hGn:i+1<=grownCap w (i+1) cap 185:=grownCap_ge w _ _ _
  have hcl:∀t,t<(i+1) * 3->((olds++vs).toArray++Builtin.zeroCells (Value.agg #[.int .i64 0,.int .i64 0,.int .i64 0]).cells (grownCap w (i+1) cap 185 - (i+1)))[t]? = (olds++vs)[t]?:=fun t ht=>by
   rw[Array.getElem?_append_left (by simp;omega)];simp
  refine⟨_,_,_,rfl,s1,fun b hb _=>alloc_old w _ hb,.inr ⟨rfl,s2⟩,⟨_,_,Qoz w _,?_,QkU (Nat.le_refl _) hol hvl (fun t ht=>?_) (fun t ht=>?_) (fun t ht=>?_)⟩,hGn⟩
  ·rw[Array.size_append,zerosz];simp;omega
  ·rw[Nat.zero_add,hcl t (by omega),List.getElem?_append_left (by omega)]
  ·rw[Nat.zero_add,hcl _ (by omega),List.getElem?_append_right (by omega),hol];congr 1;omega
  ·omega
 rcases hA with ⟨rfl,rfl,rfl⟩ | ⟨b,off,arr,ty,rfl,hblk,hsz,hbv,hrow⟩
 ·exact grow none (by omega) (by omega) (fun _=>rfl) (fun a h=>by cases h)
 ·have hsz:off+cap * 3<=arr.size:=hsz
  have hrow:∀t,t<n * 3->arr[off+t]? = olds[t]?:=hrow
  have hcs:∀j v,olds[j]? = some v->w.cell? ⟨b,off+j,none⟩=some v:=fun j v hj=>by
   have hj3:j<n * 3:=by have:=(List.getElem?_eq_some_iff.1 hj).1;omega
   simp only[World.cell?,hblk]
   rw[<-hrow j hj3] at hj
   simpa using hj
  have hfr:∀k,w.frozen? ⟨b,k,none⟩=false:=fun k=>by simp[World.frozen?,hblk]
  have hfv:∀k,w.frozen? ⟨vb,k,none⟩=false:=fun k=>by simp[World.frozen?,hblv]
  have hsp:∀k,k<cap * 3->(w.cell? ⟨b,off+k,none⟩).isSome=true:=fun k hk=>by
   simp only[World.cell?,hblk];simp;omega
  have keepS:∀(vs:List Value) (o:Nat) (w1:World) (x:Nat),(∀b0 o0,(some ⟨b,off,none⟩:Option Addr)=some ⟨b0,o0,none⟩->x ≠ b0)->(w1.setCells b o vs).heap[x]? = w1.heap[x]?:=fun vs o w1 x h=>Je (h b off rfl) vs o w1
  have sd:Streams w w.drew:=⟨rfl,rfl,rfl,Nat.le_refl _,Nat.le_succ _⟩
  have hbd:w.drew.heap[b]? = some (.cells arr ty (0,0)):=hblk
  by_cases hin:i=n
  ·by_cases hr:n+1<=cap
   ·subst hin
    refine (Qqx w b off i cap vb voff vcap vs hr hbig hvl (fun j hj=>by rw[Nat.add_assoc];exact hsp _ (by omega)) (fun j hj=>hfr _) hcv hv1).mono fun e w' h=>?_
    obtain⟨rfl,rfl⟩:=h
    obtain⟨arr1,r1,r2,r3,r4⟩:=Yr vs (off+i * 3) w arr hblk (by omega)
    obtain⟨s1,s2⟩:=ZC (b:=b) vs (off+i * 3) w
    refine⟨_,_,_,rfl,s1,fun x _ h=>keepS _ _ _ x h,.inl ⟨⟨_,rfl⟩,s2⟩,⟨_,_,r1,by rw[r2];exact hsz,QkU (Nat.le_refl _) hol hvl (fun t ht=>?_) (fun t ht=>?_) (fun t ht=>?_)⟩,hr⟩
    ·rw[r3 (off+t) (.inl (by omega))];exact hrow t ht
    ·exact r4 t (by omega)
    ·omega
   ·exact grow _ hin (by omega) (fun h=>by cases h) (fun a h j v hj=>by cases h;rw[Addr.add_lit];exact hcs j v hj)
  ·have hlt:i<n:=by omega
   have hdl:(olds.drop (i * 3)).length=(n - i) * 3:=by rw[List.length_drop,hol];omega
   by_cases hr:n+1<=cap
   ·refine (Quc w b off n cap i vb voff vcap olds vs hlt hr hbig hbv.symm hol hvl hcs (fun j hj=>hsp j (by omega)) (fun j _=>hfr _) hcv ho1 hv1 tyv ty arrv.size arr.size (by simp[World.shape?,hblv]) (by simp[World.shape?,hblk]) (by omega) (hfv _) (hfv _)).mono fun e w' h=>?_
    obtain⟨rfl,rfl⟩:=h
    obtain⟨arr1,r1,r2,r3,r4⟩:=Yr (olds.drop (i * 3)) (off+(i+1) * 3) w.drew arr hbd (by omega)
    obtain⟨s1,s2⟩:=ZC (b:=b) (olds.drop (i * 3)) (off+(i+1) * 3) w.drew
    obtain⟨arr2,u1,u2,u3,u4⟩:=Yr vs (off+i * 3) _ arr1 r1 (by rw[r2];omega)
    obtain⟨s3,s4⟩:=ZC (b:=b) vs (off+i * 3) (w.drew.setCells b (off+(i+1) * 3) (olds.drop (i * 3)))
    refine⟨_,_,_,rfl,sd.trans (s1.trans s3),fun x _ h=>by rw[keepS _ _ _ x h,keepS _ _ _ x h];rfl,.inl ⟨⟨_,rfl⟩,by rw[s4,s2];rfl⟩,⟨_,_,u1,by rw[u2,r2];exact hsz,QkU hi hol hvl (fun t ht=>?_) (fun t ht=>?_) (fun t ht=>?_)⟩,hr⟩
    ·rw[u3 (off+t) (.inl (by omega)),r3 (off+t) (.inl (by omega))];exact hrow t (by omega)
    ·exact u4 t (by omega)
    ·rw[u3 (off+(i+1) * 3+t) (.inr (by omega)),r4 t (by omega),List.getElem?_drop]
   ·refine (QuM w b off n cap i vb voff vcap olds vs hlt hcap (by omega) hbig hol hvl hcs hcv ho1 hv1).mono fun e w' h=>?_
    obtain⟨rfl,rfl⟩:=h
    have hGn:n+1<=grownCap w (n+1) cap 185:=grownCap_ge w _ _ _
    obtain⟨ROW,hROW⟩:∃ROW:Array Value,ROW=(olds.take (i * 3)).toArray++Builtin.zeroCells (Value.agg #[.int .i64 0,.int .i64 0,.int .i64 0]).cells (n+1 - i)++Builtin.zeroCells (Value.agg #[.int .i64 0,.int .i64 0,.int .i64 0]).cells (grownCap w (n+1) cap 185 - (n+1)):=⟨_,rfl⟩
    rw[<-hROW]
    have hti:(olds.take (i * 3)).length=i * 3:=by rw[List.length_take,hol];omega
    have hRs:ROW.size=grownCap w (n+1) cap 185 * 3:=by
     rw[hROW,Array.size_append,Array.size_append,zerosz,zerosz]
     rw[List.size_toArray,hti];omega
    have hRc:∀t,t<i * 3->ROW[t]? = olds[t]?:=fun t ht=>by
     rw[hROW,Array.append_assoc,Array.getElem?_append_left (by rw[List.size_toArray,hti];exact ht)]
     rw[List.getElem?_toArray,List.getElem?_take,if_pos ht]
    obtain⟨s1,s2⟩:=QjP w (.cells ROW 185)
    have hn1:((w.alloc (.cells ROW 185)).drew).heap[w.heap.size]? = some (.cells ROW 185 (0,0)):=Qoz w _
    obtain⟨arr1,r1,r2,r3,r4⟩:=Yr vs (i * 3) ((w.alloc (.cells ROW 185)).drew) ROW hn1 (by omega)
    obtain⟨s3,s4⟩:=ZC (b:=w.heap.size) vs (i * 3) ((w.alloc (.cells ROW 185)).drew)
    have hn2:(((w.alloc (.cells ROW 185)).drew.setCells w.heap.size (i * 3) vs).drew).heap[w.heap.size]? = some (.cells arr1 185 (0,0)):=r1
    obtain⟨arr2,u1,u2,u3,u4⟩:=Yr (olds.drop (i * 3)) ((i+1) * 3) _ arr1 hn2 (by omega)
    obtain⟨s5,s6⟩:=ZC (b:=w.heap.size) (olds.drop (i * 3)) ((i+1) * 3) (((w.alloc (.cells ROW 185)).drew.setCells w.heap.size (i * 3) vs).drew)
    have sA:Streams w ((w.alloc (.cells ROW 185)).drew):=s1
    have sB:Streams ((w.alloc (.cells ROW 185)).drew.setCells w.heap.size (i * 3) vs) (((w.alloc (.cells ROW 185)).drew.setCells w.heap.size (i * 3) vs).drew):=⟨rfl,rfl,rfl,Nat.le_refl _,Nat.le_succ _⟩
    refine⟨_,_,_,rfl,sA.trans (s3.trans (sB.trans s5)),fun x hx _=>?_,.inr ⟨rfl,?_⟩,⟨_,_,u1,by rw[u2,r2,hRs,Nat.zero_add];exact Nat.le_refl _,QkU hi hol hvl (fun t ht=>?_) (fun t ht=>?_) (fun t ht=>?_)⟩,hGn⟩
    ·rw[Je (by omega)]
     show ((w.alloc (.cells ROW 185)).drew.setCells w.heap.size (i * 3) vs).heap[x]? = _
     rw[Je (by omega)]
     exact alloc_old w _ hx
    ·rw[s6]
     show ((w.alloc (.cells ROW 185)).drew.setCells w.heap.size (i * 3) vs).heap.size=_
     rw[s4];exact s2
    ·rw[Nat.zero_add,u3 t (.inl (by omega)),r3 t (.inl (by omega))];exact hRc t ht
    ·rw[Nat.zero_add,u3 _ (.inl (by omega))];exact r4 t (by omega)
    ·rw[Nat.zero_add,u4 t (by omega),List.getElem?_drop]
end Go.Dx
