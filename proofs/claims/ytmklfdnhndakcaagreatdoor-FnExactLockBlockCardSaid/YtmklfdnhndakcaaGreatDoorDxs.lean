/- THE LIBRARY: slices.SortFunc -/
import Derived.Test.YtmklfdnhndakcaaGreatDoorDxd
import Derived.Shelf.SlSortCmp.NoneTotal
set_option linter.unusedVariables false
set_option linter.unusedSimpArgs false
set_option maxRecDepth 100000
namespace Go.Dx
open Go.Proofs Go.Sort
variable {P:Program} {W0:World}
theorem grown_of {w w':World} (h:Streams w w') (hh:∀i,i<w.heap.size->w'.heap[i]? = w.heap[i]?):∃q os,w'=grow (w.drewN q) os:=by
 refine⟨w'.drawn - w.drawn,w'.heap.extract w.heap.size w'.heap.size,?_⟩;have h1:w.heap++w'.heap.extract w.heap.size w'.heap.size=w'.heap:=by
  apply Array.ext_getElem?;intro k;rw[Array.getElem?_append];split
  ·rename_i hk;exact (hh k hk).symm
  ·rename_i hk
   rw[Array.getElem?_extract];have U:=h.size
   split
   ·congr 1;omega
   ·rename_i J
    rw[Array.getElem?_eq_none];omega
 have h2:w.drawn+(w'.drawn - w.drawn)=w'.drawn:=by have:=h.drawn;omega
 cases w' with
 | mk heap tape drawn os output=>
  simp only[grow,World.drewN] at h1 h2 ⊢;obtain⟨I,a2,a3,_,_⟩:=h;simp only at I a2 a3;subst I a2 a3;simp only[h1,h2]
theorem QoY {j:FuncId} {a b:Sh} {f:Fl} (hok:okS (.prod a b) f=true) (hE:Enters P j)
  (hnone:∀(p:Option Addr) (cap:Nat) (fv:Value) (w:World),Calls P j #[.slice p 0 cap,fv] w fun e w'=>e=.returned (.tuple #[])/\w'=w)
  (hsort:∀(α:Type) [Inhabited α] (enc:α->List Value) (hk:∀x,(enc x).length=(Sh.prod a b).size) (h1:∀x,∀v ∈ enc x,v.oneCell'=true) (cf:α->α->Int) (hO:SWO (ltOf cf)) (g:Nat) (cb:Array Value) (blk off cap:Nat) (d:Array α) (w:World)
   (eg:∀args w,(callFunc g args).run P w=.ok (.enter g args) w) (hcmp:CmpLays P g cb enc (Sh.prod a b).size cf blk off d.size w) (hH:HoldsK enc (Sh.prod a b).size w blk off d) (hblk:blk<w.heap.size) (hsz:d.size<4611686018427387904),
   Calls P j #[.slice (some ⟨blk,off,none⟩) d.size cap,.func (.func g) #[] cb] w fun e w'=>
    e=.returned (.tuple #[])/\∃I n os,PermIn 0 d.size d I/\SortedIn (ltOf cf) 0 d.size I/\w'=sortWorldK enc (Sh.prod a b).size w blk off n I os) :
  Contract P W0 j { ins:=[.mu (.list (.prod a b)) (.o f) (.o f),.v (.fn2 (.prod a b) (.prod a b) (.int .i64)) .z],outs:=[],F:=fun t=>QhY t.1 t.2.1 }:=by
 refine⟨hE,fun w ow vs xs ys hlt hG J hF=>?_⟩
 match vs,J with
 | [],J=>exact J.elim
 | [_],J=>exact J.2.elim
 | _::_::_::_,J=>cases J.2.2
 | [v,u],J=>
  obtain⟨⟨hform,A,n,cap,e1,e2,e3,e4⟩,⟨hformu,hfn⟩,_⟩:=J;obtain⟨x,g,_⟩:=xs;have e2:List.length x=n:=e2
  have hv1:v.cells = #[v]:=hform
  simp only[Qg,hv1] at e1;simp only[List.getElem?_toArray,aLt,aLb] at e1;subst e1;have hF:QhY x g=some ys:=hF
  obtain⟨hS,hperm,hpair⟩:=Qsb hF;let ow':Nat->Tag:=fun j=>if ow j=.fl 0 then .b 0 else ow j
  have kz:∀j,ow j ≠ .fl 0->ow' j=ow j:=fun j hj=>by simp[ow',hj]
  have k0:∀j,ow j=.fl 0->ow' j=.b 0:=fun j hj=>by simp[ow',hj]
  have hlt':∀j,ow' j ≠ .none->j<w.heap.size:=fun j hj=>hlt j fun h0=>hj (by rw[kz j (by rw[h0];simp)];exact h0)
  rcases aMA n with hn | hn
  ·obtain rfl:=hn
   have hx:x=[]:=aMk e2
   subst hx;have hy:ys=([]:List (Sh.prod a b).den):=List.Perm.eq_nil hperm
   subst hy;refine (hnone A cap u w).mono fun e w' h=>?_
   obtain⟨rfl,rfl⟩:=h;refine⟨.tuple #[],ow',rfl,⟨(Streams.refl _).d,fun j hj h=>⟨rfl,kz j (by rcases h with h | h<;>rw[h]<;>simp)⟩,hlt',⟨rfl,#[],rfl,rfl,fun k o y u hk=>by simp at hk⟩,?_⟩⟩
   refine⟨⟨rfl,hform,A,0,cap,?_,rfl,e3,?_⟩,rfl,rfl⟩
   ·simp only[Qg,hv1];rfl
   ·rcases e4 with e4 | ⟨b',off,arr,ty,q1,q2,q3,q4,t1,q5⟩
    ·exact .inl e4
    ·exact .inr ⟨b',off,arr,ty,q1,k0 _ q2,q3,q4,t1,fun j hj=>absurd hj (by simp)⟩
  ·rcases e4 with ⟨_,h0,_⟩ | ⟨blk,off,arr,ty,rfl,hSb,hblk,hsz,t1,hr⟩
   ·omega
   ·subst e2
    have hSb:ow blk=.fl 0:=hSb
    have hm:∀i:Fin x.length,x[i] ∈ x:=fun i=>aLl _
    haveI:Inhabited (Fin x.length):=⟨⟨0,hn⟩⟩
    let k:=(Sh.prod a b).size
    have hone:∀(i:Fin x.length) (c:Nat),c<k->∃v,Qd w blk (off+i * k) c=some v/\v.oneCell'=true:=fun i c hc=>cells_one hok (hr i i.2) c hc
    let enc:Fin x.length->List Value:=fun i=>(List.range k).map fun c=>(Qd w blk (off+i * k) c).getD undef
    have hk:∀i,(enc i).length=k:=fun i=>by simp[enc]
    have hget:∀i c,c<k->(enc i)[c]? = Qd w blk (off+i * k) c:=fun i c hc=>by
     obtain⟨v,hv,_⟩:=hone i c hc;simp[enc,hc,hv]
    have h1:∀i,∀v ∈ enc i,v.oneCell'=true:=fun i v hv=>by
     simp only[enc,List.mem_map,List.mem_range] at hv;obtain⟨c,hc,rfl⟩:=hv;obtain⟨v,hv,h⟩:=hone i c hc;rw[hv];exact h
    let cf:Fin x.length->Fin x.length->Int:=fun i U=>(g x[i] x[U]).getD 0
    have hl:∀i U,ltOf cf i U=Qdd g x[i] x[U]:=fun i U=>by
     obtain⟨v,hv⟩:=hS.tot _ (hm i) _ (hm U);simp only[ltOf,cf,Qdd,hv,Option.getD_some]
    have hO:SWO (ltOf cf):=by
     refine⟨fun i=>?_,fun i U i''=>?_,fun i U i''=>?_⟩
     ·rw[hl];exact hS.irrefl _ (hm i)
     ·rw[hl,hl,hl];exact hS.trans _ (hm i) _ (hm U) _ (hm i'')
     ·rw[hl,hl,hl];exact hS.ntrans _ (hm i) _ (hm U) _ (hm i'')
    have hSz:∀i,Zo ow i\/(So ow (.fl 0) i/\i ≠ blk)->i<w.heap.size/\i ≠ blk:=fun i hi=>by
     rcases hi with hi | hi
     ·exact⟨hlt i (by rw[show ow i=.fz from hi];simp),fun h=>by rw[h] at hi;rw[show ow blk=.fz from hi] at hSb;cases hSb⟩
     ·exact⟨hlt i (by rw[show ow i=.fl 0 from hi.1];simp),hi.2⟩
    let d:Array (Fin x.length):=Array.ofFn id
    have hds:d.size=x.length:=by simp[d]
    have hdg:∀i (h:i<x.length),d[i]! = ⟨i,h⟩:=fun i h=>by rw[getElem!_pos d i (by rw[hds];exact h)];simp[d]
    have hk0:0<k:=Sh.size_pos _
    have hH:HoldsK enc k w blk off d:=by
     intro t ht;have ht':t<x.length * k:=by rw[size_flatK,hds] at ht;exact ht
     have hi:t / k<x.length:=by rw[Nat.div_lt_iff_lt_mul hk0];exact ht'
     have hc:t % k<k:=Nat.mod_lt _ hk0
     rw[get_flatK enc k d t (by rw[hds];exact ht'),hdg _ hi]
     obtain⟨v,hv,_⟩:=hone ⟨t / k,hi⟩ (t % k) hc;have hgt:=hget ⟨t / k,hi⟩ (t % k) hc
     rw[hv] at hgt;constructor
     ·have e:t / k * k+t % k=t:=by rw[Nat.mul_comm];exact Nat.div_add_mod t k
      have h3:w.cell? ⟨blk,off+t / k * k+t % k,none⟩=some v:=hv
      rw[aMh,e] at h3;rw[h3,List.getElem!_eq_getElem?_getD,hgt];rfl
     ·simp[World.frozen?,hblk]
    have hworld:∀(m:Nat) (os:Array Obj) (dk:Array (Fin x.length)) (i:Nat),i<w.heap.size->i ≠ blk->(sortWorldK enc k w blk off m dk os).heap[i]? = w.heap[i]?:=fun m os dk i hi hne=>by
     show ((w.heap.modify blk (onCells (putCells id off (flatK enc k dk))))++os)[i]? = _
     rw[Array.getElem?_append_left (by simpa using hi),Array.getElem?_modify,if_neg (Ne.symm hne)]
    have hblt:blk<w.heap.size:=(Array.getElem?_eq_some_iff.1 hblk).1
    have hsz2:∀(m:Nat) (os:Array Obj) (dk:Array (Fin x.length)),w.heap.size<=(sortWorldK enc k w blk off m dk os).heap.size:=fun m os dk=>size_sortWorldK_c enc k w blk off m dk os
    obtain⟨u',⟨hu0,hu1⟩,hcall⟩:=hfn (by simp)
    have hu:u'=u:=by
     have hf:u.cells = #[u]:=hformu
     simp only[Qg,hf] at hu0;simpa using hu0.symm
    subst hu;let Z':Nat->Prop:=fun i=>Zo ow i\/(So ow (.fl 0) i/\i ≠ blk)
    have hrep:∀(W:World),(∀i,i<w.heap.size->i ≠ blk->W.heap[i]? = w.heap[i]?)->∀i:Fin x.length,RepC P (.prod a b) .z Z' W QP (Qg (.agg (enc i).toArray)) x[i]:=fun W hW i=>by
     have h0:=RepC.freeze hok (hr i i.2)
     have h1:RepC P (.prod a b) .z Z' w QP (Qd w blk (off+i * k)) x[i]:=h0.mono (fun q hq=>hq.imp id fun h=>⟨h.1,h.2.1⟩) (fun _ h=>h)
     refine (RepC.frame (Z':=Z') (S':=QP) (w':=W) (fun _ h=>h) (fun _ h=>h) (fun q hq=>?_) h1).congr (fun c hc=>?_)
     ·have:=hSz q (hq.resolve_left id)
      exact hW q this.1 this.2
     ·show (enc i).toArray[c]? = _
      rw[List.getElem?_toArray];exact hget i c hc
    have hcalls:∀(W:World),(∀i,i<w.heap.size->i ≠ blk->W.heap[i]? = w.heap[i]?)->w.heap.size<=W.heap.size->∀i U:Fin x.length,∃jc cap,u'=.func (.func jc) #[] cap/\Enters P jc/\Calls P jc (#[.agg (enc i).toArray,.agg (enc U).toArray]++cap) W fun e w'=>e=.returned (.int .i64 (cf i U))/\∃q os',w'=grow (W.drewN q) os':=fun W hW hWs i U=>by
     obtain⟨y,hy⟩:=hS.tot _ (hm i) _ (hm U);have ha:After (Zo ow) Z' w W:=⟨fun q hq=>.inl hq,fun q hq=>by have:=hSz q (.inl hq);exact hW q this.1 this.2,fun q hq=>Nat.lt_of_lt_of_le (hSz q hq).1 hWs⟩
     obtain⟨jc,cap,h1,h2,h3⟩:=hcall Z' W ha (.agg (enc i).toArray) x[i] (.agg (enc U).toArray) x[U] y ⟨_,rfl,by simp[hk];rfl⟩ (hrep W hW i) ⟨_,rfl,by simp[hk];rfl⟩ (hrep W hW U) hy
     refine⟨jc,cap,h1,h2,h3.mono fun e w' h=>?_⟩
     obtain⟨vr,rfl,hst,hh,_,Z2,_,_,_,hfo,hre⟩:=h;have hfo:vr.cells = #[vr]:=hfo
     have hre:=hre (by simp)
     simp only[Qg,hfo] at hre;have hvr:vr=.int .i64 y:=by simpa using hre
     refine⟨?_,grown_of hst hh⟩;rw[hvr];simp only[cf,hy,Option.getD_some]
    obtain⟨jc,cap0,rfl,hEc,_⟩:=hcalls w (fun _ _ _=>rfl) (aMb _) default default
    have eg:∀args w,(callFunc jc args).run P w=.ok (.enter jc args) w:=fun args w=>by
     obtain⟨fn,h1,h2,h3⟩:=hEc;have h2':¬fn.body=none:=by cases hb:fn.body<;>simp[hb] at h2 ⊢
     have h3':¬fn.name = "runtime.NumGoroutine":=by simpa using h3
     simp[callFunc,h1,h2',h3']
    have hcmp:CmpLays P jc cap0 enc k cf blk off d.size w:=fun m os dk hdk i U=>by
     obtain⟨jc',cap',h1,_,h2⟩:=hcalls (sortWorldK enc k w blk off m dk os) (hworld m os dk) (hsz2 m os dk) i U;simp only[Value.func.injEq,Fn.func.injEq] at h1;obtain⟨rfl,_,rfl⟩:=h1;exact h2
    have hrun:=hsort (Fin x.length) enc hk h1 cf hO jc cap0 blk off cap d w eg hcmp hH hblt (by rw[hds];exact hS.len)
    rw[hds] at hrun;refine hrun.mono fun e w' h=>?_
    obtain⟨rfl,I,n',os,⟨hp1,hp2,hp3⟩,hsd,rfl⟩:=h;have hd's:I.size=x.length:=by rw[hp1,hds]
    have hp3:I.toList.Perm d.toList:=by
     have a1:∀(q:Array (Fin x.length)) (m:Nat),m=q.size->q.extract 0 m=q:=fun q m h=>by subst h;simp
     rw[a1 I _ (by first | exact hd's.symm | exact hp1.symm),a1 d _ (by first | rfl | exact hds.symm)] at hp3;exact hp3
    have hdl:d.toList.map (fun i=>x[i])=x:=by
     apply List.ext_getElem
     ·simp[hds]
     ·intro q h1 h2
      simp[d]
    have hys:ys=I.toList.map (fun i=>x[i]):=by
     refine Sorts.unique hS ⟨hperm,hpair⟩ ⟨?_,?_⟩
     ·have:=hp3.map (fun i=>x[i])
      rw[hdl] at this;exact this
     ·rw[List.pairwise_map,List.pairwise_iff_getElem]
      intro p q J hq hpq;simp only[aMo] at J hq;have:=hsd p q (Nat.zero_le _) hpq (by rw[<-hd's];exact hq)
      rw[getElem!_pos I p J,getElem!_pos I q hq,hl] at this;simpa using this
    have hH2:HoldsK enc k (sortWorldK enc k w blk off n' I os) blk off I:=holdsK_sortWorldK_c enc k w blk off d I n' os hH hblt hp1
    have hblk2:(sortWorldK enc k w blk off n' I os).heap[blk]? = some (.cells (putCells id off (flatK enc k I) arr) ty (0,0)):=by
     show ((w.heap.modify blk (onCells (putCells id off (flatK enc k I))))++os)[blk]? = _
     rw[Array.getElem?_append_left (by simpa using hblt),Array.getElem?_modify,if_pos rfl,hblk];rfl
    have hst:Streams w (sortWorldK enc k w blk off n' I os):=⟨rfl,rfl,rfl,hsz2 n' os I,by show w.drawn<=w.drawn+n';omega⟩
    have hw2:=hworld n' os I
    have hs2:=hsz2 n' os I
    have hcs:(putCells id off (flatK enc k I) arr).size=arr.size:=by simp[putCells]
    have hcl:∀p c,p<x.length->c<k->(J:p<I.size)->Qd (sortWorldK enc k w blk off n' I os) blk (off+p * k) c=Qd w blk (off+I[p] * k) c:=fun p c J hc hp'=>by
     have:=(HoldsK.cell hH2 hp' hc).1
     rw[getElem!_pos I p hp'] at this;show World.cell? _ _=_
     rw[this,<-hget I[p] c hc];have:c<(enc I[p]).length:=by rw[hk];exact hc
     rw[getElem!_pos _ c this,aLf this]
    generalize sortWorldK enc k w blk off n' I os=w2 at *;generalize putCells id off (flatK enc k I) arr=arr2 at *;refine⟨.tuple #[],ow',rfl,⟨hst.d,fun j hj h=>⟨hw2 j hj (fun hjb=>?_),kz j (by rcases h with h | h<;>rw[h]<;>simp)⟩,fun j hj=>Nat.lt_of_lt_of_le (hlt' j hj) hs2,⟨rfl,#[],rfl,rfl,fun k o y u hk=>by simp at hk⟩,?_⟩⟩
    ·subst hjb;rw[hSb] at h;rcases h with h | h<;>cases h
    ·have hnd:(I.toList.map Fin.val).Nodup:=by
      have h1:=hp3.map Fin.val
      rw[h1.nodup_iff];have:d.toList.map Fin.val=List.range x.length:=by
       apply List.ext_getElem
       ·simp[hds]
       ·intro q h1 h2;simp[d]
      rw[this];exact List.nodup_range
     have ht:∃t2:Nat->Nat,∀i p,(J:p<I.size)->t1 i=I[p]->t2 i=p:=by
      have:∀i,∃q,∀p,(J:p<I.size)->t1 i=I[p]->q=p:=fun i=>by
       by_cases h:∃q,∃(hq:q<I.size),t1 i=I[q]
       ·obtain⟨q,hq,hq2⟩:=h
        refine⟨q,fun p J hp2=>?_⟩
        have:=List.getElem?_inj (i:=q) (j:=p) (by simpa using hq) hnd
        exact this.1 (by simp[hq,J,<-hq2,<-hp2])
       ·exact⟨0,fun p J hp2=>absurd ⟨p,J,hp2⟩ h⟩
      exact Classical.axiomOfChoice this
     obtain⟨t2,ht2⟩:=ht;refine⟨⟨rfl,hform,some ⟨blk,off,none⟩,x.length,cap,?_,by show List.length (α:=(Sh.prod a b).den) ys=_;rw[hys];simp[hd's],e3,.inr ⟨blk,off,arr2,ty,rfl,k0 blk hSb,hblk2,by rw[hcs];exact hsz,t2,fun p J=>?_⟩⟩,rfl,rfl⟩
     ·simp only[Qg,hv1];rfl
     ·have hp':p<I.size:=by
       have:List.length (α:=(Sh.prod a b).den) ys=I.size:=by rw[hys];simp
       rw[<-this];exact J
      have hp2:p<x.length:=by rw[<-hd's];exact hp'
      have hyp:∀(zs:List (Sh.prod a b).den) (h:p<zs.length),zs=I.toList.map (fun i=>x[i])->zs[p]'h=x[I[p]]:=fun zs h hz=>(List.getElem_of_eq hz h).trans (by simp)
      have hrp:=hr I[p] I[p].2
      have hgoal:RepC P (.prod a b) f (Zo ow') w2 (fun i=>So ow' (.b 0) i/\i ≠ blk/\t2 i=p) (Qd w2 blk (off+p * (Sh.prod a b).size)) x[I[p]]:=by
       refine (RepC.frame (fun i hi=>?_) (fun i hi=>?_) (fun i hi=>?_) hrp).congr (fun c hc=>hcl p c hp2 hc hp')
       ·show ow' i=.fz
        rw[kz i (by rw[show ow i=.fz from hi];simp)];exact hi
       ·exact⟨k0 i hi.1,hi.2.1,ht2 i p hp' hi.2.2⟩
       ·have:=hSz i (hi.elim (fun h=>.inr ⟨h.1,h.2.1⟩) .inl)
        exact hw2 i this.1 this.2
      have:=hyp ys J hys
      exact this ▸ hgoal
end Go.Dx
