/- A LIBRARY: an executor over the code of a program, proved sound: what its letters say of a function is so (contract_of); how a row is closed by it (law_calls) -/
import Derived.Test.YtafmdbgjajnnkaaGreatDoorDxa
import Derived.Laws.BytesString
import Derived.Laws.Append
import Derived.Laws.AppendOwn
import Derived.Great.FillDense
set_option linter.unusedVariables false
set_option linter.unusedSimpArgs false
namespace Go.Dx
variable {P:Program} {B:Base} {g:Gh} {e:Env} {a:Act} {w:World} {C:Ctx}
theorem QBj {S:Sh} {F:Fl} {X:S.den} {p:List Step} {n:Dv} {z:Fl×S.den} (h:putP S F X p n=some z):∃f,setP S F X p false ⟨n.sh,f,n.x⟩=some z/\(f=n.fl\/Qr n.sh n.fl f=true):=by
 unfold putP at h
 split at h
 ·exact⟨n.fl,h,.inl rfl⟩
 ·rename_i g hg
  cases hw:Qr n.sh n.fl g with
  | false=>simp[hw] at h
  | true=>rw[hw,aLB] at h;exact⟨g,h,.inr hw⟩
theorem QAS (hT:Q0 P C) (h:Rel P B g e a w) {frz:Bool} {o:Oper} {t:TypeId} {x y:Operand} (ho:o.op=.store t x y) {f:Eff} {e':Env} (hs:Qq C frz e o=some f) (hf:f.gives e'):QK P B a w o e':=by
 obtain⟨g0,_,hcl,h0⟩:=h.clean
 clear h
 simp only[Qq,ho,aLa] at hs
 obtain⟨ti,hti,⟨e1,d⟩,hv,hs⟩:=hs
 have hty:=hT t ti hti
 obtain⟨g1,hpl1,h1,hd,hdv⟩:=Qz1 h0 (fun i=>hcl i 0) hv
 simp only at hs
 split at hs
 ·rename_i r ver p s f0 v0 hxd
  obtain⟨Tx,hx,_,_⟩:=QD h1 x
  rw[hxd] at hx
  have hx:Qa3 g1 e1 a w r ver p (a.eval x):=hx
  cases hver:Nat.beq ((e1.root r).stamp p) ver with
  | false=>simp[hver] at hs
  | true=>
   rw[hver,aLB] at hs
   have hver:=aLw hver
   split at hs
   ·rename_i S F X hdr
    obtain⟨z,hz,hs⟩:=aLa.1 hs
    have hkey:Qka S F p=true/\e'=((e1.turn r (QE p) (.v S z.1 z.2)).dst o.dst .dead):=by
     unfold Qka
     cases hh:QgJ S F p with
     | none=>
      rw[hh] at hs
      simp only[aLb] at hs;subst hs
      exact⟨rfl,hf⟩
     | some u=>
      rw[hh] at hs
      simp only[aLb] at hs;subst hs
      exact⟨hf.1,hf.2⟩
    obtain⟨hho,rfl⟩:=hkey
    have hrep:RepV P s f0 g1.Z w (g1.S (.fl 0)) (a.eval y) v0:=hd
    have hok:s=ti.sh/\okS s f0=true:=by
     rcases hdv with ⟨f1,y1,h2,h3⟩ | ⟨h2,_⟩
     ·simp only[Desc.v.injEq] at h2;obtain⟨rfl,rfl,_⟩:=h2;exact⟨rfl,h3⟩
     ·exact absurd rfl (h2 _ _ _)
    obtain⟨rfl,hok⟩:=hok
    have hone:=cells_one hok hrep.2
    obtain⟨f2,hset,hw⟩:=QBj hz
    have:∃g2,g2.pl=g1.pl/\Rel P B g2 e1 a w/\RepV P ti.sh f2 g2.Z w (g2.S (.fl 0)) (a.eval y) v0:=by
     rcases hw with rfl | hw
     ·exact⟨g1,rfl,h1,hrep⟩
     ·obtain⟨g2,h2,_,h3,h4⟩:=Qj5 h1 hw hrep;exact⟨g2,h2,h3,h4⟩
    obtain⟨g2,hpl2,h2,hrep2⟩:=this
    obtain⟨Tx',hx',_,_⟩:=QD h2 x
    rw[hxd] at hx'
    have hx':Qa3 g2 e1 a w r ver p (a.eval x):=hx'
    obtain⟨hp,hn⟩:=(hx'.2.2 hver).2 S F X hdr
    obtain⟨b,off,hA,hpt⟩:=hn (Qys p hset)
    have hroot:=h2.root r hdr
    have hbase:∀hb ho,QX g2 r=some (hb,ho)->∃arr ty,w.heap[hb]? = some (.cells arr ty (0,0))/\ho+S.size<=arr.size:=by
     intro hb ho hh
     cases r with
     | s i=>simp[QX] at hh
     | b i=>
      simp only[QX] at hh
      split at hh
      ·rename_i hb' ho' hpl
       simp only[aLb,aLe] at hh
       obtain⟨rfl,rfl⟩:=hh
       have hbl:=h2.bl i
       rw[show (e1.b i).d=.v S F X from hdr] at hbl
       exact (hbl.2 _ _ hpl).2
      ·cases hh
    obtain⟨arr,ty,hblk,hle⟩:=QAO p hroot hp hset hA hbase
    obtain⟨w',hrun,hW,hst,hsz⟩:=QAg hty hblk hle hrep2.1 hone
    obtain⟨g3,_,_,h3⟩:=h2.put hdr hset hp hA hrep2.2 (hh:=QE p) (fun h=>h) hW hst hsz hho
    obtain⟨g4,_,_,h4⟩:=h3.dst 0 o.dst (d:=.dead) (v:=undef) trivial
    exact .skip (by simp[execOp,ho,hpt,hrun]) ⟨g4,h4⟩
   ·cases hs
 ·cases hs
theorem Ym (w:World) (o:Obj) (i:Nat):(w.alloc o).heap[i]? = if i=w.heap.size then some o else w.heap[i]?:=by
 simp only[World.alloc]
 rw[Array.getElem?_push]
theorem Rel.QbN (h:Rel P B g e a w) {i:Nat} (hi:i<e.sl.length) (hib:i<e.bl.length) {d:Desc} {v:Value} {ty:TypeId} {k:Nat} (hd:Qs P g e a w (.fl k) d v)
  (hdv:(∃S F X,d=.v S F X/\∀j,j<S.size->∃u,Qk v j=some u/\u.oneCell'=true)\/((∀S F X,d ≠ .v S F X)/\d ≠ .dead/\(∀l,d ≠ .tup l)/\bare d=true/\v.cells = #[v])) :
  ∃g',g'.pl i=.cells w.heap.size 0/\Rel P B g' (e.setB i d) a (w.alloc (.cells v.cells ty)):=by
 have hlt:∀j,g.ow j ≠ .none->j<w.heap.size:=h.lt
 let ow':Nat->Tag:=fun j=>if j=w.heap.size then .c i else if g.ow j=.fl k then .b i else if g.ow j=.b i\/g.ow j=.c i then .none else g.ow j
 let pl':Nat->Plc:=fun j=>if j=i then .cells w.heap.size 0 else g.pl j
 have hN:ow' w.heap.size=.c i:=by simp[ow']
 have hne:∀j,g.ow j ≠ .none->j ≠ w.heap.size:=fun j hj=>Nat.ne_of_lt (hlt j hj)
 have hfl:∀j,g.ow j=.fl k->ow' j=.b i:=fun j hj=>by simp[ow',hj,hne j (by rw[hj];simp)]
 have hkeep:∀j t,g.ow j=t->t ≠ .none->t ≠ .fl k->t ≠ .b i->t ≠ .c i->ow' j=t:=fun j t hj h0 h1 h2 h3=>by
  subst hj;simp[ow',hne j h0,h1,h2,h3]
 have hnone:∀j,j ≠ w.heap.size->g.ow j=.none->ow' j=.none:=fun j hj h0=>by simp[ow',hj,h0]
 have hheap:∀j,j ≠ w.heap.size->(w.alloc (.cells v.cells ty)).heap[j]? = w.heap[j]?:=fun j hj=>by rw[Ym,if_neg hj]
 have hheapN:(w.alloc (.cells v.cells ty)).heap[w.heap.size]? = some (.cells v.cells ty (0,0)):=by rw[Ym,if_pos rfl]
 have hth:∀j,g.ow j ≠ .none->(w.alloc (.cells v.cells ty)).heap[j]? = w.heap[j]?:=fun j hj=>hheap j (hne j hj)
 have hB:∀j,(e.setB i d).b j=if i=j then ⟨(e.b i).ver+1,d,(e.b i).id+1,(e.b i).hv+1⟩ else e.b j:=fun j=>QyM hib
 have hsz:B.w0.heap.size<=w.heap.size:=h.st.size
 refine⟨⟨ow',pl'⟩,by simp[pl'],h.step (fun _=>False) (fun j=>j=i) h.lens h.defers (fun j _=>⟨rfl,rfl⟩) (fun j hj=>⟨by rw[hB,if_neg (Ne.symm hj)],by simp[pl',hj]⟩)
  (fun _ h=>h.elim) (fun j hj=>by subst hj;rw[hB,if_pos rfl];exact Nat.lt_succ_self _) (fun _ h=>h.elim) (fun j hj=>.inl (by subst hj;show (e.b j).id<((e.setB j d).b j).id;rw[hB,if_pos rfl];exact Nat.lt_succ_self _)) (fun _ h=>h.elim) (fun j hj=>by subst hj;exact QxE hib)
  (fun j hj=>⟨hkeep j _ hj (by simp) (by simp) (by simp) (by simp),hth j (by rw[hj];simp)⟩)
  (fun m j _ hj=>⟨hkeep j _ hj (by simp) (by simp) (by simp) (by simp),hth j (by rw[hj];simp)⟩)
  (fun m j hm hj=>⟨hkeep j _ hj (by simp) (by simp) (by simp;exact hm) (by simp),hth j (by rw[hj];simp)⟩)
  (fun m j hm hj=>⟨hkeep j _ hj (by simp) (by simp) (by simp) (by simp;exact hm),hth j (by rw[hj];simp)⟩)
  ⟨rfl,rfl,rfl,by show w.heap.size<=(w.heap.push _).size;simp,Nat.le_refl _⟩ (fun j hj _=>hheap j (by omega)) (fun j h1 h2 h3=>hnone j (by omega) (h.nn j h1 h2 h3)) (fun j hj=>?_) (fun q hq hc hn _=>?_) (fun _ j hj=>hj.elim) (fun hk j hj=>?_)⟩
 ·simp only[World.alloc,Array.size_push]
  by_cases hjn:j=w.heap.size
  ·omega
  ·have:g.ow j ≠ .none:=fun h0=>hj (hnone j hjn h0)
   have:=hlt j this;omega
 ·have:=h.lens.2;omega
 ·subst hj
  rw[hB,if_pos rfl]
  rcases hdv with ⟨S,F,X,rfl,hcs⟩ | ⟨h1,h2,h3,h4,h5⟩
  ·have hd:RepV P S F g.Z w (g.S (.fl k)) v X:=hd
   have hrc:∀m,m<S.size->Qm ⟨ow',pl'⟩ a (w.alloc (.cells v.cells ty)) (.b j) m=Qk v m:=by
    intro m hm
    simp only[Qm,pl',if_pos,Qe,World.cell?,hheapN,Nat.zero_add,Qk];rfl
   refine⟨?_,fun hb o hpl=>?_⟩
   ·refine RepC.congr hrc (hd.2.frame (fun m hm=>hkeep m _ hm (by simp) (by simp) (by simp) (by simp)) (fun m hm=>hfl m hm) (fun m hm=>hth m ?_))
    rcases hm with hm | hm
    ·rw[show g.ow m=.fl k from hm];simp
    ·rw[show g.ow m=.fz from hm];simp
   ·simp only[pl',if_pos,Plc.cells.injEq] at hpl
    obtain⟨rfl,rfl⟩:=hpl
    refine⟨hN,_,ty,hheapN,?_⟩
    obtain⟨u,hu,_⟩:=hcs (S.size - 1) (by have:=Sh.size_pos S;omega)
    have:=(Array.getElem?_eq_some_iff.1 hu).1
    have:=Sh.size_pos S
    omega
  ·have hd':Qs P ⟨ow',pl'⟩ (e.setB j d) a (w.alloc (.cells v.cells ty)) .none d v:=
    hd.bare h4 (fun m hm=>⟨hkeep m _ hm (by simp) (by simp) (by simp) (by simp),hth m (by rw[hm];simp)⟩) hk
   have:∃hb o,pl' j=.cells hb o/\ow' hb=.c j/\∃arr ty' v',(w.alloc (.cells v.cells ty)).heap[hb]? = some (.cells arr ty' (0,0))/\arr[o]? = some v'/\v'.cells = #[v']/\Qs P ⟨ow',pl'⟩ (e.setB j d) a (w.alloc (.cells v.cells ty)) .none d v':=
    ⟨w.heap.size,0,by simp[pl'],hN,_,ty,v,hheapN,by rw[h5];rfl,h5,hd'⟩
   cases d with
   | dead=>exact absurd rfl h2
   | und=>exact this
   | v S F X=>exact absurd rfl (h1 _ _ _)
   | tup l=>exact absurd rfl (h3 _)
   | nil=>exact this
   | bor r ver p=>exact this
   | loc r ver p=>exact this
   | rp s x=>exact this
   | rpp s x=>exact this
   | clos j c=>exact this
theorem Ql1 {i:Nat} {d:Desc} {e1:Env} (h:QbN e i d=some e1):i<e.sl.length/\i<e.bl.length/\e1=(e.setB i d).dst (some i) (.loc (.b i) ((e.setB i d).b i).id []):=by
 unfold QbN at h
 cases hc:Nat.blt i e.sl.length&&Nat.blt i e.bl.length with
 | false=>simp[hc] at h
 | true=>
  rw[hc,aLB] at h
  simp only[aLg] at hc
  simp only[aLb] at h
  exact⟨QfJ hc.1,QfJ hc.2,h.symm⟩
theorem QBB (h:Rel P B g e a w) {i:Nat} {d:Desc} {e1:Env} (hn:QbN e i d=some e1) {v:Value} {ty:TypeId} {k:Nat} (hd:Qs P g e a w (.fl k) d v)
  (hdv:(∃S F X,d=.v S F X/\∀j,j<S.size->∃u,Qk v j=some u/\u.oneCell'=true)\/((∀S F X,d ≠ .v S F X)/\d ≠ .dead/\(∀l,d ≠ .tup l)/\bare d=true/\v.cells = #[v])) :
  ∃g',g'.pl i=.cells w.heap.size 0/\Rel P B g' e1 (a.put (some i) (.pointer (some ⟨w.heap.size,0,none⟩))) (w.alloc (.cells v.cells ty)):=by
 obtain⟨hi,hib,rfl⟩:=Ql1 hn
 obtain⟨g1,hpl,h1⟩:=h.QbN hi hib (ty:=ty) hd hdv
 have hA:QX g1 (.b i)=some (w.heap.size,0):=by simp[QX,hpl]
 obtain⟨g2,hpl2,_,h2⟩:=h1.dst 0 (some i) (d:=.loc (.b i) ((e.setB i d).b i).id []) (v:=.pointer (some ⟨w.heap.size,0,none⟩))
  ⟨⟨_,rfl⟩,Nat.le_refl _,fun _=>⟨fun _=>⟨_,_,hA,rfl⟩,fun S F X _=>⟨by simp only[QH],fun _=>⟨_,_,by simp only[Ql];exact hA,rfl⟩⟩⟩⟩
 exact⟨g2,by rw[hpl2];exact hpl,h2⟩
theorem Rel.rename (h:Rel P B g e a w) {t:Nat} (ht:t<e.sl.length) {d:Desc} (hb:bare d=true) (hd:Qs P g e a w .none d (a.tmps.getD t undef)):Rel P B g (e.setS t d) a w:=by
 refine h.step (fun j=>j=t) (fun _=>False) (by simpa [Env.setS,upd] using h.lens) h.defers (fun j hj=>⟨by rw[QhS ht,if_neg (Ne.symm hj)],rfl⟩) (fun j _=>⟨rfl,rfl⟩)
  (fun j hj=>by subst hj;rw[QhS ht,if_pos rfl];exact Nat.lt_succ_self _) (fun _ h=>h.elim) (fun j hj=>by subst hj;exact Qny ht) (fun _ h=>h.elim) (fun j hj=>by subst hj;exact Qkn ht) (fun _ h=>h.elim)
  (fun j hj=>⟨hj,rfl⟩) (fun _ j _ hj=>⟨hj,rfl⟩) (fun _ j _ hj=>⟨hj,rfl⟩) (fun _ j _ hj=>⟨hj,rfl⟩) (Streams.refl _) (fun _ _ _=>rfl) h.nn h.lt (fun _ _ h=>h.elim) (fun hk j hj=>?_) (fun _ j hj=>hj.elim)
 subst hj
 rw[QhS ht,if_pos rfl]
 exact Qs.bare hb hd (fun i hi=>⟨hi,rfl⟩) hk
theorem Qoi {x:Operand} {i:Nat} {d:Desc} {e0:Env} {a0:Act} {T:Tag} (hd:Qs P g e0 a0 w T (e0.opd x) (a0.eval x)) (hsl:∀t,x.slot=some t->a0.tmps.getD t undef=a0.eval x) {e1:Env} {w1:World} {g1:Gh} (hlen:e1.sl.length=e0.sl.length) (hlt:∀t,x.slot=some t->(∃S F X,e0.opd x=.v S F X)->t<e0.sl.length)
  (h1:Rel P B g1 e1 (a0.put (some i) (.pointer (some ⟨w.heap.size,0,none⟩))) w1) (hw1:w1=w.alloc (.cells (a0.eval x).cells (0:Nat))\/∃ty,w1=w.alloc (.cells (a0.eval x).cells ty)) (hpl:g1.pl i=.cells w.heap.size 0) (hbd:(e1.b i).d=d) (hform:∀S F X,d=.v S F X->Y4 S (a0.eval x)) :
  Rel P B g1 (leave e0 x i d e1) (a0.put (some i) (.pointer (some ⟨w.heap.size,0,none⟩))) w1:=by
 unfold leave
 split
 ·rename_i t S f X S2 F2 X2 hs ho
  cases hc:f.isz || Nat.beq t i with
  | true=>exact h1
  | false=>
   simp only[aLC]
   simp only[Bool.or_eq_false_iff] at hc
   have hti:i ≠ t:=by rintro rfl;simp at hc
   refine h1.rename (by rw[hlen];exact hlt t hs ⟨S,f,X,ho⟩) rfl ?_
   have hv:(a0.put (some i) (.pointer (some ⟨w.heap.size,0,none⟩))).tmps.getD t undef=a0.eval x:=by
    rw[<-hsl t hs]
    rcases Nat.lt_or_ge i a0.tmps.size with hl | hl
    ·rw[Qj2 a0 i t _ hl,if_neg hti]
    ·simp only[Act.put]
     rw[Array.setIfInBounds_eq_of_size_le hl]
   rw[hv]
   refine⟨Nat.le_refl _,fun _ S3 F3 X3 hd3=>⟨by simp only[QH],fun _ s hs=>?_⟩⟩
   rw[show (e1.root (.b i)).d=.v S2 F2 X2 from hbd] at hd3
   obtain⟨rfl,_,_⟩:=Yb hd3
   simp only[getS,aLb] at hs
   subst hs
   refine⟨hform _ _ _ rfl,fun k hk=>?_⟩
   simp only[Qn,Qm,hpl,Qk,Qe,World.cell?]
   have:w1.heap[w.heap.size]? = some (.cells (a0.eval x).cells (0:Nat) (0,0))\/∃ty,w1.heap[w.heap.size]? = some (.cells (a0.eval x).cells ty (0,0)):=by
    rcases hw1 with rfl | ⟨ty,rfl⟩
    ·exact .inl (by rw[Ym,if_pos rfl])
    ·exact .inr ⟨ty,by rw[Ym,if_pos rfl]⟩
   rcases this with h2 | ⟨ty,h2⟩<;>rw[h2]<;>simp
 ·exact h1
theorem Rel.flyD (h:Rel P B g e a w) {g':Gh} {w':World} (hpl:g'.pl=g.pl) (how:∀j,j<w.heap.size->(∀m,g.ow j ≠ .fl m)->g'.ow j=g.ow j/\w'.heap[j]? = w.heap[j]?)
  (hst:StrD B.dm w w') (hlt:∀j,g'.ow j ≠ .none->j<w'.heap.size):Rel P B g' e a w':=by
 have hk:∀j t,t ≠ .none->(∀m,t ≠ .fl m)->g.ow j=t->g'.ow j=t/\w'.heap[j]? = w.heap[j]?:=fun j t h0 h1 hj=>by
  have:=how j (h.lt j (by rw[hj];exact h0)) (fun m=>by rw[hj];exact h1 m)
  exact⟨this.1.trans hj,this.2⟩
 have hsz:=h.st.size
 refine h.stepD (fun _=>False) (fun _=>False) h.lens h.defers (fun _ _=>⟨rfl,rfl⟩) (fun j _=>⟨rfl,by rw[hpl]⟩) (fun _ h=>h.elim) (fun _ h=>h.elim) (fun _ h=>h.elim) (fun _ h=>h.elim) (fun _ h=>h.elim) (fun _ h=>h.elim)
  (fun i hi=>hk i _ (by simp) (by simp) hi) (fun i j _ hj=>hk j _ (by simp) (by simp) hj) (fun i j _ hj=>hk j _ (by simp) (by simp) hj) (fun i j _ hj=>hk j _ (by simp) (by simp) hj)
  hst (fun i h1 h2=>?_) (fun i h1 h2 h3=>?_) hlt (fun _ _ h=>h.elim) (fun _ _ h=>h.elim) (fun _ _ h=>h.elim)
 ·by_cases hf:B.fz0 i
  ·exact (hk i _ (by simp) (by simp) (h.fz i hf)).2
  ·exact (how i (by omega) (fun m=>by rw[h.nn i h1 h2 hf];simp)).2
 ·have h0:=h.nn i h1 h2 h3
  exact (how i (by omega) (fun m=>by rw[h0];simp)).1.trans h0
theorem Rel.fly (h:Rel P B g e a w) {g':Gh} {w':World} (hpl:g'.pl=g.pl) (how:∀j,j<w.heap.size->(∀m,g.ow j ≠ .fl m)->g'.ow j=g.ow j/\w'.heap[j]? = w.heap[j]?)
  (hst:Streams w w') (hlt:∀j,g'.ow j ≠ .none->j<w'.heap.size):Rel P B g' e a w':=h.flyD hpl how hst.d hlt
theorem QCo (hT:Q0 P C) (h:Rel P B g e a w) {frz:Bool} {o:Oper} {t:TypeId} {x:Operand} (ho:o.op=.box t x) {f:Eff} {e':Env} (hs:Qq C frz e o=some f) (hf:f.gives e'):QK P B a w o e':=by
 obtain⟨g0,_,hcl,h0⟩:=h.clean
 clear h
 simp only[Qq,ho,aLa] at hs
 obtain⟨ti,hti,i,hdst,hs⟩:=hs
 split at hs
 ·rename_i y hro
  have hox:e.opd x=.rp y.1 y.2:=by
   revert hro
   cases e.opd x<;>simp[Desc.rpOf]
   rintro rfl;exact⟨rfl,HEq.rfl⟩
  simp only[aLb] at hs;subst hs;obtain rfl:e'=_:=hf
  obtain⟨Tx,hx,_,_⟩:=QD h0 x
  rw[hox] at hx
  obtain⟨b,off,hv,hz,hrep⟩:=hx
  have hN:∀j,g0.ow j ≠ .none->j ≠ w.heap.size:=fun j hj=>Nat.ne_of_lt (h0.lt j hj)
  let ow':Nat->Tag:=fun j=>if j=w.heap.size then .fz else g0.ow j
  have kz:∀j,g0.ow j=.fz->ow' j=.fz:=fun j hj=>by simp[ow',hj]
  have hheap:∀j,j ≠ w.heap.size->(w.alloc (.cells (a.eval x).cells t)).heap[j]? = w.heap[j]?:=fun j hj=>by rw[Ym,if_neg hj]
  have hblk:(w.alloc (.cells (a.eval x).cells t)).heap[w.heap.size]? = some (.cells (a.eval x).cells t (0,0)):=by rw[Ym,if_pos rfl]
  have hrel:Rel P B ⟨ow',g0.pl⟩ e a (w.alloc (.cells (a.eval x).cells t)):=h0.fly rfl (fun j hj hm=>⟨by simp[ow',Nat.ne_of_lt hj],hheap j (Nat.ne_of_lt hj)⟩) ⟨rfl,rfl,rfl,by show w.heap.size<=(w.heap.push _).size;simp,Nat.le_refl _⟩ (fun j hj=>by
   show j<(w.heap.push _).size
   rw[Array.size_push]
   by_cases hjN:j=w.heap.size
   ·omega
   ·have:g0.ow j ≠ .none:=fun h0=>hj (by simp[ow',h0,hjN])
    have:=h0.lt j this;omega)
  have hd:Qs P ⟨ow',g0.pl⟩ e a (w.alloc (.cells (a.eval x).cells t)) (.fl 0) (.rpp y.1 y.2) (.pointer (some ⟨w.heap.size,0,none⟩)):=by
   have hbz:g0.ow b=.fz:=hz
   have hcN:Qe (w.alloc (.cells (a.eval x).cells t)) w.heap.size 0 0=some (.pointer (some ⟨b,off,none⟩)):=by
    unfold Qe World.cell?
    simp only[hblk]
    rw[hv];rfl
   refine⟨w.heap.size,0,b,off,rfl,by simp[ow'],hcN,kz b hbz,?_⟩
   rw[Zm (hheap b (hN b (by rw[hbz];simp)))]
   exact hrep.frame (fun j hj=>kz j hj) (fun _ h=>h) (fun j hj=>hheap j (hN j (by rw[show g0.ow j=.fz from hj.resolve_left id];simp)))
  obtain⟨g5,_,_,h5⟩:=hrel.dst 0 o.dst hd
  rw[hdst] at h5
  exact .value (v:=.pointer (some ⟨w.heap.size,0,none⟩)) (w':=w.alloc (.cells (a.eval x).cells t)) (by simp[execOp,ho,Instr.box,newVar,newRow]) ⟨g5,by rw[hdst];exact h5⟩
 simp only[aLa] at hs
 obtain⟨⟨e1,d⟩,hv,e2,hn,hs⟩:=hs
 simp only[aLb] at hs;subst hs;obtain rfl:e'=_:=hf
 obtain⟨g1,hpl1,h1,hd,hdv⟩:=Qz1 h0 (fun i=>hcl i 0) hv
 have hdv':(∃S F X,d=.v S F X/\∀j,j<S.size->∃u,Qk (a.eval x) j=some u/\u.oneCell'=true)\/((∀S F X,d ≠ .v S F X)/\d ≠ .dead/\(∀l,d ≠ .tup l)/\bare d=true/\(a.eval x).cells = #[a.eval x]):=by
  rcases hdv with ⟨f1,y1,rfl,h3⟩ | h2
  ·have hd:RepV P ti.sh f1 g1.Z w (g1.S (.fl 0)) (a.eval x) y1:=hd
   exact .inl ⟨_,_,_,rfl,cells_one h3 hd.2⟩
  ·exact .inr h2
 obtain⟨g2,hpl2,h2⟩:=QBB h1 hn (ty:=t) hd hdv'
 obtain⟨Tx,hdx,hsx,_⟩:=QD h0 x
 obtain⟨hi1,hib1,he2⟩:=Ql1 hn
 have hl1:e1.sl.length=e.sl.length:=h1.lens.2.trans h0.lens.2.symm
 have h3:=Qoi (i:=i) (d:=d) hdx (fun t ht=>(hsx t ht).2.1) (e1:=e2) (by rw[he2];simp[Env.dst,Env.setS,Env.setB,upd];exact hl1)
  (fun t ht ⟨S,F,X,hx⟩=>Env.lt_of_v ((hsx t ht).1.trans hx)) h2 (.inr ⟨t,rfl⟩) hpl2
  (by rw[he2];show ((e1.setB i d).b i).d=d;rw[QyM hib1,if_pos rfl])
  (fun S F X hd2=>by subst hd2;exact hd.1)
 rw[<-hdst] at h3
 exact .value (v:=.pointer (some ⟨w.heap.size,0,none⟩)) (by simp[execOp,ho,Instr.box,newVar,newRow]) ⟨g2,h3⟩
theorem Z9:∀s:Sh,(YX s).length=s.size
 | .prod a b=>by simp[YX,Sh.size,Z9 a,Z9 b]
 | .int _ | .bool | .str | .list _ | .fn1 .. | .fn2 ..=>by simp[YX,Sh.size]
theorem QeL (s:Sh):(zeroV s).cells=(YX s).toArray:=by cases s<;>simp[zeroV,YX,Value.cells]
theorem QAm (s:Sh):Y4 s (zeroV s):=by
 cases s with
 | prod a b=>exact⟨_,rfl,by simpa [Sh.size] using Z9 (.prod a b)⟩
 | _=>rfl
theorem QiS (s:Sh) (k:Nat):Qk (zeroV s) k=(YX s)[k]?:=by simp[Qk,QeL]
theorem QnZ {Z:Nat->Prop} {w:World}:∀(s:Sh) (S:Nat->Prop) (c:Nat->Option Value),(∀k,k<s.size->c k=(YX s)[k]?)->RepC P s (Fl.full s) Z w S c s.dflt:=by
 intro s
 induction s with
 | int k=>intro S c h _;exact h 0 (Sh.size_pos _)
 | bool=>intro S c h _;exact h 0 (Sh.size_pos _)
 | str=>intro S c h _;exact h 0 (Sh.size_pos _)
 | list s _=>intro S c h;exact⟨none,0,0,h 0 (Sh.size_pos _),rfl,Nat.le_refl _,.inl ⟨rfl,rfl,rfl⟩⟩
 | prod a b iha ihb=>
  intro S c h
  simp only[Sh.size_prod,YX] at h
  refine⟨fun _=>true,(iha _ c fun k hk=>?_).flagx ?_,(ihb _ _ fun k hk=>?_).flagx ?_⟩
  ·rw[h k (by omega),aLu (by rw[Z9];exact hk)]
  ·simp[Fl.full,Fl.fst_mk]
  ·show c (a.size+k)=_
   rw[h _ (by omega),aLv (by rw[Z9];omega),Z9];congr 1;omega
  ·simp[Fl.full,Fl.snd_mk]
 | fn1 a r rf _ _=>intro S c h _;exact⟨.nilFunc,⟨h 0 (Sh.size_pos _),rfl⟩,fun Z' w' _ va xa y _ _ hy=>by cases hy⟩
 | fn2 a b r _ _ _=>intro S c h _;exact⟨.nilFunc,⟨h 0 (Sh.size_pos _),rfl⟩,fun Z' w' _ va xa vb xb y _ _ _ _ hy=>by cases hy⟩
theorem QvV {Z S:Nat->Prop} {w:World} (s:Sh):RepV P s (Fl.full s) Z w S (zeroV s) s.dflt:=
 ⟨QAm s,QnZ s _ _ fun k _=>QiS s k⟩
theorem QkF:∀s:Sh,okS s (Fl.full s)=true
 | .prod a b=>by simp[Fl.full,okS,Fl.fst_mk,Fl.snd_mk,QkF a,QkF b]
 | .list s=>by simp[Fl.full,okS,QkF s]
 | .int _ | .bool | .str | .fn1 .. | .fn2 ..=>by simp[Fl.full,okS,Fl.isx]
theorem QDk {t:TypeId} {ti:TI} (h:TyOk P C t ti) (hz:ti.td.zok=true) (w:World):(zeroValue t).run P w=.ok (zeroV ti.sh) w:=by
 obtain⟨i,hi,_,_,_,hzz⟩:=h.info
 have:i.zero=some (zeroV ti.sh):=by
  revert hzz hz
  cases ti.td<;>simp[TD.zok]
 simp[zeroValue,typeInfo,run_program,hi,this]
theorem QAX (hT:Q0 P C) (h:Rel P B g e a w) {frz:Bool} {o:Oper} {t:TypeId} (ho:o.op=.alloc t) {f:Eff} {e':Env} (hs:Qq C frz e o=some f) (hf:f.gives e'):QK P B a w o e':=by
 simp only[Qq,ho,aLa] at hs
 obtain⟨ti,hti,i,hdst,hs⟩:=hs
 have hty:=hT t ti hti
 cases hz:ti.td.zok with
 | false=>simp[hz] at hs
 | true=>
  rw[hz,aLB] at hs
  obtain⟨e2,hn,hs⟩:=aLa.1 hs
  simp only[aLb] at hs;subst hs;obtain rfl:e'=_:=hf
  have hr:RepV P ti.sh (Fl.full ti.sh) g.Z w (g.S (.fl 0)) (zeroV ti.sh) ti.sh.dflt:=QvV _
  obtain⟨g2,_,h2⟩:=QBB h hn (ty:=t) (k:=0) (v:=zeroV ti.sh) hr (.inl ⟨_,_,_,rfl,cells_one (QkF _) hr.2⟩)
  rw[<-hdst] at h2
  exact .value (v:=.pointer (some ⟨w.heap.size,0,none⟩)) (by simp[execOp,ho,Instr.alloc,QDk hty hz,newVar,newRow]) ⟨g2,h2⟩
end Go.Dx
namespace Go.Dx
variable {P:Program} {B:Base} {g:Gh} {e:Env} {a:Act} {w:World} {C:Ctx}
theorem QzP (hT:Q0 P C) {t:TypeId} {ti:TI} (hti:C.ty t=some ti) {k:IntKind} (hsh:ti.sh=.int k):P.underlying t=some (.int k):=by
 have hu:=(hT t ti hti).und
 revert hu
 cases htd:ti.td<;>simp only<;>intro hu
 ·rw[hsh] at hu;simp only[Sh.int.injEq] at hu;rw[hu.2];exact hu.1
 ·rw[hsh] at hu;cases hu.2
 ·rw[hsh] at hu;cases hu.2
 ·obtain⟨_,te,_,h2⟩:=hu;rw[hsh] at h2;cases h2
 ·rw[hsh] at hu;cases hu.2
 ·have:=hu.2.1.prod hu.2.2.1;rw[hsh] at this;cases this
 ·rcases hu.2 with ⟨_,_,_,h2⟩ | ⟨_,_,_,h2⟩<;>(rw[hsh] at h2;cases h2)
 ·exact hu.elim
theorem Qv6:∀(ns:List Int) (s:ByteArray),ns.foldl (fun r n=>r.push (UInt8.ofNat n.toNat)) s=⟨s.data++(ns.map fun n=>UInt8.ofNat n.toNat).toArray⟩
 | [],s=>by simp
 | n::ns,s=>by
  rw[List.foldl_cons,Qv6 ns]
  simp[ByteArray.push]
theorem Qyg (hT:Q0 P C) (h:Rel P B g e a w) {frz:Bool} {o:Oper} {s t:TypeId} {x:Operand} (ho:o.op=.convert s t x) {f:Eff} {e':Env} (hs:Qq C frz e o=some f) (hf:f.gives e'):QK P B a w o e':=by
 obtain⟨Tx,hx,_,_⟩:=QD h x
 simp only[Qq,ho,QAD,aLa] at hs
 obtain⟨si,hsi,ti,hti,y,hy,hs⟩:=hs
 by_cases hsh:y.1=si.sh
 ·simp only[hsh,decide_true,aLB] at hs
  obtain⟨S1,f1,o1,r1,_⟩:=Qc1 h hx hy
  obtain⟨ds,hds⟩:=(hT s si hsi).und_desc
  split at hs
  ·rename_i k k' n hti'
   simp only[aLb] at hs;subst hs;obtain rfl:e'=_:=hf
   have hv:=Qag o1 r1
   exact .plain h (v:=.int k (k.wrap n)) (by simp[execOp,ho,hv,convert,run_underlying hds,run_underlying (QzP hT hti hti'),Conv.intToInt]) (Qc5 _)
  ·rename_i l hti'
   simp only[aLb] at hs;subst hs;obtain rfl:e'=_:=hf
   have hv:=Qa4 o1 r1
   exact .plain h (v:=.string ⟨List.toArray l⟩) (by simp[execOp,ho,hv,convert,run_underlying hds,run_underlying (Qnu hT hti hti')]) (QhJ _)
  ·rename_i l hti'
   simp only[aLb] at hs;subst hs;obtain rfl:e'=_:=hf
   obtain⟨el,te,hu,hte,htes⟩:=Qi0 hT hsi hsh.symm
   have hue:=QzP hT hte htes
   have h1:(a.eval x).cells = #[a.eval x]:=r1.1
   have hl:∀(A:Addr) (cap:Nat),(∀j (h:j<List.length l),w.cell? (A.add j)=some (.int .u8 (l[j]'h)))->a.eval x=.slice (some A) (List.length l) cap->
     QK P B a w o (e.dst o.dst (.v .str .z (List.map (fun (b:Int)=>UInt8.ofNat b.toNat) l))):=by
    intro A cap hc hv
    have hload:(loadCells A (List.length l)).run P w=.ok (List.map (Value.int .u8) l).toArray w:=by
     have:=run_loadCells_list (P:=P) w A (List.map (Value.int .u8) l) (fun j v hv=>by
      simp only[List.getElem?_map,aLd] at hv
      obtain⟨u,hu,rfl⟩:=hv
      obtain⟨hj,rfl⟩:=aLy.1 hu
      exact hc j hj)
     simpa using this
    have hrun:=run_bytesToString w A (List.length l) cap l hload
    rw[Qv6] at hrun
    refine .plain h (v:=.string ⟨(List.map (fun (b:Int)=>UInt8.ofNat b.toNat) l).toArray⟩) ?_ (QhJ _)
    simp only[execOp,ho,hv,Sem.run_bind,run_convert_bytes_string w s t el (some A) _ cap hu hue (Qnu hT hti hti'),hrun,Result.andThen_ok]
    simp[ByteArray.empty,ByteArray.emptyWithCapacity]
    rfl
   have hz:l=[]->∀cap,a.eval x=.slice none 0 cap->QK P B a w o (e.dst o.dst (.v .str .z (List.map (fun (b:Int)=>UInt8.ofNat b.toNat) l))):=by
    intro hl0 cap hv
    subst hl0
    refine .plain h (v:=.string ⟨(List.map (fun (b:Int)=>UInt8.ofNat b.toNat) []).toArray⟩) ?_ (QhJ _)
    simp only[execOp,ho,hv,Sem.run_bind,run_convert_bytes_string w s t el none _ cap hu hue (Qnu hT hti hti')]
    simp[Conv.bytesToString,ByteArray.empty,ByteArray.emptyWithCapacity]
    rfl
   cases f1 with
   | z=>
    obtain⟨A,n,cap,h2,h3,h4,h5⟩:=r1.2
    simp only[Qk,h1] at h2;simp at h2
    cases A with
    | none=>
     have hn:n=0:=by rcases Nat.eq_zero_or_pos n with h0 | h0;exact h0;obtain⟨b,off,hA,_⟩:=h5 h0;cases hA
     subst hn
     exact hz (List.eq_nil_of_length_eq_zero h3) cap h2
    | some A=>
     refine hl A cap (fun j hj=>?_) (by rw[h2,h3])
     obtain⟨b,off,hA,_,hr⟩:=h5 (by rw[<-h3];exact Nat.lt_of_le_of_lt (Nat.zero_le _) hj)
     simp only[aLb] at hA;subst hA
     have:=hr j hj (by simp)
     rw[Qc4]
     simpa [Qe,Sh.size] using this
   | o g1=>
    obtain⟨A,n,cap,h2,h3,h4,h5⟩:=r1.2
    simp only[Qk,h1] at h2;simp at h2
    rcases h5 with ⟨rfl,rfl,rfl⟩ | ⟨b,off,arr,e1,rfl,_,_,_,t1,hr⟩
    ·exact hz (List.eq_nil_of_length_eq_zero h3) 0 h2
    ·refine hl _ cap (fun j hj=>?_) (by rw[h2,h3])
     have:=hr j hj (YN (s:=.int .u8) o1)
     rw[Qc4]
     simpa [Qe,Sh.size] using this
   | x=>simp[okS] at o1
   | p a b=>simp[okS] at o1
   | h f0 i0=>simp[okS] at o1
  ·cases hs
 ·simp[hsh] at hs
end Go.Dx
namespace Go.Dx
variable {P:Program} {B:Base} {g:Gh} {e:Env} {a:Act} {w:World} {C:Ctx}
theorem Rel.newList (h:Rel P B g e a w) (arr:Array Value) (ty:TypeId) (k:Nat) :
  ∃g',g'.pl=g.pl/\Rel P B g' e a (w.alloc (.cells arr ty))/\g'.ow w.heap.size=.fl k/\(∀j,j<w.heap.size->g'.ow j=g.ow j)/\(w.alloc (.cells arr ty)).heap[w.heap.size]? = some (.cells arr ty (0,0))/\
   (∀j,j<w.heap.size->(w.alloc (.cells arr ty)).heap[j]? = w.heap[j]?):=by
 have hheap:∀j,j<w.heap.size->(w.alloc (.cells arr ty)).heap[j]? = w.heap[j]?:=fun j hj=>by rw[Ym,if_neg (by omega)]
 let ow':Nat->Tag:=fun j=>if j=w.heap.size then .fl k else g.ow j
 refine⟨⟨ow',g.pl⟩,rfl,h.fly rfl (fun j hj _=>⟨by simp[ow',Nat.ne_of_lt hj],hheap j hj⟩) ⟨rfl,rfl,rfl,by show w.heap.size<=(w.heap.push _).size;simp,Nat.le_refl _⟩ (fun j hj=>?_),by simp[ow'],fun j hj=>by simp[ow',Nat.ne_of_lt hj],by rw[Ym,if_pos rfl],hheap⟩
 show j<(w.heap.push _).size
 rw[Array.size_push]
 by_cases hjn:j=w.heap.size
 ·omega
 ·have:g.ow j ≠ .none:=by simpa [ow',hjn] using hj
  have:=h.lt j this;omega
theorem Qxw {s:Sh} {n j k:Nat} (hj:j<n) (hk:k<s.size):(madeCells (zeroV s).cells (n * s.size))[j * s.size+k]? = (YX s)[k]?:=by
 have hlen:(zeroV s).cells.size=s.size:=by rw[QeL];simp[Z9]
 have hlt:j * s.size+k<n * s.size:=by
  have:(j+1) * s.size<=n * s.size:=aLq _ hj
  rw[Nat.add_mul,Nat.one_mul] at this;omega
 have hmod:(j * s.size+k) % s.size=k:=by
  rw[Nat.add_comm,Nat.mul_comm,Nat.add_mul_mod_self_left];exact Nat.mod_eq_of_lt hk
 rw[<-QiS s k]
 simp only[madeCells,Array.getElem?_map,Array.getElem?_range,hlt,if_pos,Option.map_some,hlen,hmod,Qk]
 have h1:k<(zeroV s).cells.size:=by rw[hlen];exact hk
 rw[Array.getElem?_eq_getElem h1]
 simp[h1]
theorem Qia (hT:Q0 P C) {t te:TypeId} {ti:TI} (hti:C.ty t=some ti) (htd:ti.td=.slice te):P.underlying t=some (.slice te)/\∃tj,C.ty te=some tj/\ti.sh=.list tj.sh:=by
 have hu:=(hT t ti hti).und
 rw[htd] at hu
 exact hu
theorem Quw (hT:Q0 P C) (h:Rel P B g e a w) {frz:Bool} {o:Oper} {t:TypeId} {x y:Operand} (ho:o.op=.makeSlice t x y) {f:Eff} {e':Env} (hs:Qq C frz e o=some f) (hf:f.gives e'):QK P B a w o e':=by
 obtain⟨g0,_,hcl,h0⟩:=h.clean
 clear h
 have h:=h0
 obtain⟨Tx,hx,_,_⟩:=QD h x
 simp only[Qq,ho,aLa] at hs
 obtain⟨ti,hti,hs⟩:=hs
 split at hs
 ·rename_i te s htd hsh
  obtain⟨hund,tj',htj',hsh'⟩:=Qia hT hti htd
  simp only[aLa] at hs
  obtain⟨tj,htj,⟨kl,n⟩,hn,⟨kc,m⟩,hm,hs⟩:=hs
  rw[htj] at htj'
  simp only[aLb] at htj';subst htj'
  rw[hsh] at hsh'
  simp only[Sh.list.injEq] at hsh'
  subst hsh'
  cases hc:tj.td.zok&&Qrs x y with
  | false=>rw[hc] at hs;cases hs
  | true=>
   rw[hc,aLB] at hs;simp only[aLb] at hs;subst hs;obtain⟨hg,rfl⟩:=hf
   simp only[aLg] at hc
   obtain⟨hz,hxy⟩:=hc
   have hxy:x=y:=by
    unfold Qrs at hxy
    split at hxy
    ·rw[aLw hxy]
    ·simp only[aLg,aLF] at hxy
     obtain⟨rfl,rfl⟩:=hxy
     rfl
    ·cases hxy
   subst hxy
   simp only[aLg,aLF] at hg
   obtain⟨hn0,hn1⟩:=hg
   have hv:=Qha h hx hn
   obtain⟨i,hi,hisz,hby,hby0,hzz⟩:=(hT te tj htj).info
   have hzero:i.zero=some (zeroV tj.sh):=by
    revert hzz hz
    cases tj.td<;>simp[TD.zok]
   have hrun:=run_make (P:=P) w t te i (zeroV tj.sh) hund hi hzero kl kl n n hn0 (Int.le_refl _) (by
    have h1:(i.bytes:Int)<=131072:=by omega
    have h2:n<=1073741824:=hn1
    have:=Int.mul_le_mul h1 h2 hn0 (by omega)
    omega) (by simp only[LIM] at hn1;omega)
   rw[hisz] at hrun
   obtain⟨g1,hpl1,h1,hN,hold,hblk,hheap⟩:=h.newList (madeCells (zeroV tj.sh).cells (n.toNat * tj.sh.size)) te 0
   have hrep:RepV P (.list tj.sh) (.o (Fl.full tj.sh)) g1.Z (w.alloc (.cells (madeCells (zeroV tj.sh).cells (n.toNat * tj.sh.size)) te)) (g1.S (.fl 0)) (.slice (some ⟨w.heap.size,0,none⟩) n.toNat n.toNat) (List.replicate n.toNat tj.sh.dflt):=by
    refine⟨rfl,_,n.toNat,n.toNat,rfl,by simp,Nat.le_refl _,.inr ⟨w.heap.size,0,_,te,rfl,hN,hblk,by rw[size_madeCells];omega,fun _=>0,fun j hj=>?_⟩⟩
    have hj':j<n.toNat:=by simpa using hj
    have hx:(List.replicate n.toNat tj.sh.dflt)[j]'hj=tj.sh.dflt:=by simp
    rw[hx]
    refine QnZ tj.sh _ _ fun k hk=>?_
    rw[<-Qxw hj' hk]
    simp only[Qe,World.cell?,hblk,Nat.zero_add]
    rfl
   obtain⟨g2,_,_,h2⟩:=h1.dst 0 o.dst (d:=.v (.list tj.sh) (.o (Fl.full tj.sh)) (List.replicate n.toNat tj.sh.dflt)) hrep
   exact .value (v:=.slice (some ⟨w.heap.size,0,none⟩) n.toNat n.toNat) (by simp[execOp,ho,hv,hrun]) ⟨g2,h2⟩
 ·cases hs
theorem QCc {t:TypeId} {ti:TI} (h:TyOk P C t ti) {xs:Array Value} {off:Nat} (hc:∀k,k<ti.sh.size->∃v,xs[off+k]? = some v/\v.cells = #[v]) :
  ∃v,(part t xs off).run P w=.ok v w/\Y4 ti.sh v/\∀k,k<ti.sh.size->Qk v k=xs[off+k]?:=by
 have hsz:off+ti.sh.size<=xs.size:=by
  obtain⟨v,hv,_⟩:=hc (ti.sh.size - 1) (by have:=Sh.size_pos ti.sh;omega)
  have:=(Array.getElem?_eq_some_iff.1 hv).1
  have:=Sh.size_pos ti.sh;omega
 unfold part
 cases hp:Q1 ti.sh with
 | true=>
  refine⟨.agg (xs.extract off (off+ti.sh.size)),by simp[QdV h,hp,run_sizeOf h],?_,fun k hk=>?_⟩
  ·revert hp;cases hsh:ti.sh with
   | prod a b=>intro _;exact⟨_,rfl,by rw[hsh] at hsz;simp only[Sh.size_prod] at hsz;simp[Array.size_extract,Sh.size_prod];omega⟩
   | _=>intro hp;simp[Q1] at hp
  ·simp only[Qk,Value.cells,Array.getElem?_extract]
   rw[if_pos (by omega)]
 | false=>
  obtain⟨v,hv,hcv⟩:=hc 0 (Sh.size_pos _)
  refine⟨v,by simp[QdV h,hp,show xs[off]? = some v by simpa using hv],?_,fun k hk=>?_⟩
  ·revert hp;cases hsh:ti.sh with
   | prod a b=>intro hp;simp[Q1] at hp
   | _=>intro _;exact hcv
  ·have hk0:k=0:=by
    revert hp hk;cases ti.sh<;>intro hp hk<;>first | (simp[Q1] at hp;done) | (simp[Sh.size] at hk;exact hk)
   subst hk0
   simp only[Qk,hcv]
   simpa using hv.symm
theorem QA2 (hT:Q0 P C) (h:Rel P B g e a w) {frz:Bool} {o:Oper} {t:TypeId} {x:Operand} {n:Nat} (ho:o.op=.field t x n) {f:Eff} {e':Env} (hs:Qq C frz e o=some f) (hf:f.gives e'):QK P B a w o e':=by
 obtain⟨Tx,hx,hxt,_⟩:=QD h x
 simp only[Qq,ho,aLa] at hs
 obtain⟨ti,hti,hs⟩:=hs
 split at hs
 ·rename_i fs htd
  have hund:=(hT t ti hti).und
  rw[htd] at hund
  obtain⟨⟨fields,u1,u2,u3⟩,h4,h5,_⟩:=hund
  obtain⟨y,hy,hs⟩:=aLa.1 hs
  cases hc:Nat.blt n fs.length&&decide (y.sh=ti.sh)&&okS y.sh y.fl with
  | false=>simp[hc] at hs
  | true=>
   rw[hc,aLB] at hs
   simp only[aLg,aLF] at hc
   obtain⟨⟨hlt,hsh⟩,hok⟩:=hc
   obtain⟨u,hu⟩:∃u,fs[n]? = some u:=⟨_,aLf (QfJ hlt)⟩
   obtain⟨tj,htj,q1,q2,q3,q4,q5,q6⟩:=QcO w n h4 hu
   obtain⟨S1,r1,_⟩:=QiU h hx hy (YN hok)
   obtain⟨z,hz,hs2⟩:=aLa.1 hs
   clear hs
   obtain⟨ysh,yfl,yx⟩:=y
   simp only at hsh hok r1 hz hs2
   subst hsh
   have hget:=RepC.get _ r1.2 (q4 yx) hz
   have hzs:z.sh=tj.sh:=by have:=ZM _ hz;rw[q3] at this;simpa using this.symm
   have hpr:Q1 ti.sh=true:=h4.prod h5
   obtain⟨cs,hv,hcs⟩:∃cs:Array Value,a.eval x=.agg cs/\cs.size=ti.sh.size:=by
    have hform:=r1.1
    revert hform hpr
    cases ti.sh<;>simp[Q1,Y4,Sh.size]
   have hxs:∀k,Qk (a.eval x) k=cs[k]?:=fun k=>by rw[hv];rfl
   obtain⟨v,hrun,hform,hcv⟩:=QCc (w:=w) (hT u.2 tj htj) (xs:=cs) (off:=u.1) (fun k hk=>by
    have:=QfM hok r1.2 (u.1+k) (by omega)
    rw[hxs] at this;exact this)
   have hfd:∃fd,fields[n]? = some fd/\fd.offset=u.1/\fd.type=u.2:=by
    rw[<-u2,List.getElem?_map,aLd] at hu
    obtain⟨fd,hfd,rfl⟩:=hu
    exact⟨fd,by simpa using hfd,rfl,rfl⟩
   obtain⟨fd,hfd,hfo,hft⟩:=hfd
   have hexec:(execOp a.eval o).run P w=.ok (.value v) w:=by
    simp[execOp,ho,hv,Instr.field,run_underlying u1,hfd,asAgg,hfo,hft,hrun]
   have hcell:∀k,k<tj.sh.size->Qk v k=Qn w ti.sh (Qk (a.eval x)) (fstep n (Nat.beq (n+1) fs.length)) k:=fun k hk=>by
    rw[hcv k hk,q5]
    show _=Qk (a.eval x) (u.1 - 0+k)
    rw[hxs,Nat.sub_zero]
   have hrv:∀{Sg:Nat->Prop},RepC P z.sh z.fl g.Z w Sg (Qn w ti.sh (Qk (a.eval x)) (fstep n (Nat.beq (n+1) fs.length))) z.x->RepV P z.sh z.fl g.Z w Sg v z.x:=fun hr=>
    ⟨hzs ▸ hform,RepC.congr (fun k hk=>hcell k (hzs ▸ hk)) hr⟩
   cases hzz:z.fl.isz with
   | true=>
    simp only[hzz,aLB,aLb] at hs2;subst hs2;obtain rfl:e'=_:=hf
    have hzf:=Qbj hzz
    have:=hrv hget
    obtain⟨zs,zf,zx⟩:=z
    simp only at hzf;subst hzf
    exact .plain h hexec (RepV.shared this)
   | false=>
    simp only[hzz,aLC] at hs2
    obtain⟨d,hd,hs2⟩:=aLa.1 hs2
    simp only[aLb] at hs2;subst hs2;obtain rfl:e'=_:=hf
    cases hxd:e.opd x with
    | bor r ver p=>
     rw[hxd] at hd hx hy
     simp only[aLb] at hd;subst hd
     have hx:Qb2 g e a w r ver p (a.eval x):=hx
     have hy:e.look r ver p=some ⟨ti.sh,yfl,yx⟩:=hy
     obtain⟨hver,S,F,X,hdr,hg⟩:=h.look hy
     refine .value hexec (Zc h o.dst rfl (T:=Tx) ⟨by rw[QBq];exact hx.1,fun _ S' F' X' hdr'=>?_⟩)
     rw[hdr] at hdr'
     obtain⟨rfl,rfl,hX⟩:=Yb hdr'
     subst hX
     obtain⟨hpo,hcl⟩:=hx.2 hver S F X hdr
     refine⟨QmS p (ZM p hg) hpo q4,fun hn s2 hs3=>?_⟩
     rw[QrT p (ZM p hg),q3] at hs3
     simp only[aLb] at hs3;subst hs3
     refine⟨hform,fun k hk=>?_⟩
     obtain⟨_,hcl2⟩:=hcl (QiL p hn) _ (ZM p hg)
     rw[QgS p (ZM p hg),hcv k hk,q5]
     show _=Qn w S (Qm g a w r) p (u.1 - 0+k)
     rw[Nat.sub_zero,<-hcl2 _ (by simp only;omega),hxs]
    | v s' f' x'=>
     rw[hxd] at hd hx hy
     simp only[Env.val,aLb,Dv.mk.injEq] at hy
     obtain⟨rfl,rfl,hX⟩:=hy
     have hX:=eq_of_heq hX
     subst hX
     simp only at hd
     cases hsl:x.slot with
     | none=>rw[hsl] at hd;simp at hd
     | some t'=>
      rw[hsl] at hd
      simp only[Option.map_some,aLb] at hd;subst hd
      obtain⟨h1,h2,h3⟩:=hxt t' hsl
      rw[hxd] at h1
      refine .value hexec (Zc h o.dst rfl (T:=Tx) ⟨by simp only[Cel.stampB,Qof,aLB];exact Nat.le_refl _,fun _ S' F' X' hdr'=>?_⟩)
      rw[show (e.root (.s t')).d=_ from h1] at hdr'
      obtain⟨rfl,rfl,hX⟩:=Yb hdr'
      subst hX
      refine⟨q4 _,fun _ s2 hs3=>?_⟩
      rw[q3] at hs3
      simp only[aLb] at hs3;subst hs3
      refine⟨hform,fun k hk=>?_⟩
      rw[hcell k hk]
      simp only[Qm,h2]
    | dead=>rw[hxd] at hy;simp[Env.val] at hy
    | und=>rw[hxd] at hy;simp[Env.val] at hy
    | nil=>rw[hxd] at hy;simp[Env.val] at hy
    | loc r ver p=>rw[hxd] at hy;simp[Env.val] at hy
    | rp s x=>rw[hxd] at hy;simp[Env.val] at hy
    | rpp s x=>rw[hxd] at hy;simp[Env.val] at hy
    | clos j c=>rw[hxd] at hy;simp[Env.val] at hy
    | tup l=>rw[hxd] at hy;simp[Env.val] at hy
 ·cases hs
end Go.Dx
namespace Go.Dx
variable {P:Program} {B:Base} {g:Gh} {e:Env} {a:Act} {w:World} {C:Ctx}
theorem QyW (w:World) {at_:Array TypeId} (t ty e:TypeId) (hat0:at_[0]? = some t) (hat1:at_[1]? = some t) (i:TypeInfo) (ht:P.underlying t=some (.slice e)) (hi:P.info? e=some i)
  (b off sLen sCap:Nat) (cur:Array Value) (te:TypeId) (hg:w.heap[b]? = some (.cells cur te (0,0))) (v2:Value) (m:Nat) (hl2:Builtin.lenOf v2=pure m) (news:List Value) (hf:(Builtin.firstCells i.size m v2).run P w=.ok news.toArray w)
  (h1:∀u ∈ news,u.oneCell'=true) (hroom:sLen+m<=sCap) (hfit:off+sLen * i.size+news.length<=cur.size) :
  (Builtin.append_ at_ ty #[.slice (some ⟨b,off,none⟩) sLen sCap,v2]).run P w =
   .ok (.slice (some ⟨b,off,none⟩) (sLen+m) sCap) (w.setRow b (cur.toList.take (off+sLen * i.size)++news++cur.toList.drop (off+sLen * i.size+news.length)).toArray):=by
 have hst:=run_storeCells_at (P:=P) b (off+sLen * i.size) te news 0 cur w hg (by simpa using hfit) h1
 simp only[Nat.add_zero] at hst
 simp[Builtin.append_,hat0,hat1,run_underlying ht,sizeOf,typeInfo,hi,hl2,hroom,hf,Qc4,hst]
theorem QyT (w:World) {at_:Array TypeId} (t ty e:TypeId) (hat0:at_[0]? = some t) (hat1:at_[1]? = some t) (i:TypeInfo) (z:Value) (ht:P.underlying t=some (.slice e)) (hi:P.info? e=some i) (hz:i.zero=some z)
  (A:Option Addr) (sLen sCap:Nat) (olds:List Value) (hfo:(Builtin.firstCells i.size sLen (.slice A sLen sCap)).run P w.drew=.ok olds.toArray w.drew)
  (v2:Value) (m:Nat) (hl2:Builtin.lenOf v2=pure m) (news:List Value) (hf:(Builtin.firstCells i.size m v2).run P w.drew=.ok news.toArray w.drew)
  (hg:sCap<sLen+m) (h63:((sLen+m:Nat):Int)<=9223372036854775807) (hfit:Builtin.nextslicecap (sLen+m) sCap * i.bytes<=281474976710656) :
  (Builtin.append_ at_ ty #[.slice A sLen sCap,v2]).run P w =
   .ok (.slice (some ⟨w.heap.size,0,none⟩) (sLen+m) (grownCap w (sLen+m) sCap e))
    (w.drew.alloc (.cells (olds++news++(Builtin.zeroCells z.cells (grownCap w (sLen+m) sCap e - (sLen+m))).toList).toArray e)):=by
 have hn:¬(sLen+m<=sCap):=by omega
 have h63':¬(9223372036854775807<((sLen:Int)+(m:Int))):=by omega
 have h48':¬(281474976710656<Builtin.nextslicecap (sLen+m) sCap * i.bytes):=by omega
 simp[Builtin.append_,hat0,hat1,run_underlying ht,sizeOf,typeInfo,zeroValue,hi,hz,hl2,hn,h63',h48',Question.forced,hf,hfo,newRow,grownCap]
 congr 2
 apply Array.ext'
 simp
theorem Qse {s:Sh} {F:Fl} (hok:okS s F=true) {Z:Nat->Prop} {Sx:Nat->Nat->Prop} {b off m cap:Nat} {ys:List s.den} (hm:ys.length=m) (hr:∀j (h:j<ys.length),RepC P s F Z w (Sx j) (Qe w b (off+j * s.size)) (ys[j]'h)) :
  ∃cs:List Value,cs.length=m * s.size/\(∀u ∈ cs,u.oneCell'=true)/\(∀k,k<m * s.size->cs[k]? = Qe w b off k)/\∀w':World,w'.heap=w.heap->(Builtin.firstCells s.size m (.slice (some ⟨b,off,none⟩) m cap)).run P w'=.ok cs.toArray w':=by
 let cs:List Value:=(List.range (m * s.size)).map fun k=>(Qe w b off k).getD undef
 have hlen:cs.length=m * s.size:=by simp[cs]
 have hone:∀k,k<m * s.size->∃u,Qe w b off k=some u/\u.oneCell'=true:=by
  intro k hk
  have hpos:=Sh.size_pos s
  have hj:k / s.size<ys.length:=by rw[hm];exact Nat.div_lt_of_lt_mul (by rw[Nat.mul_comm];exact hk)
  obtain⟨u,hu,h1⟩:=cells_one hok (hr _ hj) (k % s.size) (Nat.mod_lt _ hpos)
  refine⟨u,?_,h1⟩
  rw[<-hu]
  simp only[Qe]
  congr 2
  have:=Nat.div_add_mod k s.size
  rw[Nat.mul_comm] at this
  omega
 have hget:∀k,k<m * s.size->cs[k]? = Qe w b off k:=by
  intro k hk
  obtain⟨u,hu,_⟩:=hone k hk
  simp[cs,List.getElem?_range hk,hu]
 refine⟨cs,hlen,fun u hu=>?_,hget,fun w' hw'=>?_⟩
 ·obtain⟨k,hk,rfl⟩:=List.getElem_of_mem hu
  have:=hget k (by omega)
  rw[aLf hk] at this
  obtain⟨u,hu,h1⟩:=hone k (by omega)
  rw[hu] at this
  simp only[aLb] at this
  rw[this];exact h1
 ·refine run_firstCells_some (P:=P) w' s.size m ⟨b,off,none⟩ m cap cs hlen (fun j v hv=>?_)
  have hj:j<m * s.size:=by have:=(aLy.1 hv).1;omega
  rw[hget j hj] at hv
  rw[Qc4,<-hv]
  simp[Qe,World.cell?,hw']
theorem QhZ (z:Array Value) (n:Nat):(Builtin.zeroCells z n).size=n * z.size:=by simp[Builtin.zeroCells]
theorem Qzs (hT:Q0 P C) (h:Rel P B g e a w) {t te:TypeId} {ti tj:TI} (hti:C.ty t=some ti) (htd:ti.td=.slice te) (htj:C.ty te=some tj) (hzok:tj.td.zok=true) {ty:TypeId} {F:Fl} (hok:okS tj.sh F=true)
  {at_:Array TypeId} (hat0:at_[0]? = some t) (hat1:at_[1]? = some t) {v1:Value} {xs:List tj.sh.den} (hx:RepV P (.list tj.sh) (.o F) g.Z w (g.S (.fl 0)) v1 xs) {A2:Option Addr} {c2:Nat} {ys:List tj.sh.den}
  (hy:0<ys.length->∃b2 off2,A2=some ⟨b2,off2,none⟩/\∃t2:Nat->Nat,∀j (hj:j<ys.length),RepC P tj.sh F g.Z w (fun i=>g.ow i=.fl 1/\t2 i=j) (Qe w b2 (off2+j * tj.sh.size)) (ys[j]'hj))
  (hlim:xs.length+ys.length<=LIM) :
  ∃v' w' g',(Builtin.append_ at_ ty #[v1,.slice A2 ys.length c2]).run P w=.ok v' w'/\g'.pl=g.pl/\Rel P B g' e a w'/\RepV P (.list tj.sh) (.o F) g'.Z w' (g'.S (.fl 0)) v' (xs++ys):=by
 obtain⟨hund,_⟩:=Qia hT hti htd
 obtain⟨i,hi,hisz,hby,hby0,hzz⟩:=(hT te tj htj).info
 have hzero:i.zero=some (zeroV tj.sh):=by
  revert hzz hzok
  cases tj.td<;>simp[TD.zok]
 have hpos:=Sh.size_pos tj.sh
 have h1:v1.cells = #[v1]:=hx.1
 obtain⟨A,n,cap,e1,e2,e3,e4⟩:=hx.2
 simp only[Qk,h1] at e1;simp at e1;subst e1
 have e2:xs.length=n:=e2
 have hnew:∃news:List Value,news.length=ys.length * tj.sh.size/\(∀u ∈ news,u.oneCell'=true)/\(∀w':World,w'.heap=w.heap->(Builtin.firstCells tj.sh.size ys.length (.slice A2 ys.length c2)).run P w'=.ok news.toArray w')/\
   (0<ys.length->∃t2:Nat->Nat,∀j (hj:j<ys.length),RepC P tj.sh F g.Z w (fun i=>g.ow i=.fl 1/\t2 i=j) (fun k=>news[j * tj.sh.size+k]?) (ys[j]'hj)):=by
  rcases Nat.eq_zero_or_pos ys.length with h0 | h0
  ·refine⟨[],by simp[h0],fun u hu=>(by cases hu),fun w' _=>?_,fun h=>by omega⟩
   rw[h0]
   cases A2 with
   | none=>exact run_firstCells_none w' _ _ _ _
   | some ad=>exact run_firstCells_some w' _ 0 ad 0 c2 [] (by simp) (fun j v hv=>by simp at hv)
  ·obtain⟨b2,off2,rfl,t2,hr⟩:=hy h0
   obtain⟨cs,c1,c3,c4,c5⟩:=Qse hok (cap:=c2) rfl hr
   refine⟨cs,c1,c3,c5,fun _=>⟨t2,fun j hj=>RepC.congr (fun k hk=>?_) (hr j hj)⟩⟩
   have hlt:j * tj.sh.size+k<ys.length * tj.sh.size:=by
    have:(j+1) * tj.sh.size<=ys.length * tj.sh.size:=aLq _ hj
    rw[Nat.add_mul,Nat.one_mul] at this;omega
   rw[c4 _ hlt]
   simp[Qe,Nat.add_assoc]
 obtain⟨news,n1,n2,n3,n4⟩:=hnew
 have hbytes:(n+ys.length) * i.bytes<=140737488355328:=by
  have:(n+ys.length) * i.bytes<=1073741824 * 131072:=Nat.mul_le_mul (by rw[<-e2];exact hlim) hby
  omega
 have hn30:n+ys.length<=1073741824:=by rw[<-e2];exact hlim
 have holdc:∀(b off:Nat) (Sx:Nat->Nat->Prop),A=some ⟨b,off,none⟩->(∀j (h:j<xs.length),RepC P tj.sh F g.Z w (Sx j) (Qe w b (off+j * tj.sh.size)) (xs[j]'h))->
   ∃cs:List Value,cs.length=n * tj.sh.size/\(∀k,k<n * tj.sh.size->cs[k]? = Qe w b off k)/\∀w':World,w'.heap=w.heap->(Builtin.firstCells tj.sh.size n (.slice A n cap)).run P w'=.ok cs.toArray w':=by
  rintro b off Sx rfl hr
  obtain⟨cs,c1,_,c4,c5⟩:=Qse hok (cap:=cap) e2 hr
  exact⟨cs,c1,c4,c5⟩
 by_cases hroom:n+ys.length<=cap
 ·rcases e4 with ⟨rfl,rfl,rfl⟩ | ⟨b,off,arr,te',rfl,hS,hw,hsz,t1,hr⟩
  ·
   have h0:ys.length=0:=by omega
   have hys:ys=[]:=List.eq_nil_of_length_eq_zero h0
   subst hys
   have hxs:xs=[]:=List.eq_nil_of_length_eq_zero e2
   subst hxs
   have hf:=n3 w rfl
   rw[aLj,<-hisz] at hf
   refine⟨.slice none 0 0,w,g,?_,rfl,h,hx⟩
   have hnil:news=[]:=List.eq_nil_of_length_eq_zero (by simpa using n1)
   subst hnil
   simp[Builtin.append_,hat0,hat1,run_underlying hund,sizeOf,typeInfo,hi,Builtin.lenOf,hf]
  ·
   have hfit:off+n * i.size+news.length<=arr.size:=by
    rw[hisz,n1]
    have:(n+ys.length) * tj.sh.size<=cap * tj.sh.size:=aLq _ hroom
    rw[Nat.add_mul] at this;omega
   have hf:=n3 w rfl
   rw[<-hisz] at hf
   have hrun:=QyW w t ty te hat0 hat1 i hund hi b off n cap arr te' hw (.slice A2 ys.length c2) ys.length rfl news hf n2 hroom hfit
   rw[hisz] at hrun hfit
   generalize harr:(arr.toList.take (off+n * tj.sh.size)++news++arr.toList.drop (off+n * tj.sh.size+news.length)).toArray=arr' at hrun
   have harr1:arr'.size=arr.size:=by subst harr;simp;omega
   have harr2:∀k,k<off+n * tj.sh.size->arr'[k]? = arr[k]?:=by
    intro k hk;subst harr
    simp only[List.getElem?_toArray]
    rw[List.append_assoc,aLu (by simp;omega),List.getElem?_take,if_pos hk];simp
   have harr3:∀k,k<news.length->arr'[off+n * tj.sh.size+k]? = news[k]?:=by
    intro k hk;subst harr
    simp only[List.getElem?_toArray]
    rw[List.append_assoc,aLv (by simp;omega),aLu (by simp;omega)]
    simp only[aLn,Array.length_toList]
    congr 1;omega
   have hb0:g.ow b=.fl 0:=hS
   have hblk:=setRow_heap w b arr arr' te' (0,0) hw
   have hother:∀j,j ≠ b->(w.setRow b arr').heap[j]? = w.heap[j]?:=fun j hj=>setRow_other w b j arr' hj
   let ow':Nat->Tag:=fun j=>if g.ow j=.fl 1 then .fl 0 else g.ow j
   have k0:∀j,g.ow j=.fl 0->ow' j=.fl 0:=fun j hj=>by simp[ow',hj]
   have k1:∀j,g.ow j=.fl 1->ow' j=.fl 0:=fun j hj=>by simp[ow',hj]
   have kz:∀j,g.ow j=.fz->ow' j=.fz:=fun j hj=>by simp[ow',hj]
   have hrel:Rel P B ⟨ow',g.pl⟩ e a (w.setRow b arr'):=h.fly rfl (fun j _ hm=>⟨by simp[ow',hm 1],hother j fun hjb=>hm 0 (hjb ▸ hb0)⟩) ⟨rfl,rfl,rfl,by simp,Nat.le_refl _⟩ (fun j hj=>by
    rw[setRow_size]
    refine h.lt j fun h0=>hj ?_
    simp[ow',h0])
   refine⟨_,_,⟨ow',g.pl⟩,hrun,rfl,hrel,rfl,some ⟨b,off,none⟩,n+ys.length,cap,rfl,by show (xs++ys).length=_;simp[e2],hroom,.inr ⟨b,off,arr',te',rfl,k0 b hb0,hblk,by omega,?_⟩⟩
   obtain⟨t2,hr2⟩:∃t2:Nat->Nat,∀j (hj:j<ys.length),RepC P tj.sh F g.Z w (fun i=>g.ow i=.fl 1/\t2 i=j) (fun k=>news[j * tj.sh.size+k]?) (ys[j]'hj):=by
    rcases Nat.eq_zero_or_pos ys.length with h0 | h0
    ·exact⟨fun _=>0,fun j hj=>by omega⟩
    ·exact n4 h0
   refine⟨fun j=>if g.ow j=.fl 1 then n+t2 j else t1 j,fun j hj=>?_⟩
   have hj':j<(xs++ys).length:=hj
   by_cases hjn:j<xs.length
   ·have hge:(xs++ys)[j]'hj=xs[j]'hjn:=List.getElem_append_left hjn
    rw[hge]
    refine RepC.congr (fun k hk=>?_) ((hr j hjn).frame (w':=w.setRow b arr') kz (fun m hm=>⟨k0 m hm.1,hm.2.1,by
     have:g.ow m=.fl 0:=hm.1
     simp[this,hm.2.2]⟩) (fun m hm=>hother m ?_))
    ·have hlt:(j+1) * tj.sh.size<=n * tj.sh.size:=aLq _ (by omega)
     rw[Nat.add_mul,Nat.one_mul] at hlt
     simp only[Qe,World.cell?,hblk,hw]
     exact harr2 _ (by omega)
    ·rcases hm with hm | hm
     ·exact hm.2.1
     ·rintro rfl;rw[show g.ow m=.fz from hm] at hb0;cases hb0
   ·have hjl:j - xs.length<ys.length:=by simp at hj';omega
    have hge:(xs++ys)[j]'hj=ys[j - xs.length]'hjl:=List.getElem_append_right (by omega)
    rw[hge]
    refine RepC.congr (fun k hk=>?_) ((hr2 _ hjl).frame (w':=w.setRow b arr') kz (fun m hm=>⟨k1 m hm.1,(fun hmb=>by rw[hmb,hb0] at hm;cases hm.1),by simp[hm.1,hm.2,e2];omega⟩) (fun m hm=>hother m ?_))
    ·have hlt:(j - xs.length+1) * tj.sh.size<=ys.length * tj.sh.size:=aLq _ (by omega)
     rw[Nat.add_mul,Nat.one_mul] at hlt
     simp only[Qe,World.cell?,hblk]
     have hsplit:j * tj.sh.size=n * tj.sh.size+(j - xs.length) * tj.sh.size:=by rw[<-Nat.add_mul];congr 1;omega
     rw[show off+j * tj.sh.size+k=off+n * tj.sh.size+((j - xs.length) * tj.sh.size+k) by omega]
     exact harr3 _ (by omega)
    ·rcases hm with hm | hm
     ·rintro rfl;rw[hm.1] at hb0;cases hb0
     ·rintro rfl;rw[show g.ow m=.fz from hm] at hb0;cases hb0
 ·
  have hg:cap<n+ys.length:=by omega
  have hfit:=growslice_fits (need:=n+ys.length) (old:=cap) (bytes:=i.bytes) hg hbytes
  have hsome:∃olds:List Value,olds.length=n * tj.sh.size/\(∀w':World,w'.heap=w.heap->(Builtin.firstCells tj.sh.size n (.slice A n cap)).run P w'=.ok olds.toArray w')/\
    ∃t1:Nat->Nat,∀j (hj:j<xs.length),RepC P tj.sh F g.Z w (fun i=>g.ow i=.fl 0/\t1 i=j) (fun k=>olds[j * tj.sh.size+k]?) (xs[j]'hj):=by
   rcases e4 with ⟨rfl,rfl,rfl⟩ | ⟨b,off,arr,te',rfl,hS,hw,hsz,t1,hr⟩
   ·exact⟨[],by simp,fun w' _=>run_firstCells_none w' _ _ _ _,fun _=>0,fun j hj=>by omega⟩
   ·obtain⟨cs,c1,c4,c5⟩:=holdc b off _ rfl hr
    refine⟨cs,c1,c5,t1,fun j hj=>RepC.congr (fun k hk=>?_) ((hr j hj).mono (fun _ h=>h) (fun m hm=>⟨hm.1,hm.2.2⟩))⟩
    have hlt:(j+1) * tj.sh.size<=n * tj.sh.size:=aLq _ (by omega)
    rw[Nat.add_mul,Nat.one_mul] at hlt
    rw[c4 _ (by omega)]
    simp[Qe,Nat.add_assoc]
  obtain⟨olds,o1,o2,t1,hr⟩:=hsome
  have hfo:=o2 w.drew rfl
  have hfn:=n3 w.drew rfl
  rw[<-hisz] at hfo hfn
  have hrun:=QyT w t ty te hat0 hat1 i (zeroV tj.sh) hund hi hzero A n cap olds hfo (.slice A2 ys.length c2) ys.length rfl news hfn hg (by omega) hfit
  have hge:=grownCap_ge w (n+ys.length) cap te
  generalize harr:(olds++news++(Builtin.zeroCells (zeroV tj.sh).cells (grownCap w (n+ys.length) cap te - (n+ys.length))).toList).toArray=arr' at hrun
  generalize grownCap w (n+ys.length) cap te=gc at hrun hge harr
  have hzsz:(zeroV tj.sh).cells.size=tj.sh.size:=by rw[QeL];simp[Z9]
  have harr1:arr'.size=gc * tj.sh.size:=by
   subst harr
   simp only[List.size_toArray,aLi,Array.length_toList,QhZ,hzsz,o1,n1,<-Nat.add_mul]
   congr 1;omega
  have harr2:∀k,k<n * tj.sh.size->arr'[k]? = olds[k]?:=by
   intro k hk;subst harr
   simp only[List.getElem?_toArray]
   rw[List.append_assoc,aLu (by omega)]
  have harr3:∀k,k<news.length->arr'[n * tj.sh.size+k]? = news[k]?:=by
   intro k hk;subst harr
   simp only[List.getElem?_toArray]
   rw[List.append_assoc,aLv (by omega),aLu (by omega)]
   congr 1;omega
  have hN:∀j,g.ow j ≠ .none->j ≠ w.heap.size:=fun j hj=>Nat.ne_of_lt (h.lt j hj)
  let ow':Nat->Tag:=fun j=>if j=w.heap.size then .fl 0 else if g.ow j=.fl 1 then .fl 0 else g.ow j
  have k0:∀j,g.ow j=.fl 0->ow' j=.fl 0:=fun j hj=>by simp[ow',hj]
  have k1:∀j,g.ow j=.fl 1->ow' j=.fl 0:=fun j hj=>by simp[ow',hj]
  have kz:∀j,g.ow j=.fz->ow' j=.fz:=fun j hj=>by simp[ow',hj,hN j (by rw[hj];simp)]
  have hheap:∀j,j ≠ w.heap.size->(w.drew.alloc (.cells arr' te)).heap[j]? = w.heap[j]?:=fun j hj=>by
   rw[Ym,if_neg (by simpa using hj)];rfl
  have hblk:(w.drew.alloc (.cells arr' te)).heap[w.heap.size]? = some (.cells arr' te (0,0)):=by rw[Ym,if_pos (by simp)]
  have hrel:Rel P B ⟨ow',g.pl⟩ e a (w.drew.alloc (.cells arr' te)):=h.fly rfl (fun j hj hm=>⟨by simp[ow',hm 1,Nat.ne_of_lt hj],hheap j (Nat.ne_of_lt hj)⟩) ⟨rfl,rfl,rfl,by show w.heap.size<=(w.heap.push _).size;simp,Nat.le_succ _⟩ (fun j hj=>by
   show j<(w.heap.push _).size
   rw[Array.size_push]
   by_cases hjN:j=w.heap.size
   ·omega
   ·have:g.ow j ≠ .none:=fun h0=>hj (by simp[ow',h0,hjN])
    have:=h.lt j this;omega)
  refine⟨_,_,⟨ow',g.pl⟩,hrun,rfl,hrel,rfl,some ⟨w.heap.size,0,none⟩,n+ys.length,gc,rfl,by show (xs++ys).length=_;simp[e2],hge,.inr ⟨w.heap.size,0,arr',te,rfl,by show ow' w.heap.size=.fl 0;simp[ow'],hblk,by omega,?_⟩⟩
  obtain⟨t2,hr2⟩:∃t2:Nat->Nat,∀j (hj:j<ys.length),RepC P tj.sh F g.Z w (fun i=>g.ow i=.fl 1/\t2 i=j) (fun k=>news[j * tj.sh.size+k]?) (ys[j]'hj):=by
   rcases Nat.eq_zero_or_pos ys.length with h0 | h0
   ·exact⟨fun _=>0,fun j hj=>by omega⟩
   ·exact n4 h0
  refine⟨fun j=>if g.ow j=.fl 1 then n+t2 j else t1 j,fun j hj=>?_⟩
  have hj':j<(xs++ys).length:=hj
  have hcell:∀k,Qe (w.drew.alloc (.cells arr' te)) w.heap.size (0+j * tj.sh.size) k=arr'[j * tj.sh.size+k]?:=fun k=>by
   simp only[Qe,World.cell?,hblk,Nat.zero_add];rfl
  by_cases hjn:j<xs.length
  ·have hgx:(xs++ys)[j]'hj=xs[j]'hjn:=List.getElem_append_left hjn
   rw[hgx]
   refine RepC.congr (fun k hk=>?_) ((hr j hjn).frame (w':=w.drew.alloc (.cells arr' te)) kz (fun m hm=>⟨k0 m hm.1,hN m (by rw[hm.1];simp),by simp[hm.1,hm.2]⟩) (fun m hm=>hheap m (hN m ?_)))
   ·have hlt:(j+1) * tj.sh.size<=n * tj.sh.size:=aLq _ (by omega)
    rw[Nat.add_mul,Nat.one_mul] at hlt
    rw[hcell,harr2 _ (by omega)]
   ·rcases hm with hm | hm
    ·rw[hm.1];simp
    ·rw[show g.ow m=.fz from hm];simp
  ·have hjl:j - xs.length<ys.length:=by simp at hj';omega
   have hgx:(xs++ys)[j]'hj=ys[j - xs.length]'hjl:=List.getElem_append_right (by omega)
   rw[hgx]
   refine RepC.congr (fun k hk=>?_) ((hr2 _ hjl).frame (w':=w.drew.alloc (.cells arr' te)) kz (fun m hm=>⟨k1 m hm.1,hN m (by rw[hm.1];simp),by simp[hm.1,hm.2,e2];omega⟩) (fun m hm=>hheap m (hN m ?_)))
   ·have hlt:(j - xs.length+1) * tj.sh.size<=ys.length * tj.sh.size:=aLq _ (by omega)
    rw[Nat.add_mul,Nat.one_mul] at hlt
    have hsplit:j * tj.sh.size=n * tj.sh.size+(j - xs.length) * tj.sh.size:=by rw[<-Nat.add_mul];congr 1;omega
    rw[hcell,show j * tj.sh.size+k=n * tj.sh.size+((j - xs.length) * tj.sh.size+k) by omega]
    exact harr3 _ (by omega)
   ·rcases hm with hm | hm
    ·rw[hm.1];simp
    ·rw[show g.ow m=.fz from hm];simp
end Go.Dx
namespace Go.Dx
variable {P:Program} {B:Base} {g:Gh} {e:Env} {a:Act} {w:World} {C:Ctx}
theorem QB7 {s:Sh} {F:Fl} {Z:Nat->Prop} {c:Nat->Option Value} {x:s.den} (hw:Qr s .z F=true) (h:RepC P s .z Z w QS c x) {S:Nat->Prop}:RepC P s F Z w S c x:=by
 obtain⟨T,hT,hr⟩:=RepC.weak hw h
 exact hr.mono (fun i hi=>hi.elim id (fun h=>(hT i h).elim)) (fun i hi=>hi.1.elim)
theorem step_append (hT:Q0 P C) (h:Rel P B g e a w) {frz:Bool} {o:Oper} {x y:Operand} {at_:Array TypeId} (ho:o.op=.call { callee:=.builtin .append,args:=#[x,y],argTypes:=at_ }) {f:Eff} {e':Env} (hs:Qq C frz e o=some f) (hf:f.gives e'):QK P B a w o e':=by
 obtain⟨g0,_,hcl,h0⟩:=h.clean
 clear h
 simp only[Qq,ho,QiD,aLa] at hs
 obtain⟨t0,hat0,t1,hat1,ti,hti,hs⟩:=hs
 split at hs
 ·rename_i te s htd hsh
  obtain⟨hund,tj',htj',hsh'⟩:=Qia hT hti htd
  replace hs:=aLa.1 hs;obtain⟨tj,htj,hs⟩:=hs
  rw[htj] at htj'
  simp only[aLb] at htj';subst htj'
  rw[hsh] at hsh'
  simp only[Sh.list.injEq] at hsh'
  subst hsh'
  cases hc:Nat.beq t1 t0&&tj.td.zok with
  | false=>rw[hc] at hs;cases hs
  | true=>
   rw[hc,aLB] at hs
   simp only[aLg] at hc
   obtain⟨htt,hzok⟩:=hc
   have htt:=aLw htt
   subst htt
   replace hs:=aLa.1 hs;obtain⟨⟨e1,y1⟩,htake,hs⟩:=hs
   replace hs:=aLa.1 hs;obtain⟨xs,hxs,hs⟩:=hs
   obtain⟨Tx,hx,hxt,_⟩:=QD h0 x
   obtain⟨g1,hfl1,h1,hr1⟩:=QeQ h0 0 (fun i=>hcl i 0) hx hxt htake
   have hsx:=ZU hxs
   obtain⟨ysh,yfl,yx⟩:=y1
   simp only[Sigma.mk.injEq] at hsx
   obtain⟨rfl,hsx⟩:=hsx
   have hsx:=eq_of_heq hsx
   subst hsx
   simp only at hs hr1
   split at hs
   ·rename_i f0
    replace hs:=aLa.1 hs;obtain⟨⟨e2,fy,ys⟩,hsec,hs⟩:=hs
    simp only at hs
    cases hw:Qr tj.sh f0 (f0.meet fy)&&Qr tj.sh fy (f0.meet fy)&&okS tj.sh (f0.meet fy) with
    | false=>rw[hw] at hs;cases hs
    | true=>
     rw[hw,aLB] at hs
     simp only[aLb] at hs;subst hs;obtain⟨hlim,rfl⟩:=hf
     simp only[aLg] at hw
     obtain⟨⟨hw1,hw2⟩,hok⟩:=hw
     generalize f0.meet fy=F at hw1 hw2 hok ⊢
     have hlim:List.length yx+List.length ys<=LIM:=by simpa using hlim
     obtain⟨Ty,hy,hyt,_⟩:=QD h1 y
     have hno1:∀i,g1.ow i ≠ .fl 1:=fun i=>by
      rcases hfl1.ow i with h2 | ⟨h2,_⟩
      ·rw[h2];exact hcl i 1
      ·rw[h2];simp
     have key:∃g2,g2.pl=g1.pl/\Rel P B g2 e2 a w/\RepV P (.list tj.sh) (.o f0) g2.Z w (g2.S (.fl 0)) (a.eval x) yx/\∃A2 c2,a.eval y=.slice A2 (List.length ys) c2/\
       (0<List.length ys->∃b2 off2,A2=some ⟨b2,off2,none⟩/\∃t2:Nat->Nat,∀j (hj:j<List.length ys),RepC P tj.sh F g2.Z w (fun i=>g2.ow i=.fl 1/\t2 i=j) (Qe w b2 (off2+j * tj.sh.size)) (ys[j]'hj)):=by
      have shared:∀{u:Dv} {ff:Fl},e1.val (e1.opd y)=some u->∀zs,asS ⟨u.sh,u.x⟩ (.list tj.sh)=some zs->(u.fl=.z\/u.fl=.o .z)->fy=.z->ys=zs->e2=e1->∃g2,g2.pl=g1.pl/\Rel P B g2 e2 a w/\RepV P (.list tj.sh) (.o f0) g2.Z w (g2.S (.fl 0)) (a.eval x) yx/\∃A2 c2,a.eval y=.slice A2 (List.length ys) c2/\
       (0<List.length ys->∃b2 off2,A2=some ⟨b2,off2,none⟩/\∃t2:Nat->Nat,∀j (hj:j<List.length ys),RepC P tj.sh F g2.Z w (fun i=>g2.ow i=.fl 1/\t2 i=j) (Qe w b2 (off2+j * tj.sh.size)) (ys[j]'hj)):=by
       rintro ⟨ush,ufl,ux⟩ ff hv zs hzs hufl rfl rfl rfl
       have hsz:=ZU hzs
       simp only[Sigma.mk.injEq] at hsz
       obtain⟨rfl,hsz⟩:=hsz
       have hsz:=eq_of_heq hsz
       subst hsz
       simp only at hufl
       obtain⟨S2,r2,_⟩:=QiU h1 hy hv (by rcases hufl with hh | hh<;>rw[hh]<;>simp)
       refine⟨g1,rfl,h1,hr1,?_⟩
       have hc1:(a.eval y).cells = #[a.eval y]:=r2.1
       rcases hufl with rfl | rfl
       ·obtain⟨A,n,cap,q1,q2,q3,q4⟩:=r2.2
        simp only[Qk,hc1] at q1;simp at q1
        have q2:List.length ux=n:=q2
        refine⟨A,cap,by rw[q1,q2],fun hn=>?_⟩
        obtain⟨b,off,hA,_,hr⟩:=q4 (by rw[<-q2];exact hn)
        exact⟨b,off,hA,fun _=>0,fun j hj=>QB7 hw2 (hr j hj)⟩
       ·obtain⟨A,n,cap,q1,q2,q3,q4⟩:=r2.2
        simp only[Qk,hc1] at q1;simp at q1
        have q2:List.length ux=n:=q2
        refine⟨A,cap,by rw[q1,q2],fun hn=>?_⟩
        rcases q4 with ⟨_,q5,_⟩ | ⟨b,off,arr,e3,hA,_,_,_,t3,hr⟩
        ·omega
        ·exact⟨b,off,hA,fun _=>0,fun j hj=>QB7 hw2 (RepC.shared (hr j hj))⟩
      split at hsec
      ·rename_i hyd
       simp only[aLb,aLe] at hsec
       obtain⟨rfl,rfl,rfl⟩:=hsec
       rw[hyd] at hy
       exact⟨g1,rfl,h1,hr1,none,0,hy,fun hn=>by simp at hn⟩
      ·replace hsec:=aLa.1 hsec;obtain⟨u,hu,hsec⟩:=hsec
       replace hsec:=aLa.1 hsec;obtain⟨zs,hzs,hsec⟩:=hsec
       split at hsec
       ·rename_i huf
        simp only[aLb,aLe] at hsec
        obtain⟨rfl,rfl,rfl⟩:=hsec
        exact shared (ff:=.z) hu zs hzs (.inl huf) rfl rfl rfl
       ·rename_i huf
        simp only[aLb,aLe] at hsec
        obtain⟨rfl,rfl,rfl⟩:=hsec
        exact shared (ff:=.z) hu zs hzs (.inr huf) rfl rfl rfl
       ·replace hsec:=aLa.1 hsec;obtain⟨⟨e3,y3⟩,htake2,hsec⟩:=hsec
        replace hsec:=aLa.1 hsec;obtain⟨ws,hws,hsec⟩:=hsec
        split at hsec
        ·rename_i gg hgg
         simp only[aLb,aLe] at hsec
         obtain⟨rfl,rfl,rfl⟩:=hsec
         obtain⟨g2,hfl2,h2,hr2⟩:=QeQ h1 1 hno1 hy hyt htake2
         have hsz:=ZU hws
         obtain⟨ush,ufl,ux⟩:=y3
         simp only[Sigma.mk.injEq] at hsz
         obtain⟨rfl,hsz⟩:=hsz
         have hsz:=eq_of_heq hsz
         subst hsz
         simp only at hgg hr2
         subst hgg
         have hr1':RepV P (.list tj.sh) (.o f0) g2.Z w (g2.S (.fl 0)) (a.eval x) yx:=hr1.frame (fun i hi=>by
          rcases hfl2.ow i with h3 | ⟨_,h4⟩
          ·exact h3.trans hi
          ·rw[show g1.ow i=.fz from hi] at h4;simp at h4) (fun i hi=>by
          rcases hfl2.ow i with h3 | ⟨_,h4⟩
          ·exact h3.trans hi
          ·rw[show g1.ow i=.fl 0 from hi] at h4;simp at h4) (fun _ _=>rfl)
         obtain⟨g3,hpl3,how3,h3,hr3⟩:=Qj5 h2 (f':=.o F) (by simpa [Qr] using hw2) hr2
         refine⟨g3,hpl3.trans hfl2.pl,h3,hr1'.frame (fun i hi=>?_) (fun i hi=>?_) (fun _ _=>rfl),?_⟩
         ·rcases how3 i with h4 | ⟨h4,_⟩
          ·exact h4.trans hi
          ·rw[show g2.ow i=.fz from hi] at h4;cases h4
         ·rcases how3 i with h4 | ⟨h4,_⟩
          ·exact h4.trans hi
          ·rw[show g2.ow i=.fl 0 from hi] at h4;simp at h4
         ·have hc1:(a.eval y).cells = #[a.eval y]:=hr3.1
          obtain⟨A,n,cap,q1,q2,q3,q4⟩:=hr3.2
          simp only[Qk,hc1] at q1;simp at q1
          have q2:List.length ux=n:=q2
          refine⟨A,cap,by rw[q1,q2],fun hn=>?_⟩
          rcases q4 with ⟨_,q5,_⟩ | ⟨b,off,arr,e4,hA,_,_,_,t3,hr⟩
          ·omega
          ·exact⟨b,off,hA,t3,fun j hj=>(hr j hj).mono (fun _ h=>h) (fun m hm=>⟨hm.1,hm.2.2⟩)⟩
        ·cases hsec
       ·cases hsec
     obtain⟨g2,hpl2,h2,hr2,A2,c2,hyv,helem⟩:=key
     obtain⟨g3,hpl3,how3,h3,hr3⟩:=Qj5 h2 (f':=.o F) (by simpa [Qr] using hw1) hr2
     have helem3:0<List.length ys->∃b2 off2,A2=some ⟨b2,off2,none⟩/\∃t2:Nat->Nat,∀j (hj:j<List.length ys),RepC P tj.sh F g3.Z w (fun i=>g3.ow i=.fl 1/\t2 i=j) (Qe w b2 (off2+j * tj.sh.size)) (ys[j]'hj):=by
      intro hn
      obtain⟨b2,off2,hA,t2,hr⟩:=helem hn
      refine⟨b2,off2,hA,t2,fun j hj=>(hr j hj).mono (fun i hi=>?_) (fun i hi=>⟨?_,hi.2⟩)⟩
      ·rcases how3 i with h4 | ⟨h4,_⟩
       ·exact h4.trans hi
       ·rw[show g2.ow i=.fz from hi] at h4;cases h4
      ·rcases how3 i with h4 | ⟨h4,_⟩
       ·exact h4.trans hi.1
       ·rw[hi.1] at h4;simp at h4
     obtain⟨v',w',g4,hrun,hpl4,h4,hr4⟩:=Qzs (ty:=o.type) hT h3 hti htd htj hzok hok hat0 hat1 hr3 (c2:=c2) helem3 hlim
     rw[<-hyv] at hrun
     obtain⟨g5,_,_,h5⟩:=h4.dst 0 o.dst (d:=.v (.list tj.sh) (.o F) (yx++ys)) hr4
     exact .value (v:=v') (by simp[execOp,ho,resolve,invoke,builtin,hrun]) ⟨g5,h5⟩
   ·cases hs
 ·cases hs
end Go.Dx
namespace Go.Dx
variable {P:Program} {B:Base} {g:Gh} {e:Env} {a:Act} {w:World} {C:Ctx}
theorem Qf2 {α:Type} (i j:Nat) (x:α) (l:List (Nat×α)):assoc i ((j,x)::l)=if j=i then some x else assoc i l:=by
 simp only[assoc]
 by_cases h:j=i
 ·subst h;simp
 ·have:Nat.beq j i=false:=by
   cases hb:Nat.beq j i with
   | true=>exact absurd (aLw hb) h
   | false=>rfl
  simp[this,h]
theorem Qyi {place:Nat->Option (Nat×Nat)} (hdis:∀i j o s o' s',i ≠ j->place i=some (o,s)->place j=some (o',s')->o+s<=o'\/o'+s'<=o) :
  ∀(parts:List (Nat×Value)) (cells:Array Value),(∀p,p ∈ parts->∃o s,place p.1=some (o,s)/\p.2.cells.size=s/\o+s<=cells.size)->Qe7 parts=true->
  ∃r,Instr.fill place cells parts=some r/\r.size=cells.size/\∀i o s,place i=some (o,s)->∀k,k<s->o+s<=cells.size->r[o+k]? = match assoc i parts with | some v=>v.cells[k]? | none=>cells[o+k]?:=by
 intro parts
 induction parts with
 | nil=>intro cells _ _;exact⟨cells,rfl,rfl,fun i o s _ k _ _=>by simp[assoc]⟩
 | cons p rest ih=>
  intro cells hp ho
  obtain⟨i0,v0⟩:=p
  simp only[Qe7,aLg,Option.isNone_iff_eq_none] at ho
  obtain⟨o0,s0,h0,h1,h2⟩:=hp (i0,v0) aLm
  simp only at h0 h1 h2
  obtain⟨f1,f2⟩:=Great.foldl_set o0 v0.cells.toList 0 cells
  generalize hc1:(v0.cells.toList.zipIdx 0).foldl (fun cs (x:Value×Nat)=>cs.setIfInBounds (o0+x.2) x.1) cells=cells1 at f1 f2
  obtain⟨r,hr,hsz,hget⟩:=ih cells1 (fun q hq=>by
   obtain⟨o,s,q1,q2,q3⟩:=hp q (aLp _ hq)
   exact⟨o,s,q1,q2,by rw[f1];exact q3⟩) ho.2
  refine⟨r,?_,hsz.trans f1,fun i o s hi k hk hle=>?_⟩
  ·unfold Instr.fill
   simp only[h0]
   rw[if_neg (by simp;omega),<-hr,<-hc1]
   congr 1
   rw[<-Array.foldl_toList,Array.toList_zipIdx]
  ·rw[hget i o s hi k hk (by rw[f1];exact hle),Qf2]
   by_cases hii:i0=i
   ·subst hii
    rw[if_pos rfl,ho.1]
    rw[h0] at hi
    simp only[aLb,aLe] at hi
    obtain⟨rfl,rfl⟩:=hi
    simp only
    rw[f2,if_pos (by simp only[Nat.add_zero,Array.length_toList];omega)]
    simp
   ·rw[if_neg hii]
    cases hass:assoc i rest with
    | some v=>rfl
    | none=>
     simp only
     rw[f2,if_neg]
     rintro ⟨h3,h4,_⟩
     simp only[Nat.add_zero,Array.length_toList,h1] at h3 h4
     rcases hdis i0 i o0 s0 o s hii h0 hi with h | h<;>omega
theorem Qlk {α β:Type} (f:α->β) (i:Nat):∀(l:List (Nat×α)),assoc i (l.map fun p=>(p.1,f p.2))=(assoc i l).map f
 | []=>rfl
 | (j,x)::l=>by
  rw[List.map_cons,Qf2,Qf2,Qlk f i l]
  split<;>rfl
theorem QpY {α β:Type} (f:α->β):∀(l:List (Nat×α)),Qe7 (l.map fun p=>(p.1,f p.2))=Qe7 l
 | []=>rfl
 | (j,x)::l=>by
  simp only[List.map_cons,Qe7,Qlk,QpY f l]
  cases assoc j l<;>rfl
theorem QCm {α:Type} {i:Nat}:∀{l:List (Nat×α)} {x:α},assoc i l=some x->(i,x) ∈ l
 | [],x,h=>by simp[assoc] at h
 | (j,y)::l,x,h=>by
  rw[Qf2] at h
  split at h
  ·rename_i hji;subst hji;simp only[aLb] at h;subst h;exact aLm
  ·exact aLp _ (QCm h)
theorem QqJ {α:Type}:∀{l:List (Nat×α)} {p:Nat×α},Qe7 l=true->p ∈ l->assoc p.1 l=some p.2
 | (j,y)::l,p,ho,h=>by
  simp only[Qe7,aLg,Option.isNone_iff_eq_none] at ho
  rcases List.mem_cons.1 h with h | h
  ·subst h;rw[Qf2,if_pos rfl]
  ·have:=QqJ ho.2 h
   rw[Qf2,if_neg,this]
   rintro rfl
   rw[ho.1] at this;cases this
def Qfe (a:Act) (parts:List (Nat×Operand)) (s:Sh) (i:Nat):Value:=match assoc i parts with | some o=>a.eval o | none=>zeroV s
structure Fly (g g':Gh) (i:Nat):Prop where
 pl:g'.pl=g.pl
 ow:∀j,g'.ow j=g.ow j\/((∃m,i<=m/\g'.ow j=.fl m)/\((∃n,g.ow j=.s n)\/∃n,g.ow j=.b n))
theorem Fly.keep {g g':Gh} {i:Nat} (h:Fly g g' i) {j:Nat} {t:Tag} (hj:g.ow j=t) (h1:∀n,t ≠ .s n) (h2:∀n,t ≠ .b n):g'.ow j=t:=by
 rcases h.ow j with h3 | ⟨_,h3⟩
 ·exact h3.trans hj
 ·rcases h3 with ⟨n,h3⟩ | ⟨n,h3⟩
  ·exact absurd (hj.symm.trans h3) (h1 n)
  ·exact absurd (hj.symm.trans h3) (h2 n)
theorem Fly.rep {g g':Gh} {i:Nat} (h:Fly g g' i) {s:Sh} {f:Fl} {v:Value} {x:s.den} {k:Nat} (hr:RepV P s f g.Z w (g.S (.fl k)) v x):RepV P s f g'.Z w (g'.S (.fl k)) v x:=
 hr.frame (fun j hj=>h.keep hj (by simp) (by simp)) (fun j hj=>h.keep hj (by simp) (by simp)) (fun _ _=>rfl)
theorem Fly.trans {g g' g'':Gh} {i:Nat} (h:Fly g g' i) (k:Fly g' g'' (i+1)):Fly g g'' i:=by
 refine⟨k.pl.trans h.pl,fun j=>?_⟩
 rcases k.ow j with h1 | ⟨⟨m,hm,h1⟩,h2⟩
 ·rcases h.ow j with h3 | ⟨⟨m,hm,h3⟩,h4⟩
  ·exact .inl (h1.trans h3)
  ·exact .inr ⟨⟨m,hm,h1.trans h3⟩,h4⟩
 ·rcases h.ow j with h3 | ⟨⟨m',hm',h3⟩,h4⟩
  ·exact .inr ⟨⟨m,by omega,h1⟩,by rw[<-h3];exact h2⟩
  ·exact .inr ⟨⟨m,by omega,h1⟩,h4⟩
theorem Flight.fly {g g':Gh} {k:Nat} (h:Flight g g' k):Fly g g' k:=⟨h.pl,fun j=>(h.ow j).imp id fun h=>⟨⟨k,Nat.le_refl _,h.1⟩,h.2⟩⟩
theorem Qu2 (h:Rel P B g e a w) {i:Nat} (hno:∀j,g.ow j ≠ .fl i) {parts:List (Nat×Operand)} {s:Sh} {q:Env×Dv} (hq:(match assoc i parts with | some o=>e.take o.slot s (e.opd o) | none=>some (e,⟨s,Fl.full s,s.dflt⟩))=some q) {x:s.den} (hx:asS ⟨q.2.sh,q.2.x⟩ s=some x) :
  ∃g',Flight g g' i/\Rel P B g' q.1 a w/\RepV P s q.2.fl g'.Z w (g'.S (.fl i)) (Qfe a parts s i) x:=by
 unfold Qfe
 split at hq
 ·rename_i o ho
  obtain⟨e1,y⟩:=q
  obtain⟨T,hd,ht,_⟩:=QD h o
  obtain⟨g1,hfl,hrel,hrep⟩:=QeQ h i hno hd ht hq
  have hs:=ZU hx
  obtain⟨ysh,yfl,yx⟩:=y
  simp only[Sigma.mk.injEq] at hs
  obtain⟨rfl,hs⟩:=hs
  have hs:=eq_of_heq hs
  subst hs
  exact⟨g1,hfl,hrel,by simpa [ho] using hrep⟩
 ·rename_i ho
  simp only[aLb] at hq
  subst hq
  have hs:=ZU hx
  simp only[Sigma.mk.injEq,heq_eq_eq,true_and] at hs
  subst hs
  exact⟨g,Flight.refl g i,h,by simpa [ho] using QvV s⟩
theorem QCN {parts:List (Nat×Operand)} {s:Sh}:∀(n i:Nat) {e e':Env} {g:Gh} {l:List (Fl×s.den)},Rel P B g e a w->(∀j m,i<=m->g.ow j ≠ .fl m)->Qfn e s parts i n=some (e',l)->
  ∃g',Fly g g' i/\Rel P B g' e' a w/\l.length=n/\∀j (hj:j<l.length),RepV P s (l[j]'hj).1 g'.Z w (g'.S (.fl (i+j))) (Qfe a parts s (i+j)) (l[j]'hj).2:=by
 intro n
 induction n with
 | zero=>
  intro i e e' g l h _ hl
  simp only[Qfn,aLb,aLe] at hl
  obtain⟨rfl,rfl⟩:=hl
  exact⟨g,(Flight.refl g i).fly,h,rfl,fun j hj=>by simp at hj⟩
 | succ n ih=>
  intro i e e' g l h hno hl
  simp only[Qfn,aLa,aLd] at hl
  obtain⟨q,hq,x,hx,⟨e2,l2⟩,hl2,hl⟩:=hl
  simp only[aLe] at hl
  obtain⟨rfl,rfl⟩:=hl
  obtain⟨g1,hf1,h1,hr1⟩:=Qu2 h (fun j=>hno j i (Nat.le_refl _)) hq hx
  obtain⟨g2,hf2,h2,hlen,hr2⟩:=ih (i+1) h1 (fun j m hm=>by
   intro hj
   rcases hf1.ow j with h3 | ⟨h3,h4⟩
   ·exact hno j m (by omega) (h3.symm.trans hj)
   ·have:=h3.symm.trans hj
    simp only[Tag.fl.injEq] at this;omega) hl2
  refine⟨g2,hf1.fly.trans hf2,h2,by simp[hlen],fun j hj=>?_⟩
  cases j with
  | zero=>exact hf2.rep hr1
  | succ j=>
   have:=hr2 j (by simpa using hj)
   rw[show i+1+j=i+(j+1) by omega] at this
   exact this
theorem QDg {s:Sh} {F:Fl} (h:Rel P B g e a w) {vs:Nat->Value} {l:List (Fl×s.den)} (hw:∀u,u ∈ l->Qr s u.1 F=true) (hr:∀j (hj:j<l.length),RepV P s (l[j]'hj).1 g.Z w (g.S (.fl j)) (vs j) (l[j]'hj).2) :
  ∀p,p<=l.length->∃g',g'.pl=g.pl/\Rel P B g' e a w/\(∀j,g'.ow j=g.ow j\/(∃m,m<p/\g.ow j=.fl m/\g'.ow j=.fz))/\∀j (hj:j<p) (hjl:j<l.length),RepV P s F g'.Z w (g'.S (.fl j)) (vs j) (l[j]'hjl).2:=by
 intro p
 induction p with
 | zero=>intro _;exact⟨g,rfl,h,fun j=>.inl rfl,fun j hj=>by omega⟩
 | succ p ih=>
  intro hp
  obtain⟨g1,hpl,h1,how,hr1⟩:=ih (by omega)
  have hz:∀j,g.ow j=.fz->g1.ow j=.fz:=fun j hj=>by
   rcases how j with h2 | ⟨m,_,h2,_⟩
   ·exact h2.trans hj
   ·rw[hj] at h2;cases h2
  have hpp:RepV P s (l[p]'(by omega)).1 g1.Z w (g1.S (.fl p)) (vs p) (l[p]'(by omega)).2:=(hr p (by omega)).frame hz (fun j hj=>by
   rcases how j with h2 | ⟨m,hm,h2,_⟩
   ·exact h2.trans hj
   ·rw[show g.ow j=.fl p from hj] at h2;simp only[Tag.fl.injEq] at h2;omega) (fun _ _=>rfl)
  obtain⟨g2,hpl2,how2,h2,hr2⟩:=Qj5 h1 (hw _ (aLl _)) hpp
  refine⟨g2,hpl2.trans hpl,h2,fun j=>?_,fun j hj hjl=>?_⟩
  ·rcases how2 j with h3 | ⟨h3,h4⟩
   ·rcases how j with h5 | ⟨m,hm,h5,h6⟩
    ·exact .inl (h3.trans h5)
    ·exact .inr ⟨m,by omega,h5,h3.trans h6⟩
   ·rcases how j with h5 | ⟨m,hm,h5,h6⟩
    ·exact .inr ⟨p,by omega,h5.symm.trans h3,h4⟩
    ·rw[h6] at h3;cases h3
  ·by_cases hjp:j=p
   ·subst hjp;exact hr2
   ·refine (hr1 j (by omega) hjl).frame (fun m hm=>?_) (fun m hm=>?_) (fun _ _=>rfl)
    ·rcases how2 m with h3 | ⟨h3,h4⟩
     ·exact h3.trans hm
     ·exact h4
    ·rcases how2 m with h3 | ⟨h3,h4⟩
     ·exact h3.trans hm
     ·rw[show g1.ow m=.fl j from hm] at h3;simp only[Tag.fl.injEq] at h3;exact absurd h3 hjp
theorem QvP {s:Sh} {v:Value} (h:Y4 s v):v.cells.size=s.size:=by
 cases s with
 | prod a b=>obtain⟨cs,rfl,hcs⟩:=h;exact hcs
 | _=>rw[show v.cells = #[v] from h];rfl
theorem QtA (hT:Q0 P C) (h:Rel P B g e a w) {frz:Bool} {o:Oper} {t:TypeId} {n:Nat} {ps:Array (Nat×Operand)} (ho:o.op=.buildSlice t n ps) {f:Eff} {e':Env} (hs:Qq C frz e o=some f) (hf:f.gives e'):QK P B a w o e':=by
 obtain⟨g0,_,hcl,h0⟩:=h.clean
 clear h
 simp only[Qq,ho,aLa] at hs
 obtain⟨ti,hti,hs⟩:=hs
 split at hs
 ·rename_i te s htd hsh
  obtain⟨hund,tj',htj',hsh'⟩:=Qia hT hti htd
  replace hs:=aLa.1 hs;obtain⟨tj,htj,hs⟩:=hs
  rw[htj] at htj'
  simp only[aLb] at htj';subst htj'
  rw[hsh] at hsh'
  simp only[Sh.list.injEq] at hsh'
  subst hsh'
  cases hc:tj.td.zok&&Qe7 ps.toList&&ps.toList.all (fun p=>Nat.blt p.1 n)&&Nat.ble (n * tj.sh.size) 16777216 with
  | false=>rw[hc] at hs;cases hs
  | true=>
   rw[hc,aLB] at hs
   simp only[aLg,List.all_eq_true] at hc
   obtain⟨⟨⟨hzok,honce⟩,hall⟩,hble⟩:=hc
   have hble:=Nat.le_of_ble_eq_true hble
   replace hs:=aLa.1 hs;obtain⟨⟨e1,l⟩,hel,hs⟩:=hs
   simp only at hs
   generalize List.foldr (fun u f=>Fl.meet u.1 f) (Fl.full tj.sh) l=F at hs
   cases hw:l.all (fun u=>Qr tj.sh u.1 F) with
   | false=>rw[hw] at hs;cases hs
   | true=>
    rw[hw,aLB] at hs
    simp only[aLb] at hs;subst hs;obtain rfl:e'=_:=hf
    simp only[List.all_eq_true] at hw
    obtain⟨g1,hf1,h1,hlen,hr1⟩:=QCN (s:=tj.sh) n 0 h0 (fun j m _=>hcl j m) hel
    simp only[Nat.zero_add] at hr1
    obtain⟨g2,hpl2,h2,how2,hr2⟩:=QDg h1 hw hr1 l.length (Nat.le_refl _)
    obtain⟨i,hi,hisz,hby,hby0,hzz⟩:=(hT te tj htj).info
    have hzero:i.zero=some (zeroV tj.sh):=by
     revert hzz hzok
     cases tj.td<;>simp[TD.zok]
    have hpos:=Sh.size_pos tj.sh
    have hfill:=Qyi (place:=fun i=>some (i * tj.sh.size,tj.sh.size)) (fun i j o s o' s' hij h1 h2=>by
      simp only[aLb,aLe] at h1 h2
      obtain⟨rfl,rfl⟩:=h1
      obtain⟨rfl,rfl⟩:=h2
      rcases Nat.lt_or_gt_of_ne hij with h3 | h3
      ·left
       have:(i+1) * tj.sh.size<=j * tj.sh.size:=aLq _ h3
       rwa [Nat.add_mul,Nat.one_mul] at this
      ·right
       have:(j+1) * tj.sh.size<=i * tj.sh.size:=aLq _ h3
       rwa [Nat.add_mul,Nat.one_mul] at this)
     (ps.toList.map fun p=>(p.1,a.eval p.2)) (madeCells (zeroV tj.sh).cells (n * tj.sh.size)) (fun p hp=>by
      obtain⟨p0,hp0,rfl⟩:=List.mem_map.1 hp
      have hlt:p0.1<n:=QfJ (hall p0 hp0)
      refine⟨_,_,rfl,?_,?_⟩
      ·have:=(hr2 p0.1 (by omega) (by omega)).1
       rw[show Qfe a ps.toList tj.sh p0.1=a.eval p0.2 by unfold Qfe;rw[QqJ honce hp0]] at this
       exact QvP this
      ·rw[size_madeCells]
       have:(p0.1+1) * tj.sh.size<=n * tj.sh.size:=aLq _ hlt
       rwa [Nat.add_mul,Nat.one_mul] at this) (by rw[QpY];exact honce)
    obtain⟨r,hr,hrsz,hget⟩:=hfill
    rw[size_madeCells] at hrsz
    have hcell:∀j,j<n->∀k,k<tj.sh.size->r[j * tj.sh.size+k]? = Qk (Qfe a ps.toList tj.sh j) k:=by
     intro j hj k hk
     rw[hget j _ _ rfl k hk (by
      rw[size_madeCells]
      have:(j+1) * tj.sh.size<=n * tj.sh.size:=aLq _ hj
      rwa [Nat.add_mul,Nat.one_mul] at this),Qlk]
     unfold Qfe
     cases assoc j ps.toList with
     | some o=>rfl
     | none=>simp only[Option.map_none];rw[Qxw hj hk,QiS]
    have hrun:(Instr.buildSlice t n (ps.map fun (i,x)=>(i,a.eval x))).run P w=.ok (.slice (some ⟨w.heap.size,0,none⟩) n n) (w.alloc (.cells r te)):=by
     have hsmall:¬(n * tj.sh.size > 2 ^ 24):=by omega
     have hfl:Instr.fill (fun i=>some (i * tj.sh.size,tj.sh.size)) (madeCells (zeroV tj.sh).cells (n * tj.sh.size)) (ps.map fun (i,x)=>(i,a.eval x)).toList=some r:=by
      rw[Array.toList_map];exact hr
     by_cases hn0:n * tj.sh.size=0
     ·have h3:Instr.fill (fun i=>some (i * tj.sh.size,tj.sh.size)) ((Array.range (n * tj.sh.size)).map ((#[]:Array Value)[· % (#[]:Array Value).size]!)) (ps.map fun (i,x)=>(i,a.eval x)).toList=some r:=by
       rw[<-hfl];congr 1;simp[madeCells,hn0]
      simp only[hn0] at h3
      simp[Instr.buildSlice,run_underlying hund,sizeOf,typeInfo,run_program,hi,hisz,hn0,newRow]
      simp at h3
      rw[h3];simp
     ·unfold madeCells at hfl
      simp[Instr.buildSlice,run_underlying hund,sizeOf,typeInfo,zeroValue,run_program,hi,hzero,hisz,hsmall,hn0,newRow]
      simp at hfl
      rw[hfl];simp
    obtain⟨g3,hpl3,h3,hN,hold,hblk,hheap⟩:=h2.newList r te 0
    let ow':Nat->Tag:=fun j=>match g3.ow j with | .fl _=>.fl 0 | t=>t
    have kfl:∀j m,g3.ow j=.fl m->ow' j=.fl 0:=fun j m hj=>by simp[ow',hj]
    have kno:∀j,(∀m,g3.ow j ≠ .fl m)->ow' j=g3.ow j:=fun j hj=>by
     show (match g3.ow j with | .fl _=>Tag.fl 0 | t=>t)=_
     cases hq:g3.ow j<;>first | rfl | exact absurd hq (hj _)
    have h4:Rel P B ⟨ow',g3.pl⟩ e1 a (w.alloc (.cells r te)):=h3.fly rfl (fun j _ hm=>⟨kno j hm,rfl⟩) (Streams.refl _) (fun j hj=>h3.lt j fun h0=>hj (by show ow' j=.none;rw[kno j (by rw[h0];simp)];exact h0))
    have hlt2:∀j,g2.ow j ≠ .none->j<w.heap.size:=h2.lt
    have hrep:RepV P (.list tj.sh) (.o F) (Gh.Z ⟨ow',g3.pl⟩) (w.alloc (.cells r te)) (Gh.S ⟨ow',g3.pl⟩ (.fl 0)) (.slice (some ⟨w.heap.size,0,none⟩) n n) (l.map (·.2)):=by
     refine⟨rfl,_,n,n,rfl,by show (l.map _).length=n;simp[hlen],Nat.le_refl _,.inr ⟨w.heap.size,0,r,te,rfl,kfl _ _ hN,hblk,by omega,fun j=>(match g2.ow j with | .fl m=>m | _=>0),fun j hj=>?_⟩⟩
     have hjl:j<l.length:=by simpa using hj
     have hx:(l.map (·.2))[j]'hj=(l[j]'hjl).2:=by simp
     rw[hx]
     refine RepC.congr (fun k hk=>?_) ((hr2 j hjl hjl).2.frame (w':=w.alloc (.cells r te)) (fun m hm=>?_) (fun m hm=>?_) (fun m hm=>hheap m (hlt2 m ?_)))
     ·rw[<-hcell j (by omega) k hk]
      simp only[Qe,World.cell?,hblk,Nat.zero_add];rfl
     ·have hm:g2.ow m=.fz:=hm
      have h5:g3.ow m=.fz:=(hold m (hlt2 m (by rw[hm];simp))).trans hm
      show ow' m=.fz
      rw[kno m (by rw[h5];simp)];exact h5
     ·have hm:g2.ow m=.fl j:=hm
      have h5:m<w.heap.size:=hlt2 m (by rw[hm];simp)
      exact⟨kfl m j ((hold m h5).trans hm),Nat.ne_of_lt h5,by simp[hm]⟩
     ·rcases hm with hm | hm
      ·rw[show g2.ow m=.fl j from hm];simp
      ·rw[show g2.ow m=.fz from hm];simp
    obtain⟨g5,_,_,h5⟩:=h4.dst 0 o.dst (d:=.v (.list tj.sh) (.o F) (List.map (fun (x:Fl×tj.sh.den)=>x.2) l)) (v:=.slice (some ⟨w.heap.size,0,none⟩) n n) hrep
    exact .value (v:=.slice (some ⟨w.heap.size,0,none⟩) n n) (by simp only[execOp,ho,Sem.run_bind,hrun,Result.andThen_ok];rfl) ⟨g5,h5⟩
 ·cases hs
theorem QEk (w:World):∀(n:Nat) {off0:Nat} {fs:List (Nat×TypeId)} {s:Sh} {u:Nat×TypeId} {ti:TI},Yi C off0 fs s->fs[n]? = some u->C.ty u.2=some ti->∀k,k<ti.sh.size->(YX s)[u.1 - off0+k]? = (YX ti.sh)[k]?:=by
 intro n
 induction n with
 | zero=>
  intro off0 fs s u ti hs hu ht k hk
  match fs,hs with
  | [(o,t)],hs=>
   obtain⟨rfl,ti',ht',rfl⟩:=hs
   simp only[aLt,aLb] at hu
   subst hu
   rw[ht] at ht'
   simp only[aLb] at ht'
   subst ht'
   simp
  | (o,t)::f'::l,hs=>
   obtain⟨a',b',rfl,rfl,⟨ti',ht',rfl⟩,hs⟩:=hs
   simp only[aLt,aLb] at hu
   subst hu
   rw[ht] at ht'
   simp only[aLb] at ht'
   subst ht'
   simp only[YX,Nat.sub_self,Nat.zero_add]
   rw[aLu (by rw[Z9];exact hk)]
 | succ n ih=>
  intro off0 fs s u ti hs hu ht k hk
  match fs,hs with
  | [(o,t)],hs=>simp at hu
  | (o,t)::f'::l,hs=>
   obtain⟨a',b',rfl,rfl,⟨ti',ht',rfl⟩,hs⟩:=hs
   rw[List.getElem?_cons_succ] at hu
   obtain⟨_,_,h1,_⟩:=QcO w n hs hu
   rw[<-ih hs hu ht k hk]
   simp only[YX]
   rw[aLv (by rw[Z9];omega),Z9]
   congr 1;omega
theorem QoG (hT:Q0 P C):∀(fields:List Field) {off0:Nat} {s:Sh},Yi C off0 (fields.map fun f=>(f.offset,f.type)) s->
  ∃places,fields.mapM (fun f=>(P.info? f.type).map fun i=>(f.offset,i.size))=some places/\places.length=fields.length/\
   ∀(i:Nat) (u:Nat×TypeId) (ti:TI),(fields.map fun f=>(f.offset,f.type))[i]? = some u->C.ty u.2=some ti->places[i]? = some (u.1,ti.sh.size)
 | [],off0,s,h=>h.elim
 | [f],off0,s,h=>by
  obtain⟨h1,ti,ht,h2⟩:=h
  obtain⟨i,hi,hsz,_⟩:=(hT _ _ ht).info
  refine⟨[(f.offset,i.size)],by simp[hi],rfl,fun j u ti' hu ht'=>?_⟩
  cases j with
  | zero=>
   simp at hu;subst hu
   rw[ht] at ht';simp only[aLb] at ht';subst ht'
   simp[hsz]
  | succ j=>simp at hu
 | f::f'::l,off0,s,h=>by
  obtain⟨a',b',rfl,h1,⟨ti,ht,h2⟩,hs⟩:=h
  obtain⟨i,hi,hsz,_⟩:=(hT _ _ ht).info
  obtain⟨places,p1,p2,p3⟩:=QoG hT (f'::l) hs
  refine⟨(f.offset,i.size)::places,by rw[List.mapM_cons,p1];simp[hi],by simp[p2],fun j u ti' hu ht'=>?_⟩
  cases j with
  | zero=>
   simp at hu;subst hu
   rw[ht] at ht';simp only[aLb] at ht';subst ht'
   simp[hsz]
  | succ j=>rw[List.map_cons,List.getElem?_cons_succ] at hu;rw[List.getElem?_cons_succ];exact p3 j u ti' hu ht'
theorem Qqu (w:World):∀(i j:Nat) {off0:Nat} {fs:List (Nat×TypeId)} {s:Sh} {u u':Nat×TypeId} {ti:TI},Yi C off0 fs s->i<j->fs[i]? = some u->fs[j]? = some u'->C.ty u.2=some ti->u.1+ti.sh.size<=u'.1:=by
 intro i
 induction i with
 | zero=>
  intro j off0 fs s u u' ti hs hij hu hu' ht
  match fs,hs with
  | [(o,t)],hs=>cases j<;>simp at hu' hij
  | (o,t)::f'::l,hs=>
   obtain⟨a',b',rfl,rfl,⟨ti',ht',rfl⟩,hs⟩:=hs
   simp only[aLt,aLb] at hu
   subst hu
   rw[ht] at ht'
   simp only[aLb] at ht'
   subst ht'
   cases j with
   | zero=>omega
   | succ j=>
    rw[List.getElem?_cons_succ] at hu'
    obtain⟨_,_,h1,_⟩:=QcO w j hs hu'
    exact h1
 | succ i ih=>
  intro j off0 fs s u u' ti hs hij hu hu' ht
  match fs,hs with
  | [(o,t)],hs=>simp at hu
  | (o,t)::f'::l,hs=>
   obtain⟨a',b',rfl,rfl,_,hs⟩:=hs
   cases j with
   | zero=>omega
   | succ j=>
    rw[List.getElem?_cons_succ] at hu hu'
    exact ih j hs (by omega) hu hu' ht
theorem Qzg (x y:Dv) (l:List Dv):QmD (x::y::l)=(QmD (y::l)).map fun b=>⟨.prod x.sh b.sh,Fl.mk x.fl b.fl,(x.x,b.x)⟩:=rfl
theorem QCr {parts:List (Nat×Operand)}:∀(fs:List (Nat×TypeId)) (i:Nat) {off:Nat} {s:Sh} {e e':Env} {g:Gh} {l:List Dv} {y:Dv} {c:Nat->Option Value},Yi C off fs s->Rel P B g e a w->(∀j m,i<=m->g.ow j ≠ .fl m)->
  YP C e parts i fs=some (e',l)->QmD l=some y->(∀n u ti,fs[n]? = some u->C.ty u.2=some ti->∀k,k<ti.sh.size->c (u.1 - off+k)=Qk (Qfe a parts ti.sh (i+n)) k)->
  ∃g',Fly g g' i/\Rel P B g' e' a w/\y.sh=s/\l ≠ []/\RepC P y.sh y.fl g'.Z w (fun j=>∃m,i<=m/\g'.ow j=.fl m) c y.x:=by
 intro fs
 induction fs with
 | nil=>intro i off s e e' g l y c hs;exact hs.elim
 | cons f fs ih=>
  intro i off s e e' g l y c hs h hno hl hy hc
  obtain⟨o,t⟩:=f
  simp only[YP,aLa,aLd] at hl
  obtain⟨ti,hti,q,hq,x,hx,⟨e2,l2⟩,hl2,hl⟩:=hl
  simp only[aLe] at hl
  obtain⟨rfl,rfl⟩:=hl
  obtain⟨g1,hf1,h1,hr1⟩:=Qu2 h (fun j=>hno j i (Nat.le_refl _)) hq hx
  match fs,hs,hl2 with
  | [],hs,hl2=>
   simp only[YP,aLb,aLe] at hl2
   obtain⟨rfl,rfl⟩:=hl2
   obtain⟨rfl,ti',hti',rfl⟩:=hs
   rw[hti] at hti';simp only[aLb] at hti';subst hti'
   simp only[QmD,aLb] at hy
   subst hy
   refine⟨g1,hf1.fly,h1,rfl,by simp,?_⟩
   refine RepC.congr (fun k hk=>?_) (hr1.2.mono (fun _ h=>h) (fun m hm=>⟨i,Nat.le_refl _,hm⟩))
   have:=hc 0 (o,t) ti rfl hti k hk
   simpa using this
  | f'::fs,hs,hl2=>
   obtain⟨a',b',rfl,rfl,⟨ti',hti',rfl⟩,hs⟩:=hs
   rw[hti] at hti';simp only[aLb] at hti';subst hti'
   have hno1:∀j m,i+1<=m->g1.ow j ≠ .fl m:=by
    intro j m hm hj
    rcases hf1.ow j with h3 | ⟨h3,h4⟩
    ·exact hno j m (by omega) (h3.symm.trans hj)
    ·have:=h3.symm.trans hj
     simp only[Tag.fl.injEq] at this;omega
   have hl2ne:∃z zs,l2=z::zs:=by
    obtain⟨o',t'⟩:=f'
    simp only[YP,aLa,aLd] at hl2
    obtain⟨_,_,_,_,_,_,⟨_,l3⟩,_,hl3⟩:=hl2
    simp only[aLe] at hl3
    exact⟨_,_,hl3.2.symm⟩
   obtain⟨z,zs,rfl⟩:=hl2ne
   rw[Qzg,aLd] at hy
   obtain⟨yb,hyb,rfl⟩:=hy
   obtain⟨g2,hf2,h2,hsh,_,hr2⟩:=ih (i+1) (c:=fun k=>c (ti.sh.size+k)) hs h1 hno1 hl2 hyb (fun n u ti2 hu ht2 k hk=>by
    obtain⟨_,_,h5,_⟩:=QcO w n hs hu
    have:=hc (n+1) u ti2 (by rw[List.getElem?_cons_succ];exact hu) ht2 k hk
    rw[show i+1+n=i+(n+1) by omega,<-this]
    show c _=c _
    congr 1;omega)
   refine⟨g2,hf1.fly.trans hf2,h2,by show Sh.prod ti.sh yb.sh=_;rw[hsh],by simp,fun j=>decide (g2.ow j=.fl i),?_,?_⟩
   ·refine RepC.flagx ?_ (Fl.fst_mk _ _).symm
    refine RepC.congr (fun k hk=>?_) ((hf2.rep hr1).2.mono (fun _ h=>h) (fun m hm=>⟨⟨i,Nat.le_refl _,hm⟩,by simpa using hm⟩))
    have:=hc 0 (o,t) ti rfl hti k hk
    simpa using this
   ·refine RepC.flagx ?_ (Fl.snd_mk _ _).symm
    refine hr2.mono (fun _ h=>h) (fun m hm=>?_)
    obtain⟨m',hm',hm⟩:=hm
    refine⟨⟨m',by omega,hm⟩,?_⟩
    show decide (g2.ow m=.fl i)=false
    rw[hm]
    simp only[Tag.fl.injEq,decide_eq_false_iff_not];omega
theorem QAQ (hT:Q0 P C) (h:Rel P B g e a w) {frz:Bool} {o:Oper} {t:TypeId} {ps:Array (Nat×Operand)} (ho:o.op=.build t ps) {f:Eff} {e':Env} (hs:Qq C frz e o=some f) (hf:f.gives e'):QK P B a w o e':=by
 obtain⟨g0,_,hcl,h0⟩:=h.clean
 clear h
 simp only[Qq,ho,aLa] at hs
 obtain⟨ti,hti,hs⟩:=hs
 split at hs
 ·rename_i fs htd
  have hund:=(hT t ti hti).und
  rw[htd] at hund
  obtain⟨⟨fields,u1,u2,u3⟩,h4,h5,_⟩:=hund
  cases hc:Qe7 ps.toList&&ps.toList.all (fun p=>Nat.blt p.1 fs.length) with
  | false=>rw[hc] at hs;cases hs
  | true=>
   rw[hc,aLB] at hs
   simp only[aLg,List.all_eq_true] at hc
   obtain⟨honce,hall⟩:=hc
   replace hs:=aLa.1 hs;obtain⟨⟨e1,l⟩,hel,hs⟩:=hs
   replace hs:=aLa.1 hs;obtain⟨y,hy,hs⟩:=hs
   simp only[aLb] at hs;subst hs;obtain rfl:e'=_:=hf
   obtain⟨i,hi,hisz,hby,hby0,hzz⟩:=(hT t ti hti).info
   have hzero:i.zero=some (zeroV ti.sh):=by rw[htd] at hzz;exact hzz
   obtain⟨places,p1,p2,p3⟩:=QoG hT fields.toList (by rw[u2];exact h4)
   rw[u2] at p3
   have hplen:places.length=fs.length:=by rw[p2,<-u2];simp
   have hzc:(zeroV ti.sh).cells.size=ti.sh.size:=by rw[QeL];simp[Z9]
   have huti:∀(n:Nat) (u:Nat×TypeId),fs[n]? = some u->∃tj,C.ty u.2=some tj/\u.1+tj.sh.size<=ti.sh.size/\places[n]? = some (u.1,tj.sh.size):=by
    intro n u hu
    obtain⟨tj,htj,_,h6,_⟩:=QcO w n h4 hu
    exact⟨tj,htj,by omega,p3 n u tj hu htj⟩
   have hback:∀(n o s:Nat),places[n]? = some (o,s)->∃(u:Nat×TypeId) (tj:TI),fs[n]? = some u/\C.ty u.2=some tj/\o=u.1/\s=tj.sh.size:=by
    intro n o s hp
    have hn:n<fs.length:=by rw[<-hplen];exact (aLy.1 hp).1
    obtain⟨tj,htj,_,h6⟩:=huti n _ (aLf hn)
    rw[hp] at h6
    simp only[aLb,aLe] at h6
    exact⟨_,tj,aLf hn,htj,h6.1,h6.2⟩
   have hform:∀(n:Nat) (u:Nat×TypeId) (tj:TI),fs[n]? = some u->C.ty u.2=some tj->Y4 tj.sh (Qfe a ps.toList tj.sh n):=by
    have gen:∀(fs:List (Nat×TypeId)) (i:Nat) {e e':Env} {g:Gh} {l:List Dv},Rel P B g e a w->(∀j m,i<=m->g.ow j ≠ .fl m)->YP C e ps.toList i fs=some (e',l)->
      ∀(n:Nat) (u:Nat×TypeId) (tj:TI),fs[n]? = some u->C.ty u.2=some tj->Y4 tj.sh (Qfe a ps.toList tj.sh (i+n)):=by
     intro fs
     induction fs with
     | nil=>intro i e e' g l _ _ _ n u tj hu;simp at hu
     | cons f fs ih=>
      intro i e e' g l h hno hl n u tj hu htj
      obtain⟨o,t⟩:=f
      simp only[YP,aLa,aLd] at hl
      obtain⟨ti,hti,q,hq,x,hx,⟨e2,l2⟩,hl2,hl⟩:=hl
      obtain⟨g1,hf1,h1,hr1⟩:=Qu2 h (fun j=>hno j i (Nat.le_refl _)) hq hx
      cases n with
      | zero=>
       simp only[aLt,aLb] at hu
       subst hu
       rw[hti] at htj;simp only[aLb] at htj;subst htj
       exact hr1.1
      | succ n=>
       rw[List.getElem?_cons_succ] at hu
       have:=ih (i+1) h1 (fun j m hm hj=>by
        rcases hf1.ow j with h3 | ⟨h3,h4⟩
        ·exact hno j m (by omega) (h3.symm.trans hj)
        ·have:=h3.symm.trans hj
         simp only[Tag.fl.injEq] at this;omega) hl2 n u tj hu htj
       rwa [show i+1+n=i+(n+1) by omega] at this
    intro n u tj hu htj
    have:=gen fs 0 h0 (fun j m _=>hcl j m) hel n u tj hu htj
    rwa [Nat.zero_add] at this
   have hfill:=Qyi (place:=fun n=>places[n]?) (fun i j o s o' s' hij h1 h2=>by
     obtain⟨u,tj,k1,k2,rfl,rfl⟩:=hback i o s h1
     obtain⟨u',tj',k3,k4,rfl,rfl⟩:=hback j o' s' h2
     rcases Nat.lt_or_gt_of_ne hij with h3 | h3
     ·exact .inl (Qqu w i j h4 h3 k1 k3 k2)
     ·exact .inr (Qqu w j i h4 h3 k3 k1 k4))
    (ps.toList.map fun p=>(p.1,a.eval p.2)) (zeroV ti.sh).cells (fun p hp=>by
     obtain⟨p0,hp0,rfl⟩:=List.mem_map.1 hp
     have hlt:p0.1<fs.length:=QfJ (hall p0 hp0)
     obtain⟨tj,htj,h6,h7⟩:=huti p0.1 _ (aLf hlt)
     refine⟨_,_,h7,?_,by rw[hzc];exact h6⟩
     have:=hform p0.1 _ tj (aLf hlt) htj
     rw[show Qfe a ps.toList tj.sh p0.1=a.eval p0.2 by unfold Qfe;rw[QqJ honce hp0]] at this
     exact QvP this) (by rw[QpY];exact honce)
   obtain⟨r,hr,hrsz,hget⟩:=hfill
   have hcell:∀(n:Nat) (u:Nat×TypeId) (tj:TI),fs[n]? = some u->C.ty u.2=some tj->∀k,k<tj.sh.size->r[u.1 - 0+k]? = Qk (Qfe a ps.toList tj.sh (0+n)) k:=by
    intro n u tj hu htj k hk
    obtain⟨tj',htj',h6,h7⟩:=huti n u hu
    rw[htj] at htj';simp only[aLb] at htj';subst htj'
    rw[Nat.sub_zero,Nat.zero_add,hget n _ _ h7 k hk (by rw[hzc];exact h6),Qlk]
    unfold Qfe
    cases assoc n ps.toList with
    | some o=>rfl
    | none=>
     simp only[Option.map_none]
     rw[QiS,<-QEk w n h4 hu htj k hk,Nat.sub_zero,<-QiS];rfl
   obtain⟨g1,hf1,h1,hsh,_,hrep⟩:=QCr fs 0 (c:=fun k=>r[k]?) h4 h0 (fun j m _=>hcl j m) hel hy hcell
   have hrun:(Instr.build t (ps.map fun (i,x)=>(i,a.eval x))).run P w=.ok (.agg r) w:=by
    refine run_build w t _ r ?_
    simp only[Program.built,hi,u1,hzero,p1]
    rw[Array.toList_map]
    have:(fun (x:Nat)=>places.toArray[x]?)=fun (n:Nat)=>places[n]?:=by funext n;simp
    rw[this];exact hr
   let ow':Nat->Tag:=fun j=>match g1.ow j with | .fl _=>.fl 0 | t=>t
   have kfl:∀j m,g1.ow j=.fl m->ow' j=.fl 0:=fun j m hj=>by simp[ow',hj]
   have kno:∀j,(∀m,g1.ow j ≠ .fl m)->ow' j=g1.ow j:=fun j hj=>by
    show (match g1.ow j with | .fl _=>Tag.fl 0 | t=>t)=_
    cases hq:g1.ow j<;>first | rfl | exact absurd hq (hj _)
   have h6:Rel P B ⟨ow',g1.pl⟩ e1 a w:=h1.fly rfl (fun j _ hm=>⟨kno j hm,rfl⟩) (Streams.refl _) (fun j hj=>h1.lt j fun h0=>hj (by show ow' j=.none;rw[kno j (by rw[h0];simp)];exact h0))
   have hpr:=h4.prod h5
   have hrv:RepV P y.sh y.fl (Gh.Z ⟨ow',g1.pl⟩) w (Gh.S ⟨ow',g1.pl⟩ (.fl 0)) (.agg r) y.x:=by
    refine⟨?_,?_⟩
    ·have hrsz2:r.size=ti.sh.size:=hrsz.trans hzc
     rw[hsh]
     revert hpr hrsz2
     cases ti.sh<;>simp[Q1,Y4,Sh.size]
    ·exact hrep.mono (fun j hj=>by
      have hj:g1.ow j=.fz:=hj
      show ow' j=.fz
      rw[kno j (by rw[hj];simp)];exact hj) (fun j hj=>by obtain⟨m,_,hj⟩:=hj;exact kfl j m hj)
   obtain⟨g5,_,_,h7⟩:=h6.dst 0 o.dst (d:=.v y.sh y.fl y.x) hrv
   exact .value (v:=.agg r) (by simp only[execOp,ho,Sem.run_bind,hrun,Result.andThen_ok];rfl) ⟨g5,h7⟩
 ·cases hs
end Go.Dx
namespace Go.Dx
variable {P:Program} {B:Base} {g:Gh} {e:Env} {a:Act} {w:World} {C:Ctx}
theorem QCI {s:Sh} {f:Fl} (hw:Qr s (Fl.full s) f=true) {Z S:Nat->Prop} {w:World} {c:Nat->Option Value} (hc:∀k,k<s.size->c k=(YX s)[k]?):RepC P s f Z w S c s.dflt:=by
 obtain⟨T,hT,hr⟩:=RepC.weak hw (QnZ (P:=P) (Z:=Z) (w:=w) s QS c hc)
 exact hr.mono (fun i hi=>hi.elim id (fun h=>(hT i h).elim)) (fun i hi=>hi.1.elim)
theorem QvG (s:Sh):(zeroV s).cells.size=s.size:=by rw[QeL];simp[Z9]
theorem QpL {s:Sh} {n:Nat} (j k:Nat) (hj:j<n) (hk:k<s.size):(Builtin.zeroCells (zeroV s).cells n).toList[j * s.size+k]? = (YX s)[k]?:=by
 have hlt:j * s.size+k<n * s.size:=by
  have:(j+1) * s.size<=n * s.size:=aLq _ hj
  rw[Nat.add_mul,Nat.one_mul] at this;omega
 have hm:(j * s.size+k) % s.size=k:=by rw[Nat.add_comm,Nat.add_mul_mod_self_right,Nat.mod_eq_of_lt hk]
 have hlt2:k<(YX s).length:=by rw[Z9];exact hk
 have hsz:=Z9 s
 unfold Builtin.zeroCells
 rw[QeL]
 simp[hsz,hlt,hm,hlt2,hk]
theorem Qxg (P:Program) {s:Sh} {n:Nat}:∀u ∈ (Builtin.zeroCells (zeroV s).cells n).toList,u.oneCell'=true:=by
 intro u hu
 obtain⟨i,hi,rfl⟩:=List.getElem_of_mem hu
 have hi':i<n * s.size:=by simpa [QhZ,QvG] using hi
 have hpos:=Sh.size_pos s
 have hj:i / s.size<n:=Nat.div_lt_of_lt_mul (by rw[Nat.mul_comm];exact hi')
 have hk:=Nat.mod_lt i hpos
 have:=QpL (s:=s) (n:=n) (i / s.size) (i % s.size) hj hk
 rw[Nat.mul_comm (i / s.size),Nat.div_add_mod,aLf hi] at this
 obtain⟨v,hv,h1⟩:=cells_one (P:=P) (Z:=QS) (S:=QS) (w:={ (default:World) with heap:=#[] }) (c:=fun k=>(YX s)[k]?) (QkF s) (QnZ s QS _ (fun k _=>rfl)) (i % s.size) hk
 rw[<-this] at hv
 simp only[aLb] at hv
 rw[hv];exact h1
theorem QzM {s:Sh} {l h:Int} {X:List s.den} (h0:0<=l) (h1:l<=h) (h2:h<=(X.length:Int)):(clr l h X).length=X.length:=by
 show (List.take l.toNat X++(List.replicate (h - l).toNat s.dflt++List.drop h.toNat X)).length=_
 simp only[aLi,aLn,List.length_replicate,aLz]
 omega
theorem QDS {s:Sh} {l h:Int} {X:List s.den} (h0:0<=l) (h1:l<=h) (h2:h<=(X.length:Int)) (j:Nat) (hj:j<(clr l h X).length) (hj':j<X.length) :
  (clr l h X)[j]'hj=if l.toNat<=j/\j<h.toNat then s.dflt else X[j]'hj':=by
 have hg:(clr l h X)[j]? = if l.toNat<=j/\j<h.toNat then some s.dflt else X[j]?:=by
  show (List.take l.toNat X++(List.replicate (h - l).toNat s.dflt++List.drop h.toNat X))[j]? = _
  by_cases ha:j<l.toNat
  ·rw[aLu (by simp;omega),List.getElem?_take,if_pos ha,if_neg (by omega)]
  ·rw[aLv (by simp;omega)]
   simp only[aLn,Nat.min_eq_left (show l.toNat<=X.length by omega)]
   by_cases hb:j<h.toNat
   ·rw[aLu (by simp;omega),List.getElem?_replicate,if_pos (by omega),if_pos (by omega)]
   ·rw[aLv (by simp;omega),if_neg (by omega),List.getElem?_drop]
    congr 1
    simp;omega
 rw[aLf hj,aLf hj'] at hg
 split at hg
 ·rename_i hc;rw[if_pos hc];exact Option.some.inj hg
 ·rename_i hc;rw[if_neg hc];exact Option.some.inj hg
theorem QAl (hT:Q0 P C) (h:Rel P B g e a w) {frz:Bool} {o:Oper} {x:Operand} {at_:Array TypeId} (ho:o.op=.call { callee:=.builtin .clear,args:=#[x],argTypes:=at_ }) {f:Eff} {e':Env} (hs:Qq C frz e o=some f) (hf:f.gives e'):QK P B a w o e':=by
 simp only[Qq,ho,Qky,aLa] at hs
 obtain⟨t0,hat0,ti,hti,hs⟩:=hs
 split at hs
 ·rename_i te s t ver l hh htd hsh hox
  obtain⟨hund,tj',htj',hsh'⟩:=Qia hT hti htd
  replace hs:=aLa.1 hs;obtain⟨tj,htj,hs⟩:=hs
  rw[htj] at htj'
  simp only[aLb] at htj';subst htj'
  rw[hsh] at hsh'
  simp only[Sh.list.injEq] at hsh'
  subst hsh'
  cases hc:tj.td.zok&&Nat.beq (e.s t).ver ver with
  | false=>rw[hc] at hs;cases hs
  | true=>
   rw[hc,aLB] at hs
   simp only[aLg] at hc
   obtain⟨hzok,hver⟩:=hc
   have hver:=aLw hver
   split at hs
   ·rename_i S f0 X hdt
    replace hs:=aLa.1 hs;obtain⟨Y,hY,hs⟩:=hs
    have hsx:=ZU hY
    simp only[Sigma.mk.injEq] at hsx
    obtain⟨rfl,hsx⟩:=hsx
    have hsx:=eq_of_heq hsx
    subst hsx
    cases hcc:Qr tj.sh (Fl.full tj.sh) f0&&okS tj.sh f0 with
    | false=>rw[hcc] at hs;cases hs
    | true=>
     rw[hcc,aLB] at hs
     simp only[aLb] at hs;subst hs;obtain rfl:e'=_:=hf
     simp only[aLg] at hcc
     obtain⟨hweak,hok⟩:=hcc
     obtain⟨i,hi,hisz,hby,hby0,hzz⟩:=(hT te tj htj).info
     have hzero:i.zero=some (zeroV tj.sh):=by
      revert hzz hzok
      cases tj.td<;>simp[TD.zok]
     have hpos:=Sh.size_pos tj.sh
     obtain⟨Tx,hx,_,_⟩:=QD h x
     rw[hox] at hx
     have hx:Qb2 g e a w (.s t) ver [.sub l hh] (a.eval x):=hx
     have hd:(e.root (.s t)).d=.v (.list tj.sh) (.o f0) X:=hdt
     obtain⟨hp,hbor⟩:=hx.2 hver _ _ _ hd
     obtain⟨⟨p0,p1,p2⟩,_⟩:=hp
     obtain⟨hform,hcell⟩:=hbor rfl (.list tj.sh) rfl
     have hcell:=hcell 0 (Sh.size_pos _)
     have hsl:=h.sl t
     rw[show (e.s t).d=.v (.list tj.sh) (.o f0) X from hdt] at hsl
     have hsl:RepV P (.list tj.sh) (.o f0) g.Z w (g.S (.s t)) (a.tmps.getD t undef) X:=hsl
     obtain⟨A,n,cap,e1,e2,e3,e4⟩:=hsl.2
     have e2:X.length=n:=e2
     simp only[Qn,Qm,e1,Qgc,if_pos] at hcell
     have hc1:(a.eval x).cells = #[a.eval x]:=hform
     simp only[Qk,hc1] at hcell
     simp only[List.getElem?_toArray,aLt,aLb] at hcell
     have key:∃w',(Builtin.clear_ at_ o.type #[a.eval x]).run P w=.ok (.tuple #[]) w'/\Streams w w'/\w'.heap.size=w.heap.size/\(∀j,g.ow j ≠ .s t->w'.heap[j]? = w.heap[j]?)/\
       RepC P (.list tj.sh) (.o f0) g.Z w' (g.S (.s t)) (Qk (a.tmps.getD t undef)) (clr l hh X):=by
      rcases Nat.eq_zero_or_pos (hh - l).toNat with h0 | h0
      ·refine⟨w,?_,Streams.refl w,rfl,fun _ _=>rfl,?_⟩
       ·rw[hcell,h0]
        split
        ·cases A<;>simp[Builtin.clear_,hat0,run_underlying hund]
        ·cases A<;>simp[Builtin.clear_,hat0,run_underlying hund]
       ·have:clr l hh X=X:=by
         show List.take l.toNat X++(List.replicate (hh - l).toNat tj.sh.dflt++List.drop hh.toNat X)=X
         rw[h0,show hh.toNat=l.toNat by omega];simp
        rw[this];exact hsl.2
      ·have hcap:¬cap=l.toNat:=by omega
       rw[if_neg hcap] at hcell
       rcases e4 with ⟨rfl,hn0,_⟩ | ⟨b,off,arr,ty,rfl,hS,hblk,hsz,t1,hr⟩
       ·omega
       ·have hlen:(Builtin.zeroCells (zeroV tj.sh).cells (hh - l).toNat).toList.length=(hh - l).toNat * tj.sh.size:=by simp[QhZ,QvG]
        have hmul:l.toNat * tj.sh.size+(hh - l).toNat * tj.sh.size=hh.toNat * tj.sh.size:=by rw[<-Nat.add_mul];congr 1;omega
        have hmul2:hh.toNat * tj.sh.size<=cap * tj.sh.size:=aLq _ (by omega)
        have hst:=run_storeCells_at (P:=P) b (off+l.toNat * tj.sh.size) ty (Builtin.zeroCells (zeroV tj.sh).cells (hh - l).toNat).toList 0 arr w hblk (by rw[hlen];omega) (Qxg P)
        simp only[Nat.add_zero] at hst
        generalize harr:(arr.toList.take (off+l.toNat * tj.sh.size)++(Builtin.zeroCells (zeroV tj.sh).cells (hh - l).toNat).toList++arr.toList.drop (off+l.toNat * tj.sh.size+(Builtin.zeroCells (zeroV tj.sh).cells (hh - l).toNat).toList.length)).toArray=arr' at hst
        have harr1:arr'.size=arr.size:=by subst harr;simp only[List.size_toArray,aLi,aLn,aLz,hlen,Array.length_toList];omega
        have harr2:∀k,k<off+l.toNat * tj.sh.size->arr'[k]? = arr[k]?:=by
         intro k hk;subst harr
         simp only[List.getElem?_toArray]
         rw[List.append_assoc,aLu (by simp only[aLn,Array.length_toList];omega),List.getElem?_take,if_pos hk];simp
        have harr3:∀k,k<(hh - l).toNat * tj.sh.size->arr'[off+l.toNat * tj.sh.size+k]? = (Builtin.zeroCells (zeroV tj.sh).cells (hh - l).toNat).toList[k]?:=by
         intro k hk;subst harr
         simp only[List.getElem?_toArray]
         rw[List.append_assoc,aLv (by simp only[aLn,Array.length_toList];omega),aLu (by simp only[aLn,Array.length_toList,hlen];omega)]
         simp only[aLn,Array.length_toList]
         congr 1;omega
        have harr4:∀k,off+hh.toNat * tj.sh.size<=k->arr'[k]? = arr[k]?:=by
         intro k hk;subst harr
         simp only[List.getElem?_toArray]
         rw[aLv (by simp only[aLi,aLn,Array.length_toList,hlen];omega),List.getElem?_drop]
         simp only[aLi,aLn,Array.length_toList,hlen]
         rw[Array.getElem?_toList]
         congr 1;omega
        have hblk':=setRow_heap w b arr arr' ty (0,0) hblk
        have hother:∀j,j ≠ b->(w.setRow b arr').heap[j]? = w.heap[j]?:=fun j hj=>setRow_other w b j arr' hj
        have hSb:g.ow b=.s t:=hS
        refine⟨w.setRow b arr',?_,⟨rfl,rfl,rfl,by simp,Nat.le_refl _⟩,by simp,fun j hj=>hother j (fun hjb=>hj (hjb ▸ hSb)),some ⟨b,off,none⟩,n,cap,e1,?_,e3,.inr ⟨b,off,arr',ty,rfl,hS,hblk',by omega,t1,fun j hj=>?_⟩⟩
        ·rw[hcell]
         obtain⟨m,hm⟩:∃m,(hh - l).toNat=m+1:=⟨(hh - l).toNat - 1,by omega⟩
         rw[hm] at hst ⊢
         simp[Builtin.clear_,hat0,run_underlying hund,zeroValue,run_program,typeInfo,hi,hzero,Qc4,hst]
        ·show (clr l hh X).length=n
         rw[QzM p0 p1 p2,e2]
        ·have hjY:j<X.length:=by rw[<-QzM p0 p1 p2];exact hj
         rw[QDS p0 p1 p2 j hj hjY]
         have hj1:(j+1) * tj.sh.size=j * tj.sh.size+tj.sh.size:=by rw[Nat.add_mul,Nat.one_mul]
         have hcl:∀k,Qe (w.setRow b arr') b (off+j * tj.sh.size) k=arr'[off+j * tj.sh.size+k]?:=fun k=>by simp only[Qe,World.cell?,hblk'];rfl
         have hcl0:∀k,Qe w b (off+j * tj.sh.size) k=arr[off+j * tj.sh.size+k]?:=fun k=>by simp only[Qe,World.cell?,hblk];rfl
         by_cases hin:l.toNat<=j/\j<hh.toNat
         ·rw[if_pos hin]
          refine QCI hweak (fun k hk=>?_)
          have hs1:j * tj.sh.size=l.toNat * tj.sh.size+(j - l.toNat) * tj.sh.size:=by rw[<-Nat.add_mul];congr 1;omega
          have hs2:(j - l.toNat+1) * tj.sh.size<=(hh - l).toNat * tj.sh.size:=aLq _ (by omega)
          rw[Nat.add_mul,Nat.one_mul] at hs2
          rw[hcl,show off+j * tj.sh.size+k=off+l.toNat * tj.sh.size+((j - l.toNat) * tj.sh.size+k) by omega,harr3 _ (by omega)]
          exact QpL _ _ (by omega) hk
         ·rw[if_neg hin]
          refine RepC.congr (fun k hk=>?_) ((hr j hjY).frame (w':=w.setRow b arr') (fun _ h=>h) (fun _ h=>h) (fun m hm=>hother m ?_))
          ·rw[hcl]
           by_cases hjl:j<l.toNat
           ·have:(j+1) * tj.sh.size<=l.toNat * tj.sh.size:=aLq _ hjl
            rw[harr2 _ (by omega)]
            exact (hcl0 k).symm
           ·have:hh.toNat * tj.sh.size<=j * tj.sh.size:=aLq _ (by omega)
            rw[harr4 _ (by omega)]
            exact (hcl0 k).symm
          ·rcases hm with hm | hm
           ·exact hm.2.1
           ·rintro rfl;rw[show g.ow m=.fz from hm] at hSb;cases hSb
     obtain⟨w',hrun,hst,hsz,hkeep,hrep⟩:=key
     have hzk:∀j tg,g.ow j=tg->tg ≠ .s t->g.ow j=tg/\w'.heap[j]? = w.heap[j]?:=fun j tg hj hne=>⟨hj,hkeep j (by rw[hj];exact hne)⟩
     have h3:Rel P B g (e.turn (.s t) false (.v (.list tj.sh) (.o f0) (clr l hh X))) a w':=by
      refine h.step (fun i=>i=t) (fun _=>False) (by rw[Qs0];exact h.lens) h.defers
       (fun i hi=>⟨by show (e.turn (.s t) false _).root (.s i)=_;rw[Q6 hd,if_neg (by simpa using fun hh=>hi hh.symm)];rfl,rfl⟩) (fun i _=>⟨by show (e.turn (.s t) false _).root (.b i)=_;rw[Q6 hd,if_neg (by simp)];rfl,rfl⟩)
       (fun i hi=>by subst hi;show (e.root (.s i)).ver<((e.turn (.s i) false _).root (.s i)).ver;rw[Q6 hd,if_pos rfl];exact Nat.lt_succ_self _)
       (fun _ hi=>hi.elim) (fun i hi=>by subst hi;exact QmW hd rfl) (fun _ hi=>hi.elim) (fun i hi=>by subst hi;exact Qkz hd (fun _ k _=>rfl)) (fun _ hi=>hi.elim)
       (fun j hj=>hzk j _ hj (by simp)) (fun i j hi hj=>hzk j _ hj (by simpa using hi)) (fun i j _ hj=>hzk j _ hj (by simp)) (fun i j _ hj=>hzk j _ hj (by simp))
       hst (fun i hi hm=>?_) (fun i h1 h2 h3=>h.nn i h1 h2 h3) (fun i hi=>by rw[hsz];exact h.lt i hi) (fun q _ hq=>hq.elim) (fun hk i hi=>?_) (fun _ _ hi=>hi.elim)
      ·by_cases hf:B.fz0 i
       ·exact (hzk i _ (h.fz i hf) (by simp)).2
       ·exact (hzk i _ (h.nn i hi hm hf) (by simp)).2
      ·subst hi
       show Qs P g _ a w' (.s i) ((e.turn (.s i) false _).root (.s i)).d _
       rw[Q6 hd,if_pos rfl]
       exact⟨hsl.1,hrep⟩
     obtain⟨g4,_,_,h4⟩:=h3.dst 0 o.dst (d:=.dead) (v:=.tuple #[]) trivial
     exact .value (v:=.tuple #[]) (w':=w') (by simp[execOp,ho,resolve,invoke,builtin,hrun]) ⟨g4,h4⟩
   ·cases hs
 ·cases hs
end Go.Dx
namespace Go.Dx
variable {P:Program} {B:Base} {g:Gh} {e:Env} {a:Act} {w:World} {C:Ctx}
def Zo (ow:Nat->Tag):Nat->Prop:=fun i=>ow i=.fz
def So (ow:Nat->Tag) (t:Tag):Nat->Prop:=fun i=>ow i=t
def Qvf (P:Program) (ow:Nat->Tag) (w:World) (i:Nat):(p:PS)->Value->p.sh.den->Prop
 | .v s f,v,x=>RepV P s f (Zo ow) w (So ow (.fl i)) v x
 | .rp s false,v,x=>∃b o,v=.pointer (some ⟨b,o,none⟩)/\ow b=.fz/\RepC P s .z (Zo ow) w QS (Qe w b o) x
 | .rp s true,v,x=>∃hb ho b o,v=.pointer (some ⟨hb,ho,none⟩)/\ow hb=.fz/\Qe w hb ho 0=some (.pointer (some ⟨b,o,none⟩))/\ow b=.fz/\RepC P s .z (Zo ow) w QS (Qe w b o) x
 | .io s f _,v,x=>∃hb o arr ty,v=.pointer (some ⟨hb,o,none⟩)/\ow hb=.c i/\w.heap[hb]? = some (.cells arr ty (0,0))/\o+s.size<=arr.size/\RepC P s f (Zo ow) w (So ow (.fl i)) (Qe w hb o) x
 | .mu s f _,v,x=>RepV P s f (Zo ow) w (So ow (.fl i)) v x
def QbO (P:Program) (ow:Nat->Tag) (w:World):Nat->(ps:List PS)->List Value->TupI (ps.map PS.sh)->Prop
 | _,[],vs,_=>vs=[]
 | i,p::ps,v::vs,t=>Qvf P ow w i p v t.1/\QbO P ow w (i+1) ps vs t.2
 | _,_::_,[],_=>False
def Zi (P:Program) (ow':Nat->Tag) (w w':World):Nat->List PS->List Value->List ((s:Sh)×s.den)->Prop
 | i,.io s _ f'::ps,v::vs,y::ys=>(∃hb o arr arr' ty,v=.pointer (some ⟨hb,o,none⟩)/\w.heap[hb]? = some (.cells arr ty (0,0))/\w'.heap[hb]? = some (.cells arr' ty (0,0))/\arr'.size=arr.size/\
   (∀k,(k<o\/o+s.size<=k)->arr'[k]? = arr[k]?)/\ow' hb=.c i/\y.1=s/\RepC P y.1 f' (Zo ow') w' (So ow' (.b i)) (Qe w' hb o) y.2)/\Zi P ow' w w' (i+1) ps vs ys
 | i,.mu s _ f'::ps,v::vs,y::ys=>(y.1=s/\RepV P y.1 f' (Zo ow') w' (So ow' (.b i)) v y.2)/\Zi P ow' w w' (i+1) ps vs ys
 | _,.io .. :: _,_,_=>False
 | _,.mu .. :: _,_,_=>False
 | i,_::ps,_::vs,ys=>Zi P ow' w w' (i+1) ps vs ys
 | _,_::_,[],_=>False
 | _,[],vs,ys=>vs=[]/\ys=[]
def Qxl (P:Program) (ow':Nat->Tag) (w':World) (outs:List (Sh×Fl)) (v:Value) (ys:List ((s:Sh)×s.den)):Prop:=
 ys.map (·.1)=outs.map (·.1)/\match outs,ys with
 | [(_,f)],y::_=>RepV P y.1 f (Zo ow') w' (So ow' (.fl 0)) v y.2
 | outs,ys=>∃vs:Array Value,v=.tuple vs/\vs.size=outs.length/\∀(k:Nat) (o:Sh×Fl) (y:(s:Sh)×s.den) (u:Value),outs[k]? = some o->ys[k]? = some y->vs[k]? = some u->RepV P y.1 o.2 (Zo ow') w' (So ow' (.fl k)) u y.2
structure Qir (P:Program) (K:Callee) (ow:Nat->Tag) (w:World) (vs:List Value) (ys:TupO (K.outs.map (·.1)++Qbs K.ins)) (ow':Nat->Tag) (w':World) (vr:Value):Prop where
 st:StrD K.dm w w'
 frame:∀j,j<w.heap.size->(ow j=.none\/ow j=.fz)->w'.heap[j]? = w.heap[j]?/\ow' j=ow j
 lt:∀j,ow' j ≠ .none->j<w'.heap.size
 res:Qxl P ow' w' K.outs vr ((scat _ ys).take K.outs.length)
 ios:Zi P ow' w w' 0 K.ins vs ((scat _ ys).drop K.outs.length)
def GOk (W0:World) (ow:Nat->Tag) (w:World):Prop:=∀i,i<W0.heap.size->ow i=.fz/\w.heap[i]? = W0.heap[i]?
def Contract (P:Program) (W0:World) (j:FuncId) (K:Callee):Prop:=
 Enters P j/\∀(w:World) (ow:Nat->Tag) (vs:List Value) (xs:TupI (K.ins.map PS.sh)) (ys:TupO (K.outs.map (·.1)++Qbs K.ins)),(∀i,ow i ≠ .none->i<w.heap.size)->GOk W0 ow w->QbO P ow w 0 K.ins vs xs->K.F xs=some ys->
  Calls P j vs.toArray w (fun e w'=>∃vr ow',e=.returned vr/\Qir P K ow w vs ys ow' w' vr)
def QAF (P:Program) (Z:Nat->Prop) (w:World):(ss:List Sh)->List Value->TupI ss->Prop
 | [],vs,_=>vs=[]
 | s::ss,v::vs,t=>RepV P s .z Z w QS v t.1/\QAF P Z w ss vs t.2
 | _::_,[],_=>False
def QtC (P:Program) (W0:World) (j:FuncId) (N:NewP):Prop:=
 Enters P j/\∀(w:World) (Z:Nat->Prop) (vs:List Value) (xs:TupI N.ins) (y:N.out.den),(∀i,Z i->i<w.heap.size)->(∀i,i<W0.heap.size->Z i/\w.heap[i]? = W0.heap[i]?)->QAF P Z w N.ins vs xs->N.F xs=some y->
  Calls P j vs.toArray w (fun e w'=>∃hb arr ty,e=.returned (.pointer (some ⟨hb,0,none⟩))/\Streams w w'/\(∀i,i<w.heap.size->w'.heap[i]? = w.heap[i]?)/\w.heap.size<=hb/\w'.heap[hb]? = some (.cells arr ty (0,0))/\N.out.size<=arr.size/\RepC P N.out .z Z w' QS (Qe w' hb 0) y)
structure Qb5 (P:Program) (W0:World) (d:Bool) (C:Ctx):Prop where
 fn:∀j K,assoc j C.fns=some K->Contract P W0 j K
 np:∀j N,assoc j C.nps=some N->QtC P W0 j N
 dm:d=true->∀j K,assoc j C.fns=some K->K.dm=true
theorem QfV {s:Sh}:∀{f:Fl} {Z Z':Nat->Prop} {w:World} {S:Nat->Prop} {c:Nat->Option Value} {x:s.den},QI s f=true->RepC P s f Z w S c x->RepC P s f Z' w S c x:=by
 induction s with
 | int k=>intro f Z Z' w S c x _ r;exact r
 | bool=>intro f Z Z' w S c x _ r;exact r
 | str=>intro f Z Z' w S c x _ r;exact r
 | list s ih=>
  intro f Z Z' w S c x h r
  cases f with
  | o g=>
   simp only[QI] at h
   obtain⟨A,n,cap,h1,h2,h3,h4⟩:=r
   refine⟨A,n,cap,h1,h2,h3,h4.imp id ?_⟩
   rintro ⟨b,off,arr,e,h5,h6,h7,h8,t,h9⟩
   exact⟨b,off,arr,e,h5,h6,h7,h8,t,fun j hj=>ih h (h9 j hj)⟩
  | z=>simp[QI] at h
  | x=>simp[QI] at h
  | p a b=>simp[QI] at h
  | h f0 i0=>simp[QI] at h
 | prod a b iha ihb=>
  intro f Z Z' w S c x h r
  simp only[QI,aLg] at h
  obtain⟨t,ra,rb⟩:=r
  exact⟨t,iha h.1 ra,ihb h.2 rb⟩
 | fn1 a r rf _ _=>intro f Z Z' w S c x h;simp[QI] at h
 | fn2 a b r _ _ _=>intro f Z Z' w S c x h;simp[QI] at h
theorem QnY {o:Oper} {f:Operand} {c:Call} (ho:o.op=.call c) (hc:c.callee=.value f) {j:FuncId} (hE:Enters P j) {caps:Array Value} (hf:a.eval f=.func (.func j) #[] caps) :
  (execOp a.eval o).run P w=.ok (.enter j (c.args.map a.eval++caps)) w:=by
 obtain⟨fn,h1,h2,h3⟩:=hE
 have h2':¬fn.body=none:=by cases hb:fn.body<;>simp[hb] at h2 ⊢
 have h3':¬fn.name = "runtime.NumGoroutine":=by simpa using h3
 simp[execOp,ho,resolve,hc,hf,Deferred.ofValue,invoke,callFunc,h1,h2',h3']
end Go.Dx
namespace Go.Dx
variable {P:Program} {B:Base} {g:Gh} {e:Env} {a:Act} {w:World} {C:Ctx}
theorem RepC.inHeap {s:Sh}:∀{f:Fl} {Z:Nat->Prop} {w:World} {S:Nat->Prop} {c:Nat->Option Value} {x:s.den},RepC P s f Z w S c x->RepC P s f Z w (fun i=>S i/\i<w.heap.size) c x:=by
 induction s with
 | int k=>intro f Z w S c x r;exact r
 | bool=>intro f Z w S c x r;exact r
 | str=>intro f Z w S c x r;exact r
 | list s ih=>
  intro f Z w S c x r
  cases f with
  | o g=>
   obtain⟨A,n,cap,h1,h2,h3,h4⟩:=r
   refine⟨A,n,cap,h1,h2,h3,h4.imp id ?_⟩
   rintro ⟨b,off,arr,e,h5,h6,h7,h8,t,h9⟩
   exact⟨b,off,arr,e,h5,⟨h6,(Array.getElem?_eq_some_iff.1 h7).1⟩,h7,h8,t,fun j hj=>(ih (h9 j hj)).mono (fun _ h=>h) (fun i hi=>⟨⟨hi.1.1,hi.2⟩,hi.1.2⟩)⟩
  | z=>exact r
  | x=>exact r
  | p a b=>exact r
  | h g i0=>
   obtain⟨A,n,cap,h1,h2,h3,b,off,arr,e,h5,h6,h7,h8,t,h9⟩:=r
   exact⟨A,n,cap,h1,h2,h3,b,off,arr,e,h5,⟨h6,(Array.getElem?_eq_some_iff.1 h7).1⟩,h7,h8,t,fun j hj hne=>(ih (h9 j hj hne)).mono (fun _ h=>h) (fun i hi=>⟨⟨hi.1.1,hi.2⟩,hi.1.2⟩)⟩
 | prod a b iha ihb=>
  intro f Z w S c x r
  obtain⟨t,ra,rb⟩:=r
  exact⟨t,(iha ra).mono (fun _ h=>h) (fun i hi=>⟨⟨hi.1.1,hi.2⟩,hi.1.2⟩),(ihb rb).mono (fun _ h=>h) (fun i hi=>⟨⟨hi.1.1,hi.2⟩,hi.1.2⟩)⟩
 | fn1 a r rf _ _=>intro f Z w S c x r;exact r
 | fn2 a b r _ _ _=>intro f Z w S c x r;exact r
theorem QuD (h:Rel P B g e a w) {T:Tag} {d:Desc} {v:Value} {y:(s:Sh)×s.den} (hd:Qs P g e a w T d v) (hv:e.rd d=some y) :
  ∃S:Nat->Prop,(∀i,S i->i<w.heap.size)/\RepV P y.1 .z (fun i=>g.Z i\/S i) w QS v y.2:=by
 obtain⟨S,f,ho,hr,_⟩:=Qc1 h hd hv
 refine⟨fun i=>S i/\i<w.heap.size,fun i hi=>hi.2,hr.1,RepC.freeze ho (RepC.inHeap hr.2)⟩
theorem QK.call {o:Oper} {e':Env} {j:FuncId} {args:Array Value} (hr:(execOp a.eval o).run P w=.ok (.enter j args) w) {R:Ending->World->Prop} (hc:Calls P j args w R)
  (h:∀en w',R en w'->∃vr,en=.returned vr/\∃g',Rel P B g' e' (a.put o.dst vr) w'):QK P B a w o e':=by
 intro K Q hK
 unfold Oper.wp
 rw[hr]
 show Calls P j args w _
 refine hc.mono fun en w' hR=>?_
 obtain⟨vr,rfl,g',h'⟩:=h en w' hR
 exact hK _ _ _ h' ⟨_,rfl⟩
theorem Rel.back (h:Rel P B g e a w) {w':World} {Z':Nat->Prop} {R:(Nat->Prop)->World->(Nat->Prop)->Value->Prop} {en:Ending} (hp:Qt8 Z' w R en w') (dst:Option Tmp) {s:Sh} {f:Fl} {x:s.den} (hf:QI s f=true)
  (hR:∀Z'' own vr,R Z'' w' own vr->Y4 s vr/\RepC P s f Z'' w' own (Qk vr) x):∃vr,en=.returned vr/\∃g',Rel P B g' (e.dst dst (.v s f x)) (a.put dst vr) w':=by
 obtain⟨vr,rfl,hst,hheap,own,Z'',hown,_,_,hRR⟩:=hp
 obtain⟨hform,hrep⟩:=hR _ _ _ hRR
 have hno:∀i,own i->w.heap.size<=i:=fun i hi=>(hown i hi).1
 have hrel:Rel P B (g.re own (.fl 0)) e a w':=h.fly rfl (fun j hj _=>⟨Gh.re_out fun ho=>by have:=hno j ho;omega,hheap j hj⟩) hst (fun j hj=>by
  by_cases ho:own j
  ·exact (hown j ho).2.1
  ·rw[Gh.re_out ho] at hj
   have:=h.lt j hj;have:=hst.size;omega)
 obtain⟨g',_,_,h'⟩:=hrel.dst 0 dst (d:=.v s f x) (v:=vr) ⟨hform,(QfV hf hrep).mono (fun _ h=>h) (fun i hi=>Gh.re_in hi)⟩
 exact⟨vr,rfl,g',h'⟩
theorem Qej {d:(s:Sh)×s.den} {s:Sh} {y:s.den} (h:asS d s=some y):∃hs:d.1=s,hs ▸ d.2=y:=by
 have:=ZU h
 subst this
 exact⟨rfl,rfl⟩
theorem QA0 (h:Rel P B g e a w) {o:Oper} {c:Call} {fo:Operand} (ho:o.op=.call c) (hc:c.callee=.value fo) {f:Eff} {e':Env} (hs:QhK e o.dst (e.opd fo) c.args.toList=some f) (hf:f.gives e'):QK P B a w o e':=by
 obtain⟨Tf,hfo,_,_⟩:=QD h fo
 have hargs:∀{l:List Operand},c.args.toList=l->c.args.map a.eval=(l.map a.eval).toArray:=fun hl=>by
  apply Array.ext';simp[<-hl]
 unfold QhK at hs
 split at hs
 ·rename_i a1 r rf ff gf x heq hargl
  cases hx:ff.isx with
  | true=>simp[hx] at hs
  | false=>
   rw[hx,aLC] at hs
   replace hs:=aLa.1 hs;obtain⟨u,hu,hs⟩:=hs
   replace hs:=aLa.1 hs;obtain⟨y,hy,hs⟩:=hs
   cases hff:QI r rf with
   | false=>simp[hff] at hs
   | true=>
    rw[hff,aLB] at hs
    simp only[aLb] at hs;subst hs
    obtain⟨z,hz,hz'⟩:=hf
    simp only[aLb] at hz';subst hz'
    rw[heq] at hfo
    have hfo:RepV P (.fn1 a1 r rf) ff g.Z w (g.S Tf) (a.eval fo) gf:=hfo
    obtain⟨v,⟨hv1,hv2⟩,hcall⟩:=hfo.2 (QtL hx)
    have hvv:a.eval fo=v:=by
     have h1:(a.eval fo).cells = #[a.eval fo]:=hfo.1
     simp only[Qk,h1] at hv1;simpa using hv1
    obtain⟨Tx,hxo,_,_⟩:=QD h x
    obtain⟨S,hS,hrep⟩:=QuD h hxo hu
    obtain⟨hsh,hyy⟩:=Qej hy
    obtain⟨us,ux⟩:=u
    simp only at hsh;subst hsh
    simp only at hyy;subst hyy
    obtain⟨j,cap,hvf,hE,hcl⟩:=hcall (fun i=>g.Z i\/S i) w ⟨fun i hi=>.inl hi,fun _ _=>rfl,fun i hi=>hi.elim (fun hi=>h.lt i (by rw[show g.ow i=.fz from hi];simp)) (hS i)⟩ _ _ _ hrep.1 hrep.2 hz
    refine .call (QnY (f:=fo) ho hc hE (caps:=cap) (by rw[hvv,hvf])) (by rw[hargs hargl];simpa using hcl) (fun en w' hR=>h.back hR o.dst hff (fun Z'' own vr hh=>hh))
 ·rename_i a1 b1 r ff gf x x' heq hargl
  cases hx:ff.isx with
  | true=>simp[hx] at hs
  | false=>
   rw[hx,aLC] at hs
   replace hs:=aLa.1 hs;obtain⟨u,hu,hs⟩:=hs
   replace hs:=aLa.1 hs;obtain⟨y,hy,hs⟩:=hs
   replace hs:=aLa.1 hs;obtain⟨u',hu',hs⟩:=hs
   replace hs:=aLa.1 hs;obtain⟨y',hy',hs⟩:=hs
   cases hff:QI r .z with
   | false=>simp[hff] at hs
   | true=>
    rw[hff,aLB] at hs
    simp only[aLb] at hs;subst hs
    obtain⟨z,hz,hz'⟩:=hf
    simp only[aLb] at hz';subst hz'
    rw[heq] at hfo
    have hfo:RepV P (.fn2 a1 b1 r) ff g.Z w (g.S Tf) (a.eval fo) gf:=hfo
    obtain⟨v,⟨hv1,hv2⟩,hcall⟩:=hfo.2 (QtL hx)
    have hvv:a.eval fo=v:=by
     have h1:(a.eval fo).cells = #[a.eval fo]:=hfo.1
     simp only[Qk,h1] at hv1;simpa using hv1
    obtain⟨Tx,hxo,_,_⟩:=QD h x
    obtain⟨Tx',hxo',_,_⟩:=QD h x'
    obtain⟨S,hS,hrep⟩:=QuD h hxo hu
    obtain⟨S',hS',hrep'⟩:=QuD h hxo' hu'
    obtain⟨hsh,hyy⟩:=Qej hy
    obtain⟨hsh',hyy'⟩:=Qej hy'
    obtain⟨us,ux⟩:=u
    simp only at hsh;subst hsh
    simp only at hyy;subst hyy
    obtain⟨us',ux'⟩:=u'
    simp only at hsh';subst hsh'
    simp only at hyy';subst hyy'
    have r1:=hrep.2.mono (Z':=fun i=>g.Z i\/S i\/S' i) (fun i hi=>hi.imp id .inl) (fun _ h=>h)
    have r2:=hrep'.2.mono (Z':=fun i=>g.Z i\/S i\/S' i) (fun i hi=>hi.imp id .inr) (fun _ h=>h)
    obtain⟨j,cap,hvf,hE,hcl⟩:=hcall (fun i=>g.Z i\/S i\/S' i) w ⟨fun i hi=>.inl hi,fun _ _=>rfl,fun i hi=>hi.elim (fun hi=>h.lt i (by rw[show g.ow i=.fz from hi];simp)) (fun hi=>hi.elim (hS i) (hS' i))⟩ _ _ _ _ _ hrep.1 r1 hrep'.1 r2 hz
    refine .call (QnY (f:=fo) ho hc hE (caps:=cap) (by rw[hvv,hvf])) (by rw[hargs hargl];simpa using hcl) (fun en w' hR=>h.back hR o.dst hff (fun Z'' own vr hh=>hh))
 ·cases hs
end Go.Dx
namespace Go.Dx
variable {P:Program} {B:Base} {g:Gh} {e:Env} {a:Act} {w:World} {C:Ctx}
theorem QAn:∀(p:List Step) {S:Sh} {F:Fl} {X:S.den} {y:Dv},QE p=true->getP S F X p=some y->QH S X p:=by
 intro p
 induction p with
 | nil=>intro S F X y _ _;simp only[QH]
 | cons st p ih=>intro S F X y hn hg;cases S<;>cases st<;>first | (simp[getP] at hg;done) | (simp[QE] at hn;done) | exact ih hn hg
theorem Qry (h:Rel P B g e a w) (k:Nat) {r:Root} {l:Option Dv} {p:List Step} (hl:∀y,l=some y->∃S F X,(e.root r).d=.v S F X/\getP S F X p=some y) {e':Env} {y:Dv} (ho:e.out r l p=some (e',y)) :
  ∃S F X F' g',QE p=true/\l=some y/\(e.root r).d=.v S F X/\getP S F X p=some y/\setF S F p .x=some F'/\e'=e.flag r (.v S F' X)/\
   Flight g g' k/\Rel P B g' e' a w/\RepC P y.sh y.fl g'.Z w (g'.S (.fl k)) (Qn w S (Qm g a w r) p) y.x:=by
 unfold Env.out at ho
 cases hn:QE p with
 | false=>simp[hn] at ho
 | true=>
  rw[hn,aLB] at ho
  obtain⟨y0,hl0,ho⟩:=aLa.1 ho
  obtain⟨S,F,X,hdr,hg⟩:=hl y0 hl0
  rw[hdr] at ho
  simp only[aLd,aLe] at ho
  obtain⟨F',hF',rfl,rfl⟩:=ho
  have hroot:=h.root r hdr
  obtain⟨T0,hT0,hrep,hrest⟩:=RepC.take _ hroot (QAn p hn hg) hF' hg
  have htag:∀j,T0 j->g.ow j=tagR r:=fun j hj=>by have:=hT0 j hj;cases r<;>exact this
  have hne:∀t,t ≠ tagR r->∀j,g.ow j=t->(g.re T0 (.fl k)).ow j=t:=fun t hne j hj=>(Gh.re_out fun hT=>hne (hj.symm.trans (htag j hT))).trans hj
  refine⟨S,F,X,F',g.re T0 (.fl k),rfl,hl0,hdr,hg,hF',rfl,⟨rfl,fun j=>?_⟩,?_,?_⟩
  ·by_cases hj:T0 j
   ·refine .inr ⟨Gh.re_in hj,?_⟩
    have:=htag j hj
    cases r with
    | s i=>exact .inl ⟨i,this⟩
    | b i=>exact .inr ⟨i,this⟩
   ·exact .inl (Gh.re_out hj)
  ·refine h.flag r hdr (fun q=>QqN _ q hF') rfl (fun j=>?_) ?_
   ·by_cases hj:T0 j
    ·exact .inr ⟨htag j hj,.inr ⟨k,Gh.re_in hj⟩⟩
    ·exact .inl (Gh.re_out hj)
   ·refine hrest.mono (fun j hj=>hne .fz (by cases r<;>simp[tagR]) j hj) (fun j hj=>?_)
    refine (Gh.re_out hj.2).trans ?_
    have:=hj.1;cases r<;>exact this
  ·exact hrep.mono (fun j hj=>hne .fz (by cases r<;>simp[tagR]) j hj) (fun j hj=>Gh.re_in hj)
theorem QAJ {r:Root} {p:List Step} {y:Dv} (h:e.lookU r p=some y):∃S F X,(e.root r).d=.v S F X/\getP S F X p=some y:=by
 unfold Env.lookU at h
 split at h
 ·rename_i S F X hd;exact⟨S,F,X,hd,h⟩
 ·cases h
theorem QDE (h:Rel P B g e a w) (k:Nat) {r:Root} {ver:Nat} {p:List Step} {e':Env} {y:Dv} (ho:e.out r (e.lookL r ver p) p=some (e',y)) :
  ∃S F X F' g',QE p=true/\(e.root r).stamp p=ver/\(e.root r).d=.v S F X/\getP S F X p=some y/\setF S F p .x=some F'/\e'=e.flag r (.v S F' X)/\
   Flight g g' k/\Rel P B g' e' a w/\RepC P y.sh y.fl g'.Z w (g'.S (.fl k)) (Qn w S (Qm g a w r) p) y.x:=by
 obtain⟨S,F,X,F',g',h1,h2,h3⟩:=Qry h k (fun y hy=>(Qn8 hy).2) ho
 exact⟨S,F,X,F',g',h1,(Qn8 h2).1,h3⟩
theorem QxB (h:Rel P B g e a w) {k:Nat} {s:Sh} {f f':Fl} {c:Nat->Option Value} {x:s.den} (hw:Qr s f f'=true) (hr:RepC P s f g.Z w (g.S (.fl k)) c x) :
  ∃g',g'.pl=g.pl/\(∀j,g'.ow j=g.ow j\/(g.ow j=.fl k/\g'.ow j=.fz))/\Rel P B g' e a w/\RepC P s f' g'.Z w (g'.S (.fl k)) c x:=by
 obtain⟨T,hT,hrep⟩:=RepC.weak hw hr
 have hne:∀j t,t ≠ .fl k->g.ow j=t->(g.re T .fz).ow j=t:=fun j t ht hj=>(Gh.re_out fun h=>ht (hj.symm.trans (hT j h))).trans hj
 refine⟨g.re T .fz,rfl,fun j=>?_,?_,?_⟩
 ·by_cases hj:T j
  ·exact .inr ⟨hT j hj,Gh.re_in hj⟩
  ·exact .inl (Gh.re_out hj)
 ·exact h.step (fun _=>False) (fun _=>False) h.lens h.defers (fun _ _=>⟨rfl,rfl⟩) (fun _ _=>⟨rfl,rfl⟩) (fun _ h=>h.elim) (fun _ h=>h.elim) (fun _ h=>h.elim) (fun _ h=>h.elim) (fun _ h=>h.elim) (fun _ h=>h.elim)
   (fun i hi=>⟨hne i _ (by simp) hi,rfl⟩) (fun i j _ hj=>⟨hne j _ (by simp) hj,rfl⟩) (fun i j _ hj=>⟨hne j _ (by simp) hj,rfl⟩) (fun i j _ hj=>⟨hne j _ (by simp) hj,rfl⟩)
   (Streams.refl _) (fun _ _ _=>rfl) (fun i h1 h2 h3=>hne i _ (by simp) (h.nn i h1 h2 h3)) (fun i hi=>h.lt i fun h0=>hi (hne i _ (by simp) h0)) (fun _ _ h=>h.elim) (fun _ _ h=>h.elim) (fun _ _ h=>h.elim)
 ·exact hrep.mono (fun i hi=>hi.elim (fun h=>hne i _ (by simp) h) (fun h=>Gh.re_in h)) (fun i hi=>(Gh.re_out hi.2).trans hi.1)
def Wand (P:Program) (w:World) (Z T1:Nat->Prop) (S:Sh) (F:Fl) (X:S.den) (p:List Step) (c:Nat->Option Value) (cp:Nat->Option Value):Prop:=
 ∀(Z':Nat->Prop) (w':World) (T':Nat->Prop) (n:Dv) (r:Fl×S.den) (inl:Bool),(∀i,Z i->Z' i)->(∀i,T1 i\/Z i->w'.heap[i]? = w.heap[i]?)->(∀i,T' i->¬T1 i)->setP S F X p inl n=some r->
  RepC P n.sh n.fl Z' w' T' cp n.x->RepC P S r.1 Z' w' (fun i=>T1 i\/T' i) c r.2
theorem Wand.mono {Z Z2 T1:Nat->Prop} {S:Sh} {F:Fl} {X:S.den} {p:List Step} {c cp:Nat->Option Value} (h:Wand P w Z T1 S F X p c cp) (hz:∀i,Z i->Z2 i):Wand P w Z2 T1 S F X p c cp:=
 fun Z' w' T' n r inl h1 h2 h3 h4 h5=>h Z' w' T' n r inl (fun i hi=>h1 i (hz i hi)) (fun i hi=>h2 i (hi.imp id (hz i))) h3 h4 h5
theorem RepC.hole {Z:Nat->Prop} {w:World}:∀(p:List Step) {S:Sh} {F:Fl} {Sg:Nat->Prop} {c:Nat->Option Value} {X:S.den} {y:Dv},
  RepC P S F Z w Sg c X->QH S X p->ownP S F p=true->getP S F X p=some y->
  ∃T1:Nat->Prop,(∀i,T1 i->Sg i)/\RepC P y.sh y.fl Z w (fun i=>Sg i/\¬T1 i) (Qn w S c p) y.x/\Wand P w Z T1 S F X p c (Qn w S c p):=by
 intro p
 induction p with
 | nil=>
  intro S F Sg c X y hr _ _ hy
  simp only[getP,aLb] at hy
  subst hy
  refine⟨fun _=>False,fun _ h=>h.elim,by simp only[Qn];exact hr.mono (fun _ h=>h) (fun i h=>⟨h,id⟩),?_⟩
  intro Z' w' T' n r inl _ _ _ hs hn
  simp only[Qn] at hn
  simp only[setP,aLa] at hs
  obtain⟨u,hu,hs⟩:=hs
  have hu:=ZU hu
  obtain⟨nsh,nfl,nx⟩:=n
  simp only[Sigma.mk.injEq] at hu
  obtain⟨rfl,hu⟩:=hu
  have hu:=eq_of_heq hu
  subst hu
  have hn:=hn.mono (fun _ h=>h) (fun i hi=>(Or.inr hi:(fun _=>False) i\/T' i))
  cases inl with
  | false=>simp only[aLC,aLb] at hs;subst hs;exact hn
  | true=>
   by_cases hf:nfl=F
   ·subst hf;simp only[decide_true,aLB,aLb] at hs;subst hs;exact hn
   ·simp[hf] at hs
 | cons st p ih=>
  intro S F Sg c X y hr hp ho hy
  cases S with
  | prod a b=>
   obtain⟨t,ra,rb⟩:=hr
   cases st with
   | fst=>
    obtain⟨T1,h1,h2,h3⟩:=ih ra hp ho hy
    refine⟨fun i=>T1 i\/(Sg i/\t i=false),fun i hi=>hi.elim (fun h=>(h1 i h).1) (·.1),h2.mono (fun _ h=>h) (fun i hi=>⟨hi.1.1,fun hh=>hh.elim hi.2 (fun hh=>by rw[hi.1.2] at hh;cases hh.2)⟩),?_⟩
    intro Z' w' T' n r inl hz hw hd hs hn
    simp only[setP,aLd] at hs
    obtain⟨z,hz2,rfl⟩:=hs
    have hA:=h3 Z' w' T' n z inl hz (fun i hi=>hw i (hi.imp .inl id)) (fun i hi hT=>hd i hi (.inl hT)) hz2 hn
    refine⟨fun i=>@decide (T1 i\/T' i) (Classical.propDecidable _),?_,?_⟩
    ·rw[Fl.fst_mk];exact hA.mono (fun _ h=>h) (fun i hi=>⟨hi.imp .inl id,by simpa using hi⟩)
    ·rw[Fl.snd_mk]
     refine rb.frame hz (fun i hi=>⟨.inl (.inr hi),?_⟩) (fun i hi=>hw i (hi.imp .inr id))
     have:¬(T1 i\/T' i):=by
      rintro (h | h)
      ·have:=(h1 i h).2;rw[hi.2] at this;cases this
      ·exact hd i h (.inr hi)
     simpa using this
   | snd=>
    obtain⟨T1,h1,h2,h3⟩:=ih rb hp ho hy
    refine⟨fun i=>T1 i\/(Sg i/\t i=true),fun i hi=>hi.elim (fun h=>(h1 i h).1) (·.1),h2.mono (fun _ h=>h) (fun i hi=>⟨hi.1.1,fun hh=>hh.elim hi.2 (fun hh=>by rw[hi.1.2] at hh;cases hh.2)⟩),?_⟩
    intro Z' w' T' n r inl hz hw hd hs hn
    simp only[setP,aLd] at hs
    obtain⟨z,hz2,rfl⟩:=hs
    have hA:=h3 Z' w' T' n z inl hz (fun i hi=>hw i (hi.imp .inl id)) (fun i hi hT=>hd i hi (.inl hT)) hz2 hn
    refine⟨fun i=>!@decide (T1 i\/T' i) (Classical.propDecidable _),?_,?_⟩
    ·rw[Fl.fst_mk]
     refine ra.frame hz (fun i hi=>⟨.inl (.inr hi),?_⟩) (fun i hi=>hw i (hi.imp .inr id))
     have:¬(T1 i\/T' i):=by
      rintro (h | h)
      ·have:=(h1 i h).2;rw[hi.2] at this;cases this
      ·exact hd i h (.inr hi)
     simpa using this
    ·rw[Fl.snd_mk];exact hA.mono (fun _ h=>h) (fun i hi=>⟨hi.imp .inl id,by simpa using hi⟩)
   | idx i=>simp[ownP] at ho
   | sub l h=>simp[ownP] at ho
  | list s=>
   cases st with
   | fst=>simp[ownP] at ho
   | snd=>simp[ownP] at ho
   | sub l h=>simp[ownP] at ho
   | idx i=>
    cases F with
    | o g=>
     obtain⟨hin,hp⟩:=hp
     obtain⟨A,m,cap,e1,e2,e3,e4⟩:=hr
     rcases e4 with ⟨rfl,h,h'⟩ | ⟨b,off,arr,e,rfl,hS,hw0,hsz,t,hel⟩
     ·omega
     ·have hi':i.toNat<List.length X:=by omega
      have hg:List.getD X i.toNat s.dflt=X[i.toNat]'hi':=by rw[aLk,aLf hi'];rfl
      have hc:Qfm w s i (c 0)=Qe w b (off+i.toNat * s.size):=by rw[e1];rfl
      have he:=hel i.toNat hi'
      rw[<-hg] at he
      obtain⟨T1,h1,h2,h3⟩:=ih he hp ho hy
      refine⟨fun j=>T1 j\/(Sg j/\(j=b\/t j ≠ i.toNat)),fun j hj=>hj.elim (fun h=>(h1 j h).1) (·.1),?_,?_⟩
      ·simp only[Qn,hc]
       exact h2.mono (fun _ h=>h) (fun j hj=>⟨hj.1.1,fun hh=>hh.elim hj.2 (fun hh=>hh.2.elim hj.1.2.1 (fun h=>h hj.1.2.2))⟩)
      ·intro Z' w' T' n r inl hz hw hd hs hn
       simp only[setP,aLd] at hs
       obtain⟨z,hz2,rfl⟩:=hs
       simp only[Qn,hc] at hn
       have hA:=h3 Z' w' T' n z true hz (fun j hj=>hw j (hj.imp .inl id)) (fun j hj hT=>hd j hj (.inl hT)) hz2 hn
       have hb:w'.heap[b]? = w.heap[b]?:=hw b (.inl (.inr ⟨hS,.inl rfl⟩))
       refine⟨_,m,cap,e1,by simpa using e2,e3,.inr ⟨b,off,arr,e,rfl,.inl (.inr ⟨hS,.inl rfl⟩),hb.trans hw0,hsz,fun j=>@ite _ (T' j) (Classical.propDecidable _) i.toNat (t j),fun j hj=>?_⟩⟩
       have hj':j<List.length X:=by simpa using hj
       by_cases hji:i.toNat=j
       ·subst hji
        simp only[List.getElem_set_self]
        rw[Zm hb]
        refine (QvY _ hz2 hA).mono (fun _ h=>h) (fun k hk=>?_)
        rcases hk with hk | hk
        ·refine⟨.inl (.inl hk),(h1 k hk).2.1,?_⟩
         by_cases hT:T' k
         ·simp[hT]
         ·simp[hT,(h1 k hk).2.2]
        ·exact⟨.inr hk,fun hkb=>hd k hk (.inr ⟨hkb ▸ hS,.inl hkb⟩),by simp[hk]⟩
       ·simp only[List.getElem_set_ne hji]
        rw[Zm hb]
        refine (hel j hj').frame hz (fun k hk=>?_) (fun k hk=>hw k (hk.imp (fun hk=>.inr ⟨hk.1,.inr (fun hh=>hji (hh.symm.trans hk.2.2))⟩) id))
        have hnT:¬T' k:=fun hT=>hd k hT (.inr ⟨hk.1,.inr (fun hh=>hji (hh.symm.trans hk.2.2))⟩)
        exact⟨.inl (.inr ⟨hk.1,.inr (fun hh=>hji (hh.symm.trans hk.2.2))⟩),hk.2.1,by simp[hnT,hk.2.2]⟩
    | z=>simp[ownP] at ho
    | x=>simp[ownP] at ho
    | p a b=>simp[ownP] at ho
    | h f0 i0=>simp[ownP] at ho
  | int k=>cases st<;>simp[ownP] at ho
  | bool=>cases st<;>simp[ownP] at ho
  | str=>cases st<;>simp[ownP] at ho
  | fn1 a r rf=>cases st<;>simp[ownP] at ho
  | fn2 a b r=>cases st<;>simp[ownP] at ho
def Fr (i m:Nat):Prop:=(i<=m/\m<PK)\/PK+i<=m
structure Gave (g g':Gh) (i:Nat):Prop where
 pl:g'.pl=g.pl
 ow:∀j,g'.ow j=g.ow j\/((g'.ow j=.fl i\/g'.ow j=.fl (PK+i)\/g'.ow j=.fz)/\((∃n,g.ow j=.s n)\/∃n,g.ow j=.b n))
theorem Gave.refl (g:Gh) (i:Nat):Gave g g i:=⟨rfl,fun _=>.inl rfl⟩
theorem Gave.of {g g1 g2:Gh} {i:Nat} (h:Flight g g1 i) (hn:∀j,g.ow j ≠ .fl i) (hpl:g2.pl=g1.pl) (how:∀j,g2.ow j=g1.ow j\/(g1.ow j=.fl i/\(g2.ow j=.fz\/g2.ow j=.fl (PK+i)))):Gave g g2 i:=by
 refine⟨hpl.trans h.pl,fun j=>?_⟩
 rcases how j with h1 | ⟨h1,h2⟩
 ·rcases h.ow j with h3 | ⟨h3,h4⟩
  ·exact .inl (h1.trans h3)
  ·exact .inr ⟨.inl (h1.trans h3),h4⟩
 ·rcases h.ow j with h3 | ⟨h3,h4⟩
  ·exact absurd (h3.symm.trans h1) (hn j)
  ·exact .inr ⟨.inr h2.symm,h4⟩
def JP (e e':Env):Prop:=∀t,(∀S F X,(e.s t).d ≠ .v S F X)->e'.s t=e.s t
theorem JP.refl (e:Env):JP e e:=fun _ _=>rfl
theorem QqS {r:Root} {S:Sh} {F F':Fl} {X:S.den} (hd:(e.root r).d=.v S F X):JP e (e.flag r (.v S F' X)):=by
 intro t ht
 show (e.flag r _).root (.s t)=e.root (.s t)
 rw[ZC hd]
 split
 ·rename_i hr;subst hr;exact absurd hd (ht S F X)
 ·rfl
theorem Qy2 {r:Root} {l:Option Dv} {p:List Step} {e':Env} {y:Dv} (ho:e.out r l p=some (e',y)):JP e e':=by
 unfold Env.out at ho
 cases hn:QE p with
 | false=>simp[hn] at ho
 | true=>
  rw[hn,aLB] at ho
  obtain⟨y0,hl,ho⟩:=aLa.1 ho
  split at ho
  ·rename_i S F X hdr
   simp only[aLd,aLe] at ho
   obtain⟨F',_,rfl,_⟩:=ho
   exact QqS hdr
  ·cases ho
theorem QCd {o:Operand} {want:Sh} {e':Env} {y:Dv} (h:e.take o.slot want (e.opd o)=some (e',y)):JP e e':=by
 cases hd:e.opd o with
 | v s f x=>
  rw[hd] at h
  simp only[Env.take] at h
  cases hz:f.isz with
  | true=>simp only[hz,aLB,aLb,aLe] at h;obtain⟨rfl,_⟩:=h;exact .refl e
  | false=>
   rw[hz,aLC] at h
   cases o with
   | tmp t=>
    simp only[Operand.slot,aLb,aLe] at h
    obtain⟨rfl,_⟩:=h
    intro u hu
    have hut:t ≠ u:=by rintro rfl;exact hu _ _ _ hd
    simp only[Env.setS,Env.s,upd,Yw]
    rw[if_neg (fun h=>hut h.1)]
   | const v=>simp[Operand.slot] at h
   | func v=>simp[Operand.slot] at h
   | global v=>simp[Operand.slot] at h
 | bor r ver p=>
  rw[hd] at h
  simp only[Env.take,aLa] at h
  obtain⟨y0,hl,h⟩:=h
  cases hz:y0.fl.isz with
  | true=>simp only[hz,aLB,aLb,aLe] at h;obtain⟨rfl,_⟩:=h;exact .refl e
  | false=>
   rw[hz,aLC] at h
   cases hx:y0.fl.isx with
   | true=>rw[hx,aLB] at h;cases h
   | false=>
    rw[hx,aLC] at h
    split at h
    ·rename_i S F X hdr
     simp only[aLd,aLe] at h
     obtain⟨F',_,rfl,_⟩:=h
     exact QqS hdr
    ·cases h
 | nil=>
  rw[hd] at h
  simp only[Env.take] at h
  split at h
  ·simp only[aLb,aLe] at h;obtain⟨rfl,_⟩:=h;exact .refl e
  ·cases h
 | dead=>rw[hd] at h;simp[Env.take] at h
 | und=>rw[hd] at h;simp[Env.take] at h
 | loc r ver p=>rw[hd] at h;simp[Env.take] at h
 | rp s x=>rw[hd] at h;simp[Env.take] at h
 | rpp s x=>rw[hd] at h;simp[Env.take] at h
 | clos j c=>rw[hd] at h;simp[Env.take] at h
 | tup l=>rw[hd] at h;simp[Env.take] at h
end Go.Dx
namespace Go.Dx
variable {P:Program} {B:Base} {g:Gh} {e:Env} {a:Act} {w:World} {C:Ctx}
def Qeb (e e':Env):Prop:=∀r S F X,(e.root r).d=.v S F X->(∃F',(e'.root r).d=.v S F' X)\/((e'.root r).d=.dead/\∃t,r=.s t)
theorem Qeb.refl (e:Env):Qeb e e:=fun n S F X h=>.inl ⟨F,h⟩
theorem JP.trans {e e' e'':Env} (h:JP e e') (k:JP e' e''):JP e e'':=fun t ht=>(k t (by rw[h t ht];exact ht)).trans (h t ht)
theorem Qeb.trans {e e' e'':Env} (h:Qeb e e') (k:Qeb e' e'') (l:JP e' e''):Qeb e e'':=by
 intro r S F X hd
 rcases h r S F X hd with ⟨F',h'⟩ | ⟨h',t,rfl⟩
 ·exact k r S F' X h'
 ·right
  refine⟨?_,t,rfl⟩
  rw[show e''.root (.s t)=e'.root (.s t) from l t (fun S F X hh=>by rw[show (e'.s t).d=.dead from h'] at hh;cases hh)]
  exact h'
theorem QnW {r:Root} {S:Sh} {F F':Fl} {X:S.den} (hd:(e.root r).d=.v S F X):Qeb e (e.flag r (.v S F' X)):=by
 intro n S2 F2 X2 h2
 left
 rw[ZC hd]
 split
 ·rename_i hr;subst hr
  rw[h2] at hd
  simp only[Desc.v.injEq] at hd
  obtain⟨rfl,rfl,hx⟩:=hd
  have hx:=eq_of_heq hx
  subst hx
  exact⟨F',rfl⟩
 ·exact⟨F2,h2⟩
theorem QvW {r:Root} {l:Option Dv} {p:List Step} {e':Env} {y:Dv} (ho:e.out r l p=some (e',y)):Qeb e e':=by
 unfold Env.out at ho
 cases hn:QE p with
 | false=>simp[hn] at ho
 | true=>
  rw[hn,aLB] at ho
  obtain⟨y0,hl,ho⟩:=aLa.1 ho
  split at ho
  ·rename_i S F X hdr
   simp only[aLd,aLe] at ho
   obtain⟨F',_,rfl,_⟩:=ho
   exact QnW hdr
  ·cases ho
theorem QAA {o:Option Nat} {d:Desc} {want:Sh} {e':Env} {y:Dv} (h:e.take o want d=some (e',y)):Qeb e e':=by
 cases d with
 | v s f x=>
  simp only[Env.take] at h
  cases hz:f.isz with
  | true=>simp only[hz,aLB,aLb,aLe] at h;obtain⟨rfl,_⟩:=h;exact .refl e
  | false=>
   rw[hz,aLC] at h
   cases o with
   | some t=>
    simp only[aLb,aLe] at h;obtain⟨rfl,_⟩:=h
    intro r S F X hd
    cases r with
    | b n=>exact .inl ⟨F,hd⟩
    | s u=>
     have hu:=Env.lt_of_v (e:=e) (i:=u) hd
     by_cases htu:t=u
     ·subst htu
      right
      refine⟨?_,t,rfl⟩
      show ((e.setS t .dead).s t).d=.dead
      rw[QhS hu,if_pos rfl]
     ·left
      refine⟨F,?_⟩
      show ((e.setS t .dead).s u).d=_
      simp only[Env.setS,Env.s,upd,Yw]
      rw[if_neg (fun h=>htu h.1)]
      exact hd
   | none=>simp at h
 | bor r ver p=>
  simp only[Env.take,aLa] at h
  obtain⟨y0,hl,h⟩:=h
  cases hz:y0.fl.isz with
  | true=>simp only[hz,aLB,aLb,aLe] at h;obtain⟨rfl,_⟩:=h;exact .refl e
  | false=>
   rw[hz,aLC] at h
   cases hx:y0.fl.isx with
   | true=>rw[hx,aLB] at h;cases h
   | false=>
    rw[hx,aLC] at h
    split at h
    ·rename_i S F X hdr
     simp only[aLd,aLe] at h
     obtain⟨F',_,rfl,_⟩:=h
     exact QnW hdr
    ·cases h
 | nil=>
  simp only[Env.take] at h
  split at h
  ·simp only[aLb,aLe] at h;obtain⟨rfl,_⟩:=h;exact .refl e
  ·cases h
 | dead=>simp[Env.take] at h
 | und=>simp[Env.take] at h
 | loc r ver p=>simp[Env.take] at h
 | rp s x=>simp[Env.take] at h
 | rpp s x=>simp[Env.take] at h
 | clos j c=>simp[Env.take] at h
 | tup l=>simp[Env.take] at h
theorem QsY:∀p:List Step,p=Qec p++Qhe p
 | []=>rfl
 | .fst::r=>congrArg (Step.fst :: ·) (QsY r)
 | .snd::r=>congrArg (Step.snd :: ·) (QsY r)
 | .idx _::_=>rfl
 | .sub _ _::_=>rfl
theorem QzG:∀(p:List Step) {S:Sh} {F:Fl},ownP S F p=true->Qj S F p=true:=by
 intro p
 induction p with
 | nil=>intro S F _;simp only[Qj]
 | cons st p ih=>
  intro S F h
  cases S with
  | prod a b=>cases st<;>first | (simp[ownP] at h;done) | exact ih h
  | list s=>
   cases st with
   | fst=>simp[ownP] at h
   | snd=>simp[ownP] at h
   | sub l h'=>simp[ownP] at h
   | idx i=>
    cases F with
    | o f=>simp only[Qj,Bool.true_and];exact ih (F:=f) h
    | z=>simp[ownP] at h
    | x=>simp[ownP] at h
    | p a b=>simp[ownP] at h
    | h f0 i0=>simp[ownP] at h
  | int k=>cases st<;>simp[ownP] at h
  | bool=>cases st<;>simp[ownP] at h
  | str=>cases st<;>simp[ownP] at h
  | fn1 a r rf=>cases st<;>simp[ownP] at h
  | fn2 a b r=>cases st<;>simp[ownP] at h
theorem Qzc:∀(p:List Step) {S:Sh} {F:Fl} {X:S.den} {q:List Step} {y:Dv},QE p=true->getP S F X p=some y->ownP S F (p++q)=ownP y.sh y.fl q:=by
 intro p
 induction p with
 | nil=>intro S F X q y _ h;simp only[getP,aLb] at h;subst h;rfl
 | cons st p ih=>
  intro S F X q y hn h
  cases S<;>cases st<;>first | (simp[getP] at h;done) | (simp[QE] at hn;done) | exact ih hn h
def Qkx (P:Program) (g:Gh) (e:Env) (a:Act) (w:World) (i:Nat) (p:PS) (v:Value):Option ((s:Sh)×s.den)->List WB->Prop
 | none,wbs=>wbs=[]/\((∃s,p=.v s .z)\/∃s q,p=.rp s q)
 | some x,wbs=>x.1=p.sh/\match p with
  | .v s f=>wbs=[]/\RepV P x.1 f g.Z w (g.S (.fl i)) v x.2
  | .rp _ _=>False
  | .io s f f'=>∃n q S F X hb ho mid,wbs=[⟨.b n,q,s,f',true,mid,[]⟩]/\QE q=true/\getS S q=some s/\(e.root (.b n)).d=.v S F X/\g.pl n=.cells hb ho/\v=.pointer (some ⟨hb,ho+offs S q,none⟩)/\
    RepC P x.1 f g.Z w (g.S (.fl i)) (Qe w hb (ho+offs S q)) x.2
  | .mu s f f'=>RepV P x.1 f g.Z w (g.S (.fl i)) v x.2/\∃r q S X T1 mid rest,wbs=[⟨r,q,s,f',false,mid,rest⟩]/\QE q=true/\getS S q=some mid.sh/\((∃F,(e.root r).d=.v S F X)\/((e.root r).d=.dead/\∃t,r=.s t))/\
    (∀j,T1 j->g.ow j=.fl (PK+i))/\Wand P w g.Z T1 mid.sh mid.fl mid.x rest (fun k=>Qm g a w r (offs S q+k)) (Qn w mid.sh (fun k=>Qm g a w r (offs S q+k)) rest)/\
    getS mid.sh rest=some s/\∀k,k<s.size->Qk v k=Qn w mid.sh (fun k=>Qm g a w r (offs S q+k)) rest k
theorem QDz (h:Rel P B g e a w) {i:Nat} (hi:i<PK) (hno:∀j m,Fr i m->g.ow j ≠ .fl m) {r:Root} {l:Option Dv} {q rest:List Step} {e1:Env} {mid y:Dv} {v:Value} {s:Sh} {f f':Fl}
  (hl:∀y,l=some y->∃S F X,(e.root r).d=.v S F X/\getP S F X q=some y) (hout:e.out r l q=some (e1,mid)) (hown:ownP mid.sh mid.fl rest=true) (hget:getP mid.sh mid.fl mid.x rest=some y) (hpath:QH mid.sh mid.x rest) (hsh:y.sh=s) (hw:Qr y.sh y.fl f=true)
  (hform:Y4 s v) (hcells:∀S F X,(e.root r).d=.v S F X->∀k,k<s.size->Qk v k=Qn w mid.sh (Qn w S (Qm g a w r) q) rest k) :
  ∃g1,Gave g g1 i/\Rel P B g1 e1 a w/\JP e e1/\Qeb e e1/\Qkx P g1 e1 a w i (.mu s f f') v (some ⟨y.sh,y.x⟩) [⟨r,q,s,f',false,mid,rest⟩]:=by
 obtain⟨S,F,X,F',g1,hn,hver,hdr,hg,hF',rfl,hfl,h1,hr1⟩:=Qry h i hl hout
 obtain⟨T1,ht1,hsub,hwand⟩:=RepC.hole rest hr1 hpath hown hget
 have hne:∀j t,t ≠ .fl i->g1.ow j=t->(g1.re T1 (.fl (PK+i))).ow j=t:=fun j t ht hj=>(Gh.re_out fun hT=>ht (hj.symm.trans (ht1 j hT))).trans hj
 have h2:Rel P B (g1.re T1 (.fl (PK+i))) (e.flag r (.v S F' X)) a w:=h1.fly rfl (fun j _ hm=>⟨Gh.re_out (fun hT=>hm i (ht1 j hT)),rfl⟩) (Streams.refl _) (fun j hj=>by
  refine h1.lt j fun h0=>hj ?_
  exact hne j _ (by simp) h0)
 subst hsh
 have hsub2:=hsub.mono (Z':=(g1.re T1 (.fl (PK+i))).Z) (S':=(g1.re T1 (.fl (PK+i))).S (.fl i)) (fun j hj=>hne j _ (by simp) hj) (fun j hj=>(Gh.re_out hj.2).trans hj.1)
 obtain⟨k1,k2,k3,k4⟩:=Jr w q (c:=Qm g a w r) hn (ZM q hg)
 have hcv:=hcells S F X hdr
 rw[k1] at hcv hsub2 hwand
 have hsub3:=RepC.congr hcv hsub2
 obtain⟨g3,hpl3,how3,h3,hr3⟩:=QxB h2 hw hsub3
 have hrc:Qm g3 a w r=Qm g a w r:=by rw[ZT (g:=g) (hpl3.trans hfl.pl)]
 have hPK:PK+i ≠ i:=by simp only[PK];omega
 have how4:∀j,g3.ow j=g1.ow j\/(g1.ow j=.fl i/\(g3.ow j=.fz\/g3.ow j=.fl (PK+i))):=fun j=>by
  by_cases hT:T1 j
  ·rcases how3 j with h4 | ⟨h4,_⟩
   ·rw[Gh.re_in hT] at h4;exact .inr ⟨ht1 j hT,.inr h4⟩
   ·rw[Gh.re_in hT] at h4;simp only[Tag.fl.injEq] at h4;omega
  ·rcases how3 j with h4 | ⟨h4,h5⟩
   ·rw[Gh.re_out hT] at h4;exact .inl h4
   ·rw[Gh.re_out hT] at h4;exact .inr ⟨h4,.inl h5⟩
 have hz3:∀j,g1.ow j=.fz->g3.ow j=.fz:=fun j hj=>by
  rcases how4 j with h4 | ⟨h4,_⟩
  ·exact h4.trans hj
  ·rw[h4] at hj;cases hj
 refine⟨g3,.of hfl (fun j=>hno j i (.inl ⟨Nat.le_refl _,hi⟩)) hpl3 how4,h3,Qy2 hout,QvW hout,rfl,⟨hform,hr3⟩,r,q,S,X,T1,mid,rest,rfl,hn,ZM q hg,.inl ⟨F',?_⟩,fun j hj=>?_,?_,ZM rest hget,?_⟩
 ·rw[ZC hdr,if_pos rfl]
 ·rcases how3 j with h4 | ⟨h4,_⟩
  ·exact h4.trans (Gh.re_in hj)
  ·rw[Gh.re_in hj] at h4;simp only[Tag.fl.injEq] at h4;omega
 ·rw[hrc];exact hwand.mono hz3
 ·rw[hrc];exact hcv
theorem QDK (h:Rel P B g e a w) {i:Nat} (hi:i<PK) (hnoF:∀j m,Fr i m->g.ow j ≠ .fl m) {p:PS} {o:Operand} {e1:Env} {x:Option ((s:Sh)×s.den)} {wbs:List WB} (hq:argA e p o=some (e1,x,wbs)) :
  ∃g1,Gave g g1 i/\Rel P B g1 e1 a w/\JP e e1/\Qeb e e1/\Qkx P g1 e1 a w i p (a.eval o) x wbs:=by
 have hno:∀j,g.ow j ≠ .fl i:=fun j=>hnoF j i (.inl ⟨Nat.le_refl _,hi⟩)
 obtain⟨T,hd,ht,_⟩:=QD h o
 have tk:∀{s:Sh} {f:Fl} (d:Desc),e.opd o=d->p=.v s f->((e.take o.slot s d).bind fun (q:Env×Dv)=>bif decide (q.2.sh=s)&&Qr q.2.sh q.2.fl f then some (q.1,some (⟨q.2.sh,q.2.x⟩:(s:Sh)×s.den),([]:List WB)) else none)=some (e1,x,wbs)->
   ∃g1,Gave g g1 i/\Rel P B g1 e1 a w/\JP e e1/\Qeb e e1/\Qkx P g1 e1 a w i p (a.eval o) x wbs:=by
  intro s f d hdd hp hq2
  clear hq
  subst hdd hp
  replace hq2:=aLa.1 hq2;obtain⟨⟨e2,y⟩,htake,hq⟩:=hq2
  cases hc:decide (y.sh=s)&&Qr y.sh y.fl f with
  | false=>simp[hc] at hq
  | true=>
   simp only[hc,aLB,aLb,aLe] at hq
   obtain⟨rfl,rfl,rfl⟩:=hq
   simp only[aLg,aLF] at hc
   obtain⟨hsh,hw⟩:=hc
   obtain⟨g1,hfl,h1,hr1⟩:=QeQ h i hno hd ht htake
   obtain⟨g2,hpl2,how2,h2,hr2⟩:=Qj5 h1 hw hr1
   exact⟨g2,.of hfl hno hpl2 (fun j=>(how2 j).imp id (fun h=>⟨h.1,.inl h.2⟩)),h2,QCd htake,QAA htake,hsh,rfl,hr2⟩
 unfold argA at hq
 split at hq
 ·
  rename_i s s' f v hxd
  by_cases hs:s'=s
  ·subst hs
   simp only[decide_true,aLB] at hq
   cases hz:f.isz with
   | true=>
    simp only[hz,aLB,aLb,aLe] at hq
    obtain⟨rfl,rfl,rfl⟩:=hq
    rw[hxd] at hd
    obtain rfl:=Qbj hz
    exact⟨g,.refl g i,h,.refl e,.refl e,rfl,rfl,RepV.shared hd⟩
   | false=>
    rw[hz,aLC] at hq
    cases hok:okS s' f with
    | false=>simp[hok] at hq
    | true=>
     simp only[hok,aLB,aLd,aLe] at hq
     obtain⟨t,hts,rfl,rfl,rfl⟩:=hq
     obtain⟨h1,h2,rfl⟩:=ht t hts
     rw[hxd] at h1
     obtain⟨g',hpl,hk,hrel⟩:=Qur (p:=[]) (y:=⟨s',f,v⟩) (F':=.z) h (.s t) h1 (by simp only[getP]) hok (by simp only[setF])
     have hsl:=hrel.sl t
     rw[show ((e.flag (.s t) (.v s' .z v)).s t).d=.v s' .z v by show ((e.flag (.s t) (.v s' .z v)).root (.s t)).d=_;rw[ZC (r:=.s t) h1,if_pos rfl],h2] at hsl
     refine⟨g',⟨hpl,fun j=>?_⟩,hrel,QqS (r:=.s t) h1,QnW (r:=.s t) h1,rfl,rfl,RepV.shared hsl⟩
     rcases hk j with h3 | ⟨h3,h4⟩
     ·exact .inl h3
     ·exact .inr ⟨.inr (.inr h4),.inl ⟨t,h3⟩⟩
  ·simp[hs] at hq
 ·cases hq
 ·simp only[aLb,aLe] at hq
  obtain⟨rfl,rfl,rfl⟩:=hq
  exact⟨g,.refl g i,h,.refl e,.refl e,rfl,.inl ⟨_,rfl⟩⟩
 ·rename_i d hd' hne
  exact tk _ rfl rfl hq
 ·simp only[aLb,aLe] at hq
  obtain⟨rfl,rfl,rfl⟩:=hq
  exact⟨g,.refl g i,h,.refl e,.refl e,rfl,.inr ⟨_,_,rfl⟩⟩
 ·
  rename_i s f f' r ver q hxd
  obtain⟨⟨e2,y⟩,hout,hq⟩:=aLa.1 hq
  cases hc:decide (y.sh=s)&&Qr y.sh y.fl f with
  | false=>simp[hc] at hq
  | true=>
   simp only[hc,aLB,aLb,aLe] at hq
   obtain⟨rfl,rfl,rfl⟩:=hq
   simp only[aLg,aLF] at hc
   obtain⟨hsh,hw⟩:=hc
   obtain⟨S,F,X,F',g1,hn,hver,hdr,hg,hF',rfl,hfl,h1,hr1⟩:=QDE h i hout
   rw[hxd] at hd
   have hd:Qa3 g e a w r ver q (a.eval o):=hd
   obtain⟨_,hpl⟩:=(hd.2.2 hver).2 S F X hdr
   obtain⟨b,off,hA,hpt⟩:=hpl (Qba q hn (ZM q hg))
   obtain⟨k1,k2,k3,k4⟩:=Jr w q (c:=Qm g a w r) hn (ZM q hg)
   cases r with
   | s t=>rw[show QX g (.s t)=none from rfl,k3] at hA;cases hA
   | b n=>
    cases hpn:g.pl n with
    | hdr u=>rw[show QX g (.b n)=none by simp[QX,hpn],k3] at hA;cases hA
    | cells hb ho=>
     rw[show QX g (.b n)=some (hb,ho) by simp[QX,hpn],k2] at hA
     simp only[aLb,aLe] at hA
     obtain⟨rfl,rfl⟩:=hA
     have hcell:Qn w S (Qm g a w (.b n)) q=Qe w hb (ho+offs S q):=by
      rw[k1,QgG g a w (show QX g (.b n)=some (hb,ho) by simp[QX,hpn])]
      funext k;simp[Qe,Nat.add_assoc]
     rw[hcell] at hr1
     obtain⟨g2,hpl2,how2,h2,hr2⟩:=QxB h1 hw hr1
     refine⟨g2,.of hfl hno hpl2 (fun j=>(how2 j).imp id (fun h=>⟨h.1,.inl h.2⟩)),h2,Qy2 hout,QvW hout,hsh,n,q,S,F',X,hb,ho,y,rfl,hn,hsh ▸ ZM q hg,?_,by rw[hpl2,hfl.pl];exact hpn,hpt,hr2⟩
     show ((e.flag (.b n) _).root (.b n)).d=_
     rw[ZC hdr,if_pos rfl]
 ·cases hq
 ·
  rename_i s f f' r ver q hxd
  obtain⟨⟨e2,mid,y⟩,hout,hq⟩:=aLa.1 hq
  cases hc:decide (y.sh=s)&&Qr y.sh y.fl f with
  | false=>simp[hc] at hq
  | true=>
   simp only[hc,aLB,aLb,aLe] at hq
   obtain⟨rfl,rfl,rfl⟩:=hq
   simp only[aLg,aLF] at hc
   obtain⟨hsh,hw⟩:=hc
   unfold Env.outM at hout
   obtain⟨⟨e3,mid'⟩,hout1,h2⟩:=aLa.1 hout
   cases hown:ownP mid'.sh mid'.fl (Qhe q) with
   | false=>simp[hown] at h2
   | true=>
    simp only[hown,aLB,aLd,aLe] at h2
    obtain⟨y',hget,rfl,rfl,rfl⟩:=h2
    have hlU:∀y,((e.look r ver q).bind fun _=>e.lookU r (Qec q))=some y->∃S F X,(e.root r).d=.v S F X/\getP S F X (Qec q)=some y:=fun y hy=>by
     obtain⟨_,_,hy⟩:=aLa.1 hy
     exact QAJ hy
    obtain⟨S,F,X,F',g1,hn,hl0,hdr,hg,_⟩:=Qry h i hlU hout1
    obtain⟨y0,hlk,_⟩:=aLa.1 hl0
    have hver:=(h.look hlk).1
    rw[hxd] at hd
    have hd:Qb2 g e a w r ver q (a.eval o):=hd
    obtain⟨hpath,hcl⟩:=hd.2 hver S F X hdr
    have hq':=QsY q
    have hget':getP S F X q=some y':=by rw[hq',Qgz,hg];exact hget
    rw[hq'] at hpath
    obtain⟨_,hpath⟩:=Qpb _ hg hpath
    have hng:Qj S F q=true:=QzG q (by rw[hq',Qzc _ hn hg];exact hown)
    obtain⟨hform,hcells⟩:=hcl hng _ (ZM q hget')
    subst hsh
    refine QDz h hi hnoF hlU hout1 hown hget hpath rfl hw hform (fun S2 F2 X2 hd2 k hk=>?_)
    obtain⟨rfl,rfl,hX⟩:=Yb (hdr.symm.trans hd2)
    rw[hcells k hk,hq',QgS _ (ZM _ hg),<-hq']
 ·rename_i s f f' s' fl v hxd
  obtain⟨t,hts,hq⟩:=aLa.1 hq
  obtain⟨⟨e2,y⟩,hout,hq⟩:=aLa.1 hq
  cases hc:decide (y.sh=s)&&Qr y.sh y.fl f with
  | false=>simp[hc] at hq
  | true=>
   simp only[hc,aLB,aLb,aLe] at hq
   obtain⟨rfl,rfl,rfl⟩:=hq
   simp only[aLg,aLF] at hc
   obtain⟨hsh,hw⟩:=hc
   have hlk:∀y,e.look (.s t) (e.s t).hv []=some y->∃S F X,(e.root (.s t)).d=.v S F X/\getP S F X []=some y:=fun y hy=>(h.look hy).2
   obtain⟨S,F,X,F',g1,hn,hver,hdr,hg,_⟩:=Qry h i hlk hout
   obtain⟨q1,q2,rfl⟩:=ht t hts
   rw[hxd] at hd q1
   have hdr':=hdr
   rw[show (e.root (.s t)).d=_ from q1] at hdr'
   obtain⟨rfl,rfl,hX⟩:=Yb hdr'
   subst hX
   simp only[getP,aLb] at hg
   subst hg
   have hd:RepV P s' fl g.Z w (g.S (.s t)) (a.eval o) v:=hd
   subst hsh
   refine QDz h hi hnoF hlk hout (by simp only[ownP]) (by simp only[getP]) (by simp only[QH]) rfl hw hd.1 (fun S2 F2 X2 hd2 k hk=>?_)
   simp only[Qn,Qm,q2]
 ·cases hq
theorem Qkx.step {g g':Gh} {e e':Env} {i:Nat} {p:PS} {v:Value} {x:Option ((s:Sh)×s.den)} {wbs:List WB} (h:Qkx P g e a w i p v x wbs)
  (hpl:g'.pl=g.pl) (hfl:∀j,g.ow j=.fl i->g'.ow j=.fl i) (hpk:∀j,g.ow j=.fl (PK+i)->g'.ow j=.fl (PK+i)) (hfz:∀j,g.ow j=.fz->g'.ow j=.fz) (hk:Qeb e e') (hl:JP e e'):Qkx P g' e' a w i p v x wbs:=by
 cases x with
 | none=>exact h
 | some x=>
  refine⟨h.1,?_⟩
  have h2:=h.2
  cases p with
  | v s f=>exact⟨h2.1,h2.2.frame hfz hfl (fun _ _=>rfl)⟩
  | rp s q=>exact h2.elim
  | io s f f'=>
   obtain⟨n,q,S,F,X,hb,ho,mid,h3,h4,h5,h6,h7,h8,h9⟩:=h2
   rcases hk _ S F X h6 with ⟨F',h6'⟩ | ⟨_,t,ht⟩
   ·exact⟨n,q,S,F',X,hb,ho,mid,h3,h4,h5,h6',by rw[hpl];exact h7,h8,h9.frame hfz hfl (fun _ _=>rfl)⟩
   ·cases ht
  | mu s f f'=>
   obtain⟨h3,r,q,S,X,T1,mid,rest,h4,h5,h6,h7,h8,h9,h10,h11⟩:=h2
   have hrc:Qm g' a w r=Qm g a w r:=ZT hpl _ _ _
   refine⟨h3.frame hfz hfl (fun _ _=>rfl),r,q,S,X,T1,mid,rest,h4,h5,h6,?_,fun j hj=>hpk j (h8 j hj),by rw[hrc];exact h9.mono hfz,h10,by rw[hrc];exact h11⟩
   rcases h7 with ⟨F,h7⟩ | h7
   ·exact hk _ S F X h7
   ·obtain⟨h7,t,rfl⟩:=h7
    refine .inr ⟨?_,t,rfl⟩
    rw[show e'.root (.s t)=e.root (.s t) from hl t (fun S F X hh=>by rw[show (e.s t).d=.dead from h7] at hh;cases hh)];exact h7
def Qf1 (P:Program) (g:Gh) (e:Env) (a:Act) (w:World):Nat->List PS->List Operand->List (Option ((s:Sh)×s.den))->List WB->Prop
 | i,p::ps,o::os,x::xs,wbs=>∃w1 w2,wbs=w1++w2/\Qkx P g e a w i p (a.eval o) x w1/\Qf1 P g e a w (i+1) ps os xs w2
 | _,[],[],[],wbs=>wbs=[]
 | _,_,_,_,_=>False
theorem Qf1.step {g g':Gh} {e e':Env} (hpl:g'.pl=g.pl) (hfl:∀j m,g.ow j=.fl m->g'.ow j=.fl m) (hfz:∀j,g.ow j=.fz->g'.ow j=.fz) (hk:Qeb e e') (hl:JP e e') :
  ∀(ps:List PS) (i:Nat) {os:List Operand} {xs:List (Option ((s:Sh)×s.den))} {wbs:List WB},Qf1 P g e a w i ps os xs wbs->Qf1 P g' e' a w i ps os xs wbs:=by
 intro ps
 induction ps with
 | nil=>intro i os xs wbs h;cases os<;>cases xs<;>first | exact h | exact h.elim
 | cons p ps ih=>
  intro i os xs wbs h
  cases os with
  | nil=>exact h.elim
  | cons o os=>
   cases xs with
   | nil=>exact h.elim
   | cons x xs=>
    obtain⟨w1,w2,h1,h2,h3⟩:=h
    exact⟨w1,w2,h1,h2.step hpl (fun j=>hfl j i) (fun j=>hfl j (PK+i)) hfz hk hl,ih (i+1) h3⟩
structure Gives (g g':Gh) (i:Nat):Prop where
 pl:g'.pl=g.pl
 ow:∀j,g'.ow j=g.ow j\/(((∃m,Fr i m/\g'.ow j=.fl m)\/g'.ow j=.fz)/\((∃n,g.ow j=.s n)\/∃n,g.ow j=.b n))
theorem Gives.keep {g g':Gh} {i:Nat} (h:Gives g g' i) {j:Nat} {t:Tag} (hj:g.ow j=t) (h1:∀n,t ≠ .s n) (h2:∀n,t ≠ .b n):g'.ow j=t:=by
 rcases h.ow j with h3 | ⟨_,h3⟩
 ·exact h3.trans hj
 ·rcases h3 with ⟨n,h3⟩ | ⟨n,h3⟩
  ·exact absurd (hj.symm.trans h3) (h1 n)
  ·exact absurd (hj.symm.trans h3) (h2 n)
theorem Fr.succ {i m:Nat} (h:Fr (i+1) m):Fr i m:=by unfold Fr at *;omega
theorem QCA:∀(ps:List PS) (os:List Operand) (i:Nat) {e e1:Env} {g:Gh} {xs:List (Option ((s:Sh)×s.den))} {wbs:List WB},i+ps.length<=PK->Rel P B g e a w->(∀j m,Fr i m->g.ow j ≠ .fl m)->Qd3 e ps os=some (e1,xs,wbs)->
  ∃g1,Gives g g1 i/\Rel P B g1 e1 a w/\JP e e1/\Qeb e e1/\Qf1 P g1 e1 a w i ps os xs wbs:=by
 intro ps
 induction ps with
 | nil=>
  intro os i e e1 g xs wbs _ h hno hq
  cases os with
  | nil=>
   simp only[Qd3,aLb,aLe] at hq
   obtain⟨rfl,rfl,rfl⟩:=hq
   exact⟨g,⟨rfl,fun _=>.inl rfl⟩,h,.refl e,.refl e,rfl⟩
  | cons o os=>simp[Qd3] at hq
 | cons p ps ih=>
  intro os i e e1 g xs wbs hlen h hno hq
  simp only[aLh] at hlen
  have hi:i<PK:=by omega
  cases os with
  | nil=>simp[Qd3] at hq
  | cons o os=>
   simp only[Qd3,aLa,aLd] at hq
   obtain⟨⟨e2,x,w1⟩,hA,⟨e3,xs',w2⟩,hR,hq⟩:=hq
   simp only[aLe] at hq
   obtain⟨rfl,rfl,rfl⟩:=hq
   obtain⟨g1,hg1,h1,kl1,kb1,go1⟩:=QDK h hi hno hA
   obtain⟨g2,hg2,h2,kl2,kb2,go2⟩:=ih os (i+1) (by omega) h1 (fun j m hm hj=>by
    rcases hg1.ow j with h3 | ⟨h3,_⟩
    ·exact hno j m hm.succ (h3.symm.trans hj)
    ·rcases h3 with h3 | h3 | h3
     ·have:=h3.symm.trans hj
      simp only[Tag.fl.injEq] at this;unfold Fr at hm;omega
     ·have:=h3.symm.trans hj
      simp only[Tag.fl.injEq] at this;unfold Fr at hm;omega
     ·rw[h3] at hj;cases hj) hR
   refine⟨g2,⟨hg2.pl.trans hg1.pl,fun j=>?_⟩,h2,kl1.trans kl2,kb1.trans kb2 kl2,w1,w2,rfl,go1.step hg2.pl (fun j hj=>hg2.keep hj (by simp) (by simp)) (fun j hj=>hg2.keep hj (by simp) (by simp)) (fun j hj=>hg2.keep hj (by simp) (by simp)) kb2 kl2,go2⟩
   rcases hg2.ow j with h3 | ⟨h3,h4⟩
   ·rcases hg1.ow j with h5 | ⟨h5,h6⟩
    ·exact .inl (h3.trans h5)
    ·refine .inr ⟨?_,h6⟩
     rcases h5 with h | h | h
     ·exact .inl ⟨i,.inl ⟨Nat.le_refl _,hi⟩,h3.trans h⟩
     ·exact .inl ⟨PK+i,.inr (Nat.le_refl _),h3.trans h⟩
     ·exact .inr (h3.trans h)
   ·rcases hg1.ow j with h5 | ⟨h5,h6⟩
    ·exact .inr ⟨h3.elim (fun ⟨m,hm,h⟩=>.inl ⟨m,hm.succ,h⟩) .inr,by rw[<-h5];exact h4⟩
    ·exact .inr ⟨h3.elim (fun ⟨m,hm,h⟩=>.inl ⟨m,hm.succ,h⟩) .inr,h6⟩
end Go.Dx
namespace Go.Dx
variable {P:Program} {B:Base} {g:Gh} {e:Env} {a:Act} {w:World} {C:Ctx}
theorem QAt {Z:Nat->Prop} {w:World}:∀(p:List Step) {S:Sh} {F:Fl} {Sg:Nat->Prop} {c:Nat->Option Value} {X:S.den} {base:Option (Nat×Nat)} {b off:Nat},
  RepC P S F Z w Sg c X->QH S X p->Qj S F p=true->Ql S base w c p=some (b,off)->Sg b\/Z b\/∃o,base=some (b,o):=by
 intro p
 induction p with
 | nil=>intro S F Sg c X base b off _ _ _ ha;simp only[Ql] at ha;exact .inr (.inr ⟨off,ha⟩)
 | cons st p ih=>
  intro S F Sg c X base b off hr hp hn ha
  cases S with
  | prod x y=>
   obtain⟨t,ra,rb⟩:=hr
   cases st with
   | fst=>exact (ih ra hp hn ha).imp (·.1) id
   | snd=>
    rcases ih rb hp hn ha with h | h | ⟨o,h⟩
    ·exact .inl h.1
    ·exact .inr (.inl h)
    ·obtain⟨u,hu,hu'⟩:=aLd.1 h
     simp only[aLe] at hu'
     exact .inr (.inr ⟨u.2,by rw[hu,<-hu'.1]⟩)
   | idx i=>simp[Ql] at ha
   | sub l h=>simp[Ql] at ha
  | list s=>
   cases st with
   | fst=>simp[Ql] at ha
   | snd=>simp[Ql] at ha
   | sub l h=>
    rcases ih (base:=none) (Qrr hr hp.1.1 hp.1.2.1 hp.1.2.2) hp.2 hn ha with h | h | ⟨o,h⟩
    ·exact .inl h
    ·exact .inr (.inl h)
    ·cases h
   | idx i=>
    have he:=Qg9 hr hp.1.1 hp.1.2
    simp only[Qj,aLg] at hn
    simp only[Ql] at ha
    have hin:=hp.1
    cases F with
    | z=>
     obtain⟨A,n,cap,e1,e2,e3,e4⟩:=hr
     obtain⟨b0,off0,rfl,hb,_⟩:=e4 (by omega)
     rw[e1] at ha he
     rcases ih he hp.2 hn.2 ha with h | h | ⟨o,h⟩
     ·exact .inl h
     ·exact .inr (.inl h)
     ·simp only[aLb,aLe] at h;exact .inr (.inl (h.1 ▸ hb))
    | o gg=>
     obtain⟨A,n,cap,e1,e2,e3,e4⟩:=hr
     rcases e4 with ⟨rfl,h,h'⟩ | ⟨b0,off0,arr,e,rfl,hS,_⟩
     ·omega
     ·rw[e1] at ha he
      rcases ih he hp.2 hn.2 ha with h | h | ⟨o,h⟩
      ·exact .inl h
      ·exact .inr (.inl h)
      ·simp only[aLb,aLe] at h;exact .inl (h.1 ▸ hS)
    | x=>simp at hn
    | p a b=>simp at hn
    | h f0 i0=>
     obtain⟨A,n,cap,e1,e2,e3,b0,off0,arr,e,rfl,hS,_⟩:=hr
     rw[e1] at ha he
     rcases ih he hp.2 hn.2 ha with h | h | ⟨o,h⟩
     ·exact .inl h
     ·exact .inr (.inl h)
     ·simp only[aLb,aLe] at h;exact .inl (h.1 ▸ hS)
  | int k=>cases st<;>simp[Ql] at ha
  | bool=>cases st<;>simp[Ql] at ha
  | str=>cases st<;>simp[Ql] at ha
  | fn1 a r rf=>cases st<;>simp[Ql] at ha
  | fn2 a b r=>cases st<;>simp[Ql] at ha
def Lent (g:Gh) (L:List Root):Nat->Prop:=fun i=>∃r,r ∈ L/\(g.ow i=tagR r\/∃n,r=.b n/\g.ow i=.c n)
def Zl (g:Gh) (L:List Root):Nat->Prop:=fun i=>g.Z i\/Lent g L i
theorem Lent.mono {L L':List Root} (h:∀r,r ∈ L->r ∈ L') {i:Nat} (hi:Lent g L i):Lent g L' i:=let ⟨r,hr,h2⟩:=hi;⟨r,h r hr,h2⟩
theorem Zl.mono {L L':List Root} (h:∀r,r ∈ L->r ∈ L') {i:Nat} (hi:Zl g L i):Zl g L' i:=hi.imp id (Lent.mono h)
theorem Zl.lt (h:Rel P B g e a w) {L:List Root} {i:Nat} (hi:Zl g L i):i<w.heap.size:=by
 refine h.lt i ?_
 rcases hi with hi | ⟨r,_,hi | ⟨n,_,hi⟩⟩
 ·rw[show g.ow i=.fz from hi];simp
 ·rw[hi];cases r<;>simp[tagR]
 ·rw[hi];simp
theorem Qy3 (h:Rel P B g e a w) {r:Root} {ver:Nat} {p:List Step} {v:Value} {y:Dv} (hd:Qa3 g e a w r ver p v) (hl:e.lookL r ver p=some y) (hok:okS y.sh y.fl=true) :
  ∃b o,v=.pointer (some ⟨b,o,none⟩)/\Zl g [r] b/\RepC P y.sh .z (Zl g [r]) w QS (Qe w b o) y.x:=by
 obtain⟨b,o,hpt,hver,S,F,X,hdr,hg,hp,hA,hc,hrep⟩:=Qtd h hd hl (YN hok)
 refine⟨b,o,hpt,?_,?_⟩
 ·have hroot:=h.root r hdr
  rcases QAt p hroot hp (Qgw p hg (YN hok)) hA with h1 | h1 | ⟨o',h1⟩
  ·exact .inr ⟨r,by simp,.inl (by cases r<;>exact h1)⟩
  ·exact .inl h1
  ·cases r with
   | s t=>simp[QX] at h1
   | b n=>
    simp only[QX] at h1
    split at h1
    ·rename_i hb ho hpl
     simp only[aLb,aLe] at h1
     have hbl:=h.bl n
     rw[show (e.b n).d=.v S F X from hdr] at hbl
     exact .inr ⟨.b n,by simp,.inr ⟨n,rfl,by rw[<-h1.1];exact (hbl.2 _ _ hpl).1⟩⟩
    ·cases h1
 ·exact (RepC.freeze hok hrep).mono (fun i hi=>hi.elim .inl (fun hi=>.inr ⟨r,by simp,.inl hi⟩)) (fun _ h=>h)
noncomputable def QeZ (Z:Nat->Prop):Nat->Tag:=fun i=>@ite _ (Z i) (Classical.propDecidable _) .fz .none
theorem JK {Z:Nat->Prop} {i:Nat} (h:Z i):QeZ Z i=.fz:=by simp[QeZ,h]
theorem QnO (Z:Nat->Prop) (i:Nat):QeZ Z i=.none\/QeZ Z i=.fz:=by unfold QeZ;split<;>simp
theorem Qra {Z:Nat->Prop} {i:Nat} (h:QeZ Z i=.fz):Z i:=by
 by_cases hz:Z i
 ·exact hz
 ·simp[QeZ,hz] at h
theorem Qv3 {s:Sh} {l:List Sh} {d:(s:Sh)×s.den} {ds:List ((s:Sh)×s.den)} {t:TupI (s::l)} (h:gatI (s::l) (d::ds)=some t):asS d s=some t.1/\gatI l ds=some t.2:=by
 simp only[gatI,aLa,aLb] at h
 obtain⟨x,hx,r,hr,rfl⟩:=h
 exact⟨hx,hr⟩
theorem QzQ (h:Rel P B g e a w):∀(cs:List PS) (i:Nat) {caps:List Desc} {vs:List Value} {l:List ((s:Sh)×s.den)} {t:TupI (cs.map PS.sh)} {Z':Nat->Prop} {w':World},QfY e cs caps=some l->gatI (cs.map PS.sh) l=some t->
  vs.length=caps.length->(∀(i:Nat) (d:Desc) (u:Value),caps[i]? = some d->vs[i]? = some u->Zv d=true/\Yr P g e a w .none d u)->After (Zl g (caps.flatMap capR)) Z' w w'->QbO P (QeZ Z') w' i cs vs t:=by
 intro cs
 induction cs with
 | nil=>
  intro i caps vs l t Z' w' hl ht hlen hd ha
  cases caps with
  | nil=>exact List.eq_nil_of_length_eq_zero hlen
  | cons d ds=>simp[QfY] at hl
 | cons p cs ih=>
  intro i caps vs l t Z' w' hl ht hlen hd ha
  cases caps with
  | nil=>simp[QfY] at hl
  | cons d ds=>
   cases vs with
   | nil=>simp at hlen
   | cons u us=>
    simp only[QfY,aLa,aLd] at hl
    obtain⟨x,hx,l',hl',rfl⟩:=hl
    obtain⟨hx1,ht'⟩:=Qv3 ht
    refine⟨?_,ih (i+1) hl' ht' (by simpa using hlen) (fun k d' u' hk hu=>hd (k+1) d' u' (by simpa using hk) (by simpa using hu))
     ⟨fun j hj=>ha.zz j (Zl.mono (fun r hr=>by simp only[List.flatMap_cons,List.mem_append];exact .inr hr) hj),fun j hj=>ha.heap j (Zl.mono (fun r hr=>by simp only[List.flatMap_cons,List.mem_append];exact .inr hr) hj),ha.lt⟩⟩
    obtain⟨hsc,hdo⟩:=hd 0 d u rfl rfl
    obtain⟨hs,hxx⟩:=Qej hx1
    generalize t.1=t1 at hxx hx1
    have hZ:∀j,g.Z j->Z' j/\w'.heap[j]? = w.heap[j]?:=fun j hj=>⟨ha.zz j (.inl hj),ha.heap j (.inl hj)⟩
    unfold capV at hx
    split at hx
    ·rename_i s s' f xx
     cases hc:decide (s'=s)&&f.isz with
     | false=>simp[hc] at hx
     | true=>
      simp only[hc,aLB,aLb] at hx
      subst hx
      simp only[aLg,aLF] at hc
      obtain⟨rfl,hz⟩:=hc
      obtain rfl:=Qbj hz
      have hxx:xx=t1:=hxx
      subst hxx
      have hdo:RepV P s' .z g.Z w (g.S .none) u xx:=hdo
      exact⟨hdo.1,(RepC.shared hdo.2).frame (fun j hj=>JK (hZ j hj).1) (fun _ h=>h.elim) (fun j hj=>(hZ j (hj.resolve_left id)).2)⟩
    ·rename_i s s' xx
     by_cases hss:s'=s
     ·subst hss
      simp only[decide_true,aLB,aLb] at hx
      subst hx
      have hxx:xx=t1:=hxx
      subst hxx
      obtain⟨b,o,h1,h2,h3⟩:=hdo
      exact⟨b,o,h1,JK (hZ b h2).1,by rw[Zm (hZ b h2).2];exact h3.frame (fun j hj=>JK (hZ j hj).1) (fun _ h=>h) (fun j hj=>(hZ j (hj.resolve_left id)).2)⟩
     ·simp[hss] at hx
    ·rename_i s s' xx
     by_cases hss:s'=s
     ·subst hss
      simp only[decide_true,aLB,aLb] at hx
      subst hx
      have hxx:xx=t1:=hxx
      subst hxx
      obtain⟨hb,ho,b,o,h1,h2,h3,h4,h5⟩:=hdo
      exact⟨hb,ho,b,o,h1,JK (hZ hb h2).1,by rw[Zm (hZ hb h2).2];exact h3,JK (hZ b h4).1,by rw[Zm (hZ b h4).2];exact h5.frame (fun j hj=>JK (hZ j hj).1) (fun _ h=>h) (fun j hj=>(hZ j (hj.resolve_left id)).2)⟩
     ·simp[hss] at hx
    ·rename_i s r ver q
     obtain⟨y,hy,hx⟩:=aLa.1 hx
     cases hc:decide (y.sh=s)&&okS y.sh y.fl with
     | false=>simp[hc] at hx
     | true=>
      simp only[hc,aLB,aLb] at hx
      subst hx
      simp only[aLg,aLF] at hc
      obtain⟨hsh,hok⟩:=hc
      obtain⟨ysh,yfl,yx⟩:=y
      simp only at hsh hok;subst hsh
      have hxx:yx=t1:=hxx
      subst hxx
      obtain⟨b,o,h1,h2,h3⟩:=Qy3 h hdo hy hok
      have hZ':∀j,Zl g [r] j->Z' j/\w'.heap[j]? = w.heap[j]?:=fun j hj=>by
       have:Zl g ((Desc.loc r ver q::ds).flatMap capR) j:=Zl.mono (fun r' hr=>by simp only[aLs] at hr;subst hr;simp[capR]) hj
       exact⟨ha.zz j this,ha.heap j this⟩
      exact⟨b,o,h1,JK (hZ' b h2).1,by rw[Zm (hZ' b h2).2];exact h3.frame (fun j hj=>JK (hZ' j hj).1) (fun _ h=>h) (fun j hj=>(hZ' j (hj.resolve_left id)).2)⟩
    ·cases hx
end Go.Dx
namespace Go.Dx
variable {P:Program} {B:Base} {g:Gh} {e:Env} {a:Act} {w:World} {C:Ctx}
theorem QyN (s:Sh):∀(l:List Sh) (y:TupO (s::l)),∃ys,scat (s::l) y=⟨s,fstO s l y⟩::ys
 | [],y=>⟨[],rfl⟩
 | b::l,y=>⟨_,rfl⟩
theorem QxC {K:Callee} (hdm:K.dm=true) {s':Sh} {f':Fl} {rf:Fl} (ho:K.outs=[(s',f')]) {Z':Nat->Prop} {w' w'':World} (hlt:∀i,Z' i->i<w'.heap.size) {vs:List Value} {ys:TupO (K.outs.map (·.1)++Qbs K.ins)} {ow':Nat->Tag} {vr:Value} (hp:Qir P K (QeZ Z') w' vs ys ow' w'' vr)
  {y:s'.den} (hy:∃l,scat _ ys=⟨s',y⟩::l) (hw:Qr s' f' rf=true):Qt8 Z' w' (fun Z'' w'' own vr=>Y4 s' vr/\RepC P s' rf Z'' w'' own (Qk vr) y) (.returned vr) w'':=by
 obtain⟨l,hl⟩:=hy
 have hres:=hp.res
 rw[hl,ho] at hres
 have hres:RepV P s' f' (Zo ow') w'' (So ow' (.fl 0)) vr y:=hres.2
 obtain⟨T,hT,hrep⟩:=RepC.weak hw hres.2
 have hfr:∀i,i<w'.heap.size->w''.heap[i]? = w'.heap[i]?/\ow' i=QeZ Z' i:=fun i hi=>hp.frame i hi (QnO Z' i)
 have hnew:∀i,ow' i=.fl 0->w'.heap.size<=i/\i<w''.heap.size:=fun i hi=>⟨by
  rcases Nat.lt_or_ge i w'.heap.size with h | h
  ·have:=(hfr i h).2
   rw[hi] at this
   rcases QnO Z' i with h2 | h2<;>rw[h2] at this<;>cases this
  ·exact h,hp.lt i (by rw[hi];simp)⟩
 refine⟨vr,rfl,(hp.st.weak fun _=>hdm).full,fun i hi=>(hfr i hi).1,fun i=>ow' i=.fl 0/\¬T i,fun i=>Zo ow' i\/T i,fun i hi=>⟨(hnew i hi.1).1,(hnew i hi.1).2,?_⟩,fun i hi=>?_,fun i hi=>?_,hres.1,hrep⟩
 ·rintro (h | h)
  ·have hi1:ow' i=.fl 0:=hi.1
   rw[show ow' i=.fz from h] at hi1;cases hi1
  ·exact hi.2 h
 ·left
  show ow' i=.fz
  rw[(hfr i (hlt i hi)).2];exact JK hi
 ·rcases hi with hi | hi
  ·rcases Nat.lt_or_ge i w'.heap.size with h | h
   ·left
    have:=(hfr i h).2
    rw[show ow' i=.fz from hi] at this
    exact Qra this.symm
   ·exact .inr ⟨h,hp.lt i (by rw[show ow' i=.fz from hi];simp)⟩
  ·exact .inr (hnew i (hT i hi))
theorem QD4 (hC:Qb5 P B.g0 B.dm C) (h:Rel P B g e a w) {j:FuncId} {caps:List Desc} {want:Sh} {f:want.den} (hf:QaX C e j caps want=some f) {T:Tag} {v:Value} (hd:Qs P g e a w T (.clos j caps) v) :
  RepV P want .z (Zl g (caps.flatMap capR)) w QS v f:=by
 obtain⟨vs,hv,hlen,hcap⟩:=hd
 cases want with
 | fn1 aa r rf=>
  simp only[QaX,aLa] at hf
  obtain⟨K,hK,hf⟩:=hf
  split at hf
  ·rename_i a' cs s' f' F
   cases hc:noIo cs&&decide (a'=aa)&&decide (s'=r)&&Qr s' f' rf with
   | false=>simp[hc] at hf
   | true=>
    rw[hc,aLB] at hf
    simp only[aLg,aLF] at hc
    obtain⟨⟨⟨_,rfl⟩,rfl⟩,hw⟩:=hc
    replace hf:=aLa.1 hf;obtain⟨l,hl,hf⟩:=hf
    replace hf:=aLa.1 hf;obtain⟨t,ht,hf⟩:=hf
    simp only[aLb] at hf
    subst hf
    refine⟨by rw[hv];rfl,fun _=>⟨v,⟨by rw[hv];rfl,by rw[hv];rfl⟩,fun Z' w' ha va xa y hfa hra hy=>?_⟩⟩
    replace hy:=aLa.1 hy;obtain⟨x',hx',hy⟩:=hy
    replace hy:=aLa.1 hy;obtain⟨ys,hys,hy⟩:=hy
    obtain⟨_,hxx⟩:=Qej hx'
    have hxx:xa=x':=hxx
    subst hxx
    obtain⟨_,hyy⟩:=Qej hy
    have hyy:fstO s' (Qbs cs) ys=y:=hyy
    obtain⟨hE,hcall⟩:=hC.fn j _ hK
    refine⟨j,vs.toArray,hv,hE,?_⟩
    have hpar:QbO P (QeZ Z') w' 0 (.v a' .z::cs) (va::vs) (xa,t):=
     ⟨⟨hfa,hra.mono (fun i hi=>JK hi) (fun _ h=>h.elim)⟩,QzQ h cs 1 hl ht hlen hcap ha⟩
    have:=hcall w' (QeZ Z') (va::vs) (xa,t) ys (fun i hi=>by
     rcases QnO Z' i with h2 | h2
     ·exact absurd h2 hi
     ·exact ha.lt i (Qra h2)) (fun i hi=>⟨JK (ha.zz i (.inl (h.gok i hi).1)),(ha.heap i (.inl (h.gok i hi).1)).trans (h.gok i hi).2⟩) hpar hys
    have harr:(va::vs).toArray = #[va]++vs.toArray:=by simp
    rw[harr] at this
    refine this.mono fun en w'' ⟨vr,ow',he,hp⟩=>?_
    subst he
    refine QxC (K:=⟨.v a' .z::cs,[(s',f')],F,true⟩) rfl rfl ha.lt hp ?_ hw
    obtain⟨rest,hr⟩:=QyN s' (Qbs cs) ys
    exact⟨rest,hyy ▸ hr⟩
  ·cases hf
 | fn2 aa bb r=>
  simp only[QaX,aLa] at hf
  obtain⟨K,hK,hf⟩:=hf
  split at hf
  ·rename_i a' b' cs s' f' F
   cases hc:noIo cs&&decide (a'=aa)&&decide (b'=bb)&&decide (s'=r)&&Qr s' f' .z with
   | false=>simp[hc] at hf
   | true=>
    rw[hc,aLB] at hf
    simp only[aLg,aLF] at hc
    obtain⟨⟨⟨⟨_,rfl⟩,rfl⟩,rfl⟩,hw⟩:=hc
    replace hf:=aLa.1 hf;obtain⟨l,hl,hf⟩:=hf
    replace hf:=aLa.1 hf;obtain⟨t,ht,hf⟩:=hf
    simp only[aLb] at hf
    subst hf
    refine⟨by rw[hv];rfl,fun _=>⟨v,⟨by rw[hv];rfl,by rw[hv];rfl⟩,fun Z' w' ha va xa vb xb y hfa hra hfb hrb hy=>?_⟩⟩
    replace hy:=aLa.1 hy;obtain⟨x',hx',hy⟩:=hy
    replace hy:=aLa.1 hy;obtain⟨y',hy',hy⟩:=hy
    replace hy:=aLa.1 hy;obtain⟨ys,hys,hy⟩:=hy
    obtain⟨_,hxx⟩:=Qej hx'
    have hxx:xa=x':=hxx
    subst hxx
    obtain⟨_,hyb⟩:=Qej hy'
    have hyb:xb=y':=hyb
    subst hyb
    obtain⟨_,hyy⟩:=Qej hy
    have hyy:fstO s' (Qbs cs) ys=y:=hyy
    obtain⟨hE,hcall⟩:=hC.fn j _ hK
    refine⟨j,vs.toArray,hv,hE,?_⟩
    have hpar:QbO P (QeZ Z') w' 0 (.v a' .z :: .v b' .z::cs) (va::vb::vs) (xa,xb,t):=
     ⟨⟨hfa,hra.mono (fun i hi=>JK hi) (fun _ h=>h.elim)⟩,⟨hfb,hrb.mono (fun i hi=>JK hi) (fun _ h=>h.elim)⟩,QzQ h cs 2 hl ht hlen hcap ha⟩
    have:=hcall w' (QeZ Z') (va::vb::vs) (xa,xb,t) ys (fun i hi=>by
     rcases QnO Z' i with h2 | h2
     ·exact absurd h2 hi
     ·exact ha.lt i (Qra h2)) (fun i hi=>⟨JK (ha.zz i (.inl (h.gok i hi).1)),(ha.heap i (.inl (h.gok i hi).1)).trans (h.gok i hi).2⟩) hpar hys
    have harr:(va::vb::vs).toArray = #[va,vb]++vs.toArray:=by simp
    rw[harr] at this
    refine this.mono fun en w'' ⟨vr,ow',he,hp⟩=>?_
    subst he
    refine QxC (K:=⟨.v a' .z :: .v b' .z::cs,[(s',f')],F,true⟩) rfl rfl ha.lt hp ?_ hw
    obtain⟨rest,hr⟩:=QyN s' (Qbs cs) ys
    exact⟨rest,hyy ▸ hr⟩
  ·cases hf
 | int k=>simp[QaX] at hf
 | bool=>simp[QaX] at hf
 | str=>simp[QaX] at hf
 | list s=>simp[QaX] at hf
 | prod x y=>simp[QaX] at hf
end Go.Dx
namespace Go.Dx
variable {P:Program} {B:Base} {g:Gh} {e:Env} {a:Act} {w:World} {C:Ctx}
theorem QD0 (hC:Qb5 P B.g0 B.dm C) (h:Rel P B g e a w) {p:PS} {o:Operand} {x:(s:Sh)×s.den} {L:List Root} (hq:argB C e p o=some (x,L)) {ow:Nat->Tag} (how:∀j,Zl g L j->ow j=.fz) (i:Nat) :
  ∃hs:x.1=p.sh,Qvf P ow w i p (a.eval o) (hs ▸ x.2):=by
 obtain⟨T,hd,ht,_⟩:=QD h o
 unfold argB at hq
 split at hq
 ·rename_i s hxd
  rw[hxd] at hd
  split at hq
  ·simp only[aLb,aLe] at hq
   obtain⟨rfl,rfl⟩:=hq
   refine⟨rfl,?_⟩
   have hv:a.eval o=.slice none 0 0:=hd
   rw[hv]
   exact⟨rfl,none,0,0,rfl,rfl,Nat.le_refl _,fun hn=>by omega⟩
  ·cases hq
 ·rename_i s j caps hxd
  rw[hxd] at hd
  simp only[aLd,aLe] at hq
  obtain⟨f,hf,rfl,rfl⟩:=hq
  refine⟨rfl,?_⟩
  have:=QD4 hC h hf hd
  exact⟨this.1,this.2.mono how (fun _ h=>h.elim)⟩
 ·rename_i s r ver q hxd
  rw[hxd] at hd
  obtain⟨y,hy,hq⟩:=aLa.1 hq
  cases hc:decide (y.sh=s)&&okS y.sh y.fl with
  | false=>simp[hc] at hq
  | true=>
   simp only[hc,aLB,aLb,aLe] at hq
   obtain⟨rfl,hL⟩:=hq
   simp only[aLg,aLF] at hc
   obtain⟨hsh,hok⟩:=hc
   obtain⟨ysh,yfl,yx⟩:=y
   simp only at hsh hok hL;subst hsh
   refine⟨rfl,?_⟩
   have hr:=h.bor hd hy (YN hok)
   cases hz:yfl.isz with
   | true=>
    obtain rfl:=Qbj hz
    exact⟨hr.1,(RepC.shared hr.2).mono (fun j hj=>how j (.inl hj)) (fun _ h=>h.elim)⟩
   | false=>
    rw[hz] at hL
    simp only[aLC] at hL
    subst hL
    refine⟨hr.1,(RepC.freeze hok hr.2).mono (fun j hj=>how j (hj.elim .inl (fun hj=>.inr ⟨r,by simp,.inl ?_⟩))) (fun _ h=>h.elim)⟩
    exact hj
 ·rename_i s s' xx hxd
  rw[hxd] at hd
  by_cases hss:s'=s
  ·subst hss
   simp only[decide_true,aLB,aLb,aLe] at hq
   obtain⟨rfl,rfl⟩:=hq
   refine⟨rfl,?_⟩
   obtain⟨b,off,h1,h2,h3⟩:=hd
   exact⟨b,off,h1,how b (.inl h2),h3.mono (fun j hj=>how j (.inl hj)) (fun _ h=>h)⟩
  ·simp[hss] at hq
 ·rename_i s s' xx hxd
  rw[hxd] at hd
  by_cases hss:s'=s
  ·subst hss
   simp only[decide_true,aLB,aLb,aLe] at hq
   obtain⟨rfl,rfl⟩:=hq
   refine⟨rfl,?_⟩
   obtain⟨hb,ho,b,off,h1,h2,h3,h4,h5⟩:=hd
   exact⟨hb,ho,b,off,h1,how hb (.inl h2),h3,how b (.inl h4),h5.mono (fun j hj=>how j (.inl hj)) (fun _ h=>h)⟩
  ·simp[hss] at hq
 ·rename_i s r ver q hxd
  rw[hxd] at hd
  obtain⟨y,hy,hq⟩:=aLa.1 hq
  cases hc:decide (y.sh=s)&&okS y.sh y.fl with
  | false=>simp[hc] at hq
  | true=>
   simp only[hc,aLB,aLb,aLe] at hq
   obtain⟨rfl,rfl⟩:=hq
   simp only[aLg,aLF] at hc
   obtain⟨hsh,hok⟩:=hc
   obtain⟨ysh,yfl,yx⟩:=y
   simp only at hsh hok;subst hsh
   refine⟨rfl,?_⟩
   obtain⟨b,off,h1,h2,h3⟩:=Qy3 h hd hy hok
   exact⟨b,off,h1,how b h2,h3.mono how (fun _ h=>h)⟩
 ·cases hq
def QiN (cix:Nat->Option Nat):Nat->List PS->List WB->Prop
 | i,.io _ _ _::ps,b::wbs=>(∀n,b.r=.b n->cix n=some i)/\QiN cix (i+1) ps wbs
 | i,.mu _ _ _::ps,b::wbs=>QiN cix (i+1) ps wbs
 | i,.v _ _::ps,wbs=>QiN cix (i+1) ps wbs
 | i,.rp _ _::ps,wbs=>QiN cix (i+1) ps wbs
 | _,_,_=>True
theorem QBu (hC:Qb5 P B.g0 B.dm C) (h:Rel P B g e a w) {L:List Root} {ow:Nat->Tag} {cix:Nat->Option Nat} (hz:∀j,Zl g L j->ow j=.fz) (hfl:∀j m,m<PK->g.ow j=.fl m->ow j=.fl m) (hc:∀j o n i,g.pl n=.cells j o->g.ow j=.c n->cix n=some i->ow j=.c i) :
  ∀(ps:List PS) (i:Nat) {os:List Operand} {xs:List (Option ((s:Sh)×s.den))} {wbs:List WB} {zs:List ((s:Sh)×s.den)} {L':List Root} {t:TupI (ps.map PS.sh)},i+ps.length<=PK->Qf1 P g e a w i ps os xs wbs->QjM C e ps os xs=some (zs,L')->
   gatI (ps.map PS.sh) zs=some t->(∀r,r ∈ L'->r ∈ L)->QiN cix i ps wbs->QbO P ow w i ps (os.map a.eval) t:=by
 intro ps
 induction ps with
 | nil=>
  intro i os xs wbs zs L' t _ hg hB ht hL hcx
  cases os with
  | nil=>exact rfl
  | cons o os=>exact hg.elim
 | cons p ps ih=>
  intro i os xs wbs zs L' t hlen hg hB ht hL hcx
  simp only[aLh] at hlen
  have hi:i<PK:=by omega
  cases os with
  | nil=>exact hg.elim
  | cons o os=>
   cases xs with
   | nil=>exact hg.elim
   | cons x xs=>
    obtain⟨w1,w2,rfl,hg1,hg2⟩:=hg
    simp only[QjM,aLa,aLd] at hB
    obtain⟨⟨z,L1⟩,hz1,⟨zs',L2⟩,hB2,hB⟩:=hB
    simp only[aLe] at hB
    obtain⟨rfl,rfl⟩:=hB
    obtain⟨ht1,ht2⟩:=Qv3 ht
    have hcx2:QiN cix (i+1) ps w2:=by
     cases x with
     | none=>
      obtain⟨rfl,hp⟩:=hg1
      rcases hp with ⟨s,rfl⟩ | ⟨s,q,rfl⟩<;>exact hcx
     | some x=>
      obtain⟨_,hg1⟩:=hg1
      cases p with
      | v s f=>obtain⟨rfl,_⟩:=hg1;exact hcx
      | rp s q=>exact hg1.elim
      | io s f f'=>obtain⟨n,q,S,F,X,hb,ho,mid,rfl,_⟩:=hg1;exact hcx.2
      | mu s f f'=>obtain⟨_,r,q,S,X,T1,mid,rest,rfl,_⟩:=hg1;exact hcx
    refine⟨?_,ih (i+1) (by omega) hg2 hB2 ht2 (fun r hr=>hL r (List.mem_append_right _ hr)) hcx2⟩
    cases x with
    | none=>
     simp only at hz1
     obtain⟨hs,hpo⟩:=QD0 hC h hz1 (ow:=ow) (fun j hj=>hz j (Zl.mono (fun r hr=>hL r (List.mem_append_left _ hr)) hj)) i
     obtain⟨hs',hpx⟩:=Qej ht1
     rw[<-hpx];exact hpo
    | some x=>
     simp only[aLb,aLe] at hz1
     obtain⟨rfl,rfl⟩:=hz1
     obtain⟨hsx,hg1⟩:=hg1
     obtain⟨hs',hpx⟩:=Qej ht1
     obtain⟨xsh,xx⟩:=x
     simp only at hsx;subst hsx
     have hpx:xx=t.1:=hpx
     rw[<-hpx]
     cases p with
     | v s f=>exact⟨hg1.2.1,hg1.2.2.mono (fun j hj=>hz j (.inl hj)) (fun j hj=>hfl j i hi hj)⟩
     | rp s q=>exact hg1.elim
     | io s f f'=>
      obtain⟨n,q,S,F,X,hb,ho,mid,rfl,h4,h5,h6,h7,h8,h9⟩:=hg1
      obtain⟨k1,k2,k3,k4⟩:=Jr w q (c:=Qm g a w (.b n)) h4 h5
      have hbl:=h.bl n
      rw[show (e.b n).d=.v S F X from h6] at hbl
      obtain⟨q1,arr,ty,q2,q3⟩:=hbl.2 hb ho h7
      exact⟨hb,ho+offs S q,arr,ty,h8,hc hb ho n i h7 q1 (hcx.1 n rfl),q2,by simp only[PS.sh] at *;omega,h9.mono (fun j hj=>hz j (.inl hj)) (fun j hj=>hfl j i hi hj)⟩
     | mu s f f'=>exact⟨hg1.1.1,hg1.1.2.mono (fun j hj=>hz j (.inl hj)) (fun j hj=>hfl j i hi hj)⟩
end Go.Dx
namespace Go.Dx
variable {P:Program} {B:Base} {g:Gh} {e:Env} {a:Act} {w:World} {C:Ctx}
theorem RepC.fill {Z T:Nat->Prop} {w:World} {n:Dv}:∀(p:List Step) {S:Sh} {F:Fl} {Sg:Nat->Prop} {c:Nat->Option Value} {X:S.den} {r:Fl×S.den},QE p=true->RepC P S F Z w Sg c X->setP S F X p false n=some r->
  RepC P n.sh n.fl Z w T (Qn w S c p) n.x->(∀i,T i->¬Sg i)->RepC P S r.1 Z w (fun i=>Sg i\/T i) c r.2:=by
 intro p
 induction p with
 | nil=>
  intro S F Sg c X r _ hr hs hT hd
  simp only[setP,aLa,aLC,aLb] at hs
  obtain⟨y,hy,rfl⟩:=hs
  have:=ZU hy
  obtain⟨nsh,nfl,nx⟩:=n
  simp only[Sigma.mk.injEq] at this
  obtain⟨rfl,hh⟩:=this
  have hh:=eq_of_heq hh
  subst hh
  simp only[Qn] at hT
  exact hT.mono (fun _ h=>h) (fun _ h=>.inr h)
 | cons st p ih=>
  intro S F Sg c X r hn hr hs hT hd
  cases S with
  | prod x y=>
   obtain⟨t,ra,rb⟩:=hr
   cases st with
   | fst=>
    simp only[setP,aLd] at hs
    obtain⟨z,hz,rfl⟩:=hs
    have h1:=ih hn ra hz hT (fun i hi h=>hd i hi h.1)
    refine⟨fun i=>t i || @decide (T i) (Classical.propDecidable _),(h1.mono (fun _ h=>h) (fun i hi=>?_)).flagx (Fl.fst_mk _ _).symm,(rb.mono (fun _ h=>h) (fun i hi=>?_)).flagx (Fl.snd_mk _ _).symm⟩
    ·rcases hi with hi | hi
     ·exact⟨.inl hi.1,by simp[hi.2]⟩
     ·exact⟨.inr hi,by simp[hi]⟩
    ·have hni:¬T i:=fun h=>hd i h hi.1
     exact⟨.inl hi.1,by simp[hi.2,hni]⟩
   | snd=>
    simp only[setP,aLd] at hs
    obtain⟨z,hz,rfl⟩:=hs
    have h1:=ih hn rb hz hT (fun i hi h=>hd i hi h.1)
    refine⟨fun i=>t i&&!@decide (T i) (Classical.propDecidable _),(ra.mono (fun _ h=>h) (fun i hi=>?_)).flagx (Fl.fst_mk _ _).symm,(h1.mono (fun _ h=>h) (fun i hi=>?_)).flagx (Fl.snd_mk _ _).symm⟩
    ·have hni:¬T i:=fun h=>hd i h hi.1
     exact⟨.inl hi.1,by simp[hi.2,hni]⟩
    ·rcases hi with hi | hi
     ·exact⟨.inl hi.1,by simp[hi.2]⟩
     ·exact⟨.inr hi,by simp[hi]⟩
   | idx i=>simp[QE] at hn
   | sub l h=>simp[QE] at hn
  | list s=>cases st<;>first | (simp[setP] at hs;done) | (simp[QE] at hn;done)
  | int k=>cases st<;>simp[setP] at hs
  | bool=>cases st<;>simp[setP] at hs
  | str=>cases st<;>simp[setP] at hs
  | fn1 a r rf=>cases st<;>simp[setP] at hs
  | fn2 a b r=>cases st<;>simp[setP] at hs
theorem Rel.refill (h:Rel P B g e a w) {r:Root} {S:Sh} {F:Fl} {X:S.den} (hd:(e.root r).d=.v S F X) {p:List Step} {n:Dv} {z:Fl×S.den} {hh:Bool} (hn:QE p=true) (hs:setP S F X p false n=some z)
  {k:Nat} (hv:RepC P n.sh n.fl g.Z w (g.S (.fl k)) (Qn w S (Qm g a w r) p) n.x) :
  ∃g',g'.pl=g.pl/\(∀j,g'.ow j=if g.ow j=.fl k then tagR r else g.ow j)/\Rel P B g' (e.turn r hh (.v S z.1 z.2)) a w:=by
 let ow':Nat->Tag:=fun j=>if g.ow j=.fl k then tagR r else g.ow j
 have hfl:∀j,g.ow j=.fl k->ow' j=tagR r:=fun j hj=>by simp[ow',hj]
 have hkeep:∀j t,t ≠ .fl k->g.ow j=t->ow' j=t:=fun j t ht hj=>by simp[ow',hj,ht]
 have hroot:=h.root r hd
 have hroot:RepC P S F g.Z w (g.S (tagR r)) (Qm g a w r) X:=by cases r<;>exact hroot
 have hfill:=RepC.fill p hn hroot hs hv (fun i hi hS=>Qrm (Eq.trans (Eq.symm hS) hi))
 have hnew:RepC P S z.1 (Gh.Z ⟨ow',g.pl⟩) w (Gh.S ⟨ow',g.pl⟩ (tagR r)) (Qm g a w r) z.2:=
  hfill.mono (fun i hi=>hkeep i _ (by simp) hi) (fun i hi=>hi.elim (fun hi=>hkeep i _ (by cases r<;>simp[tagR]) hi) (fun hi=>hfl i hi))
 refine⟨⟨ow',g.pl⟩,rfl,fun _=>rfl,h.step (fun i=>r=.s i) (fun i=>r=.b i) (by rw[Qs0];exact h.lens) h.defers
  (fun i hi=>⟨by show (e.turn r hh _).root (.s i)=_;rw[Q6 hd,if_neg hi];rfl,rfl⟩) (fun i hi=>⟨by show (e.turn r hh _).root (.b i)=_;rw[Q6 hd,if_neg hi];rfl,rfl⟩)
  (fun i hi=>by show (e.root (.s i)).ver<((e.turn r hh _).root (.s i)).ver;rw[Q6 hd,if_pos hi,hi];exact Nat.lt_succ_self _)
  (fun i hi=>by show (e.root (.b i)).ver<((e.turn r hh _).root (.b i)).ver;rw[Q6 hd,if_pos hi,hi];exact Nat.lt_succ_self _)
  (fun i hi=>by subst hi;exact QmW hd rfl) (fun i hi=>by subst hi;exact QmW hd rfl) (fun i hi=>by subst hi;exact Qkz hd (fun _ k _=>congrFun (ZT (g:=g) (g':=⟨ow',g.pl⟩) rfl a w _) k)) (fun i hi=>by subst hi;exact Qkz hd (fun _ k _=>congrFun (ZT (g:=g) (g':=⟨ow',g.pl⟩) rfl a w _) k))
  (fun j hj=>⟨hkeep j _ (by simp) hj,rfl⟩) (fun i j hi hj=>⟨hkeep j _ (by simp) hj,rfl⟩) (fun i j hi hj=>⟨hkeep j _ (by simp) hj,rfl⟩) (fun i j hi hj=>⟨hkeep j _ (by simp) hj,rfl⟩)
  (Streams.refl _) (fun _ _ _=>rfl) (fun i h1 h2 h3=>hkeep i _ (by simp) (h.nn i h1 h2 h3)) (fun i hi=>h.lt i fun h0=>hi (hkeep i _ (by simp) h0)) (fun q hq hc hn hio=>?_) (fun hk i hi=>?_) (fun hk i hi=>?_)⟩
 ·refine⟨hio.pl,hkeep _ _ (by simp) hio.ow,fun S2 F2 X2 hd2=>?_,hio.there⟩
  rw[show (e.turn r hh (.v S z.1 z.2)).b q.i=(e.turn r hh (.v S z.1 z.2)).root (.b q.i) from rfl,Q6 hd,if_pos hc] at hd2
  simp only[turned,Desc.v.injEq] at hd2
  obtain⟨rfl,_,_⟩:=hd2
  exact hio.sz S F X (by subst hc;exact hd)
 ·rw[show (e.turn r hh (.v S z.1 z.2)).s i=(e.turn r hh (.v S z.1 z.2)).root (.s i) from rfl,Q6 hd,if_pos hi]
  subst hi
  have:=h.sl i
  rw[show (e.s i).d=.v S F X from hd] at this
  exact⟨this.1,hnew⟩
 ·rw[show (e.turn r hh (.v S z.1 z.2)).b i=(e.turn r hh (.v S z.1 z.2)).root (.b i) from rfl,Q6 hd,if_pos hi]
  subst hi
  have hbl:=h.bl i
  rw[show (e.b i).d=.v S F X from hd] at hbl
  exact⟨hnew,fun hb o hpl=>⟨hkeep _ _ (by simp) (hbl.2 hb o hpl).1,(hbl.2 hb o hpl).2⟩⟩
end Go.Dx
namespace Go.Dx
variable {P:Program} {B:Base} {g:Gh} {e:Env} {a:Act} {w:World} {C:Ctx}
theorem Qt5 {r:Root}:∀{l:List Root},Qq6 r l=true↔r ∈ l
 | []=>by simp[Qq6]
 | q::l=>by simp[Qq6,Qt5 (l:=l)]
theorem QcL:∀{l:List WB} {lent:List Root},Qch lent l=true->∀b,b ∈ l->b.r ∉ lent
 | [],lent,_,b,hb=>by cases hb
 | x::l,lent,h,b,hb=>by
  simp only[Qch,aLg,Bool.not_eq_true'] at h
  rcases List.mem_cons.1 hb with rfl | hb
  ·intro hm;rw[Qt5.2 hm] at h;cases h.1
  ·have:=QcL h.2 b hb
   exact fun hm=>this (aLp _ hm)
theorem Yv {x:WB} {l:List WB} {lent:List Root} (h:Qch lent (x::l)=true):Qch (x.r::lent) l=true:=by
 simp only[Qch,aLg] at h;exact h.2
def ZQ:Nat->List PS->List WB->Nat->Option Nat
 | i,.io _ _ _::ps,b::wbs,n=>if b.r=.b n then some i else ZQ (i+1) ps wbs n
 | i,.mu _ _ _::ps,_::wbs,n=>ZQ (i+1) ps wbs n
 | i,.v _ _::ps,wbs,n=>ZQ (i+1) ps wbs n
 | i,.rp _ _::ps,wbs,n=>ZQ (i+1) ps wbs n
 | _,_,_,_=>none
theorem QEB {cix:Nat->Option Nat}:∀(ps:List PS) (i:Nat) {wbs:List WB} {lent:List Root},Qch lent wbs=true->(∀n,(∃b,b ∈ wbs/\b.r=.b n)->cix n=ZQ i ps wbs n)->QiN cix i ps wbs:=by
 intro ps
 induction ps with
 | nil=>intro i wbs lent _ _;simp only[QiN]
 | cons p ps ih=>
  intro i wbs lent hap h
  cases p with
  | v s f=>exact ih (i+1) hap (fun n hn=>by rw[h n hn];simp only[ZQ])
  | rp s q=>exact ih (i+1) hap (fun n hn=>by rw[h n hn];simp only[ZQ])
  | io s f f'=>
   cases wbs with
   | nil=>simp only[QiN]
   | cons b wbs=>
    refine⟨fun n hn=>?_,ih (i+1) (Yv hap) (fun n hn=>?_)⟩
    ·rw[h n ⟨b,aLm,hn⟩];simp only[ZQ,hn,if_pos]
    ·obtain⟨b',hb',hr⟩:=hn
     rw[h n ⟨b',aLp _ hb',hr⟩]
     have hne:¬b.r=.b n:=fun hh=>QcL (Yv hap) b' hb' (by rw[hr,<-hh];exact aLm)
     simp only[ZQ,hne,if_false]
  | mu s f f'=>
   cases wbs with
   | nil=>simp only[QiN]
   | cons b wbs=>
    refine ih (i+1) (Yv hap) (fun n hn=>?_)
    obtain⟨b',hb',hr⟩:=hn
    rw[h n ⟨b',aLp _ hb',hr⟩]
    simp only[ZQ]
noncomputable def owC (g:Gh) (L:List Root) (cix:Nat->Option Nat):Nat->Tag:=fun j=>
 @ite _ (Zl g L j) (Classical.propDecidable _) .fz (match g.ow j with
  | .fl m=>if m<PK then .fl m else .none
  | .c n=>(match cix n,g.pl n with | some i,.cells hb _=>if hb=j then .c i else .none | _,_=>.none)
  | _=>.none)
theorem QA7 {L:List Root} {cix:Nat->Option Nat} {j:Nat} (h:Zl g L j):owC g L cix j=.fz:=by simp[owC,h]
theorem QEs {L:List Root} {cix:Nat->Option Nat} {j m:Nat} (hm:m<PK) (h:g.ow j=.fl m):owC g L cix j=.fl m:=by
 have hz:¬Zl g L j:=by
  rintro (hz | ⟨r,_,hz | ⟨n,_,hz⟩⟩)
  ·rw[show g.ow j=.fz from hz] at h;cases h
  ·exact Qrm (hz.symm.trans h)
  ·rw[hz] at h;cases h
 simp[owC,hz,h,hm]
theorem QEQ {L:List Root} {cix:Nat->Option Nat} {j n i o:Nat} (hL:.b n ∉ L) (h:g.ow j=.c n) (hc:cix n=some i) (hpl:g.pl n=.cells j o):owC g L cix j=.c i:=by
 have hz:¬Zl g L j:=by
  rintro (hz | ⟨r,hr,hz | ⟨n',hn',hz⟩⟩)
  ·rw[show g.ow j=.fz from hz] at h;cases h
  ·rw[h] at hz;cases r<;>simp[tagR] at hz
  ·rw[h] at hz;simp only[Tag.c.injEq] at hz;subst hz;subst hn';exact hL hr
 simp[owC,hz,h,hc,hpl]
theorem QEp {L:List Root} {cix:Nat->Option Nat} {j:Nat} (h:owC g L cix j ≠ .none):g.ow j ≠ .none:=by
 intro h0
 by_cases hz:Zl g L j
 ·rcases hz with hz | ⟨r,_,hz | ⟨n,_,hz⟩⟩
  ·rw[show g.ow j=.fz from hz] at h0;cases h0
  ·rw[h0] at hz;cases r<;>simp[tagR] at hz
  ·rw[h0] at hz;cases hz
 ·simp[owC,hz,h0] at h
theorem Qro {L:List Root} {cix:Nat->Option Nat} {j:Nat} (h:∀m,m<PK->g.ow j ≠ .fl m) (hc:∀n i o,g.ow j=.c n->g.pl n=.cells j o->cix n=some i->False):owC g L cix j=.none\/owC g L cix j=.fz:=by
 by_cases hz:Zl g L j
 ·exact .inr (QA7 hz)
 ·left
  simp only[owC,hz,if_false]
  cases hg:g.ow j with
  | fl m=>
   have:¬m<PK:=fun hm=>h m hm hg
   simp[this]
  | c n=>
   cases hci:cix n with
   | none=>simp[hci]
   | some i=>
    cases hpl:g.pl n with
    | hdr u=>simp[hci,hpl]
    | cells hb o=>
     by_cases hbj:hb=j
     ·subst hbj;exact (hc n i o hg hpl hci).elim
     ·simp[hci,hpl,hbj]
  | _=>rfl
end Go.Dx
namespace Go.Dx
variable {P:Program} {B:Base} {g:Gh} {e:Env} {a:Act} {w:World} {C:Ctx}
def restore:List (Nat×Array Value)->World->World
 | [],w=>w
 | (hb,arr)::l,w=>(restore l w).setRow hb arr
theorem Qcb {j:Nat}:∀{l:List (Nat×Array Value)} {w:World},(∀q,q ∈ l->q.1 ≠ j)->(restore l w).heap[j]? = w.heap[j]?
 | [],w,_=>rfl
 | (hb,arr)::l,w,h=>by
  rw[restore,setRow_other _ _ _ _ (fun hh=>h (hb,arr) aLm hh.symm)]
  exact Qcb fun q hq=>h q (aLp _ hq)
theorem QkO:∀(l:List (Nat×Array Value)) (w:World),Streams w (restore l w)/\Streams (restore l w) w/\(restore l w).heap.size=w.heap.size
 | [],w=>⟨Streams.refl w,Streams.refl w,rfl⟩
 | (hb,arr)::l,w=>by
  obtain⟨h1,h2,h3⟩:=QkO l w
  exact⟨⟨h1.os,h1.tape,h1.output,by simp[restore,h3],h1.drawn⟩,⟨h2.os,h2.tape,h2.output,by simp[restore,h3],h2.drawn⟩,by simp[restore,h3]⟩
inductive Back (w w':World) (ow':Nat->Tag):Nat->List PS->List Value->List (Nat×Array Value)->Prop
 | nil (i:Nat):Back w w' ow' i [] [] []
 | v {i:Nat} {s:Sh} {f:Fl} {ps:List PS} {v:Value} {vs:List Value} {R:List (Nat×Array Value)}:Back w w' ow' (i+1) ps vs R->Back w w' ow' i (.v s f::ps) (v::vs) R
 | rp {i:Nat} {s:Sh} {d:Bool} {ps:List PS} {v:Value} {vs:List Value} {R:List (Nat×Array Value)}:Back w w' ow' (i+1) ps vs R->Back w w' ow' i (.rp s d::ps) (v::vs) R
 | mu {i:Nat} {s:Sh} {f f':Fl} {ps:List PS} {v:Value} {vs:List Value} {R:List (Nat×Array Value)}:Back w w' ow' (i+1) ps vs R->Back w w' ow' i (.mu s f f'::ps) (v::vs) R
 | io {i:Nat} {s:Sh} {f f':Fl} {ps:List PS} {v:Value} {vs:List Value} {R:List (Nat×Array Value)} {hb o:Nat} {arr arr':Array Value} {ty:TypeId} :
   v=.pointer (some ⟨hb,o,none⟩)->w.heap[hb]? = some (.cells arr ty (0,0))->w'.heap[hb]? = some (.cells arr' ty (0,0))->arr'.size=arr.size->(∀k,(k<o\/o+s.size<=k)->arr'[k]? = arr[k]?)->ow' hb=.c i->
   Back w w' ow' (i+1) ps vs R->Back w w' ow' i (.io s f f'::ps) (v::vs) ((hb,arr)::R)
theorem QDA {ow':Nat->Tag} {w w':World}:∀(ps:List PS) (i:Nat) {vs:List Value} {ys:List ((s:Sh)×s.den)},Zi P ow' w w' i ps vs ys->∃R,Back w w' ow' i ps vs R:=by
 intro ps
 induction ps with
 | nil=>intro i vs ys h;simp only[Zi] at h;obtain⟨rfl,rfl⟩:=h;exact⟨[],.nil i⟩
 | cons p ps ih=>
  intro i vs ys h
  cases p with
  | v s f=>cases vs with
   | nil=>simp[Zi] at h
   | cons v vs=>simp only[Zi] at h;obtain⟨R,hR⟩:=ih (i+1) h;exact⟨R,.v hR⟩
  | rp s q=>cases vs with
   | nil=>simp[Zi] at h
   | cons v vs=>simp only[Zi] at h;obtain⟨R,hR⟩:=ih (i+1) h;exact⟨R,.rp hR⟩
  | io s f f'=>cases vs with
   | nil=>simp[Zi] at h
   | cons v vs=>cases ys with
    | nil=>simp[Zi] at h
    | cons y ys=>
     simp only[Zi] at h
     obtain⟨⟨hb,o,arr,arr',ty,h1,h2,h3,h4,h5,h6,h7,h8⟩,h9⟩:=h
     obtain⟨R,hR⟩:=ih (i+1) h9
     exact⟨_,.io h1 h2 h3 h4 h5 h6 hR⟩
  | mu s f f'=>cases vs with
   | nil=>simp[Zi] at h
   | cons v vs=>cases ys with
    | nil=>simp[Zi] at h
    | cons y ys=>
     simp only[Zi] at h
     obtain⟨R,hR⟩:=ih (i+1) h.2
     exact⟨R,.mu hR⟩
theorem Back.tags {w w':World} {ow':Nat->Tag} {i:Nat} {ps:List PS} {vs:List Value} {R:List (Nat×Array Value)} (h:Back w w' ow' i ps vs R):∀q,q ∈ R->∃m,i<=m/\ow' q.1=.c m:=by
 induction h with
 | nil i=>intro q hq;cases hq
 | v _ ih=>intro q hq;obtain⟨m,hm,h⟩:=ih q hq;exact⟨m,by omega,h⟩
 | rp _ ih=>intro q hq;obtain⟨m,hm,h⟩:=ih q hq;exact⟨m,by omega,h⟩
 | mu _ ih=>intro q hq;obtain⟨m,hm,h⟩:=ih q hq;exact⟨m,by omega,h⟩
 | io h1 h2 h3 h4 h5 h6 _ ih=>
  intro q hq
  rcases List.mem_cons.1 hq with rfl | hq
  ·exact⟨_,Nat.le_refl _,h6⟩
  ·obtain⟨m,hm,h⟩:=ih q hq;exact⟨m,by omega,h⟩
end Go.Dx
namespace Go.Dx
variable {P:Program} {B:Base} {g:Gh} {e:Env} {a:Act} {w:World} {C:Ctx}
def WbIo (g:Gh) (e:Env) (s:Sh) (f':Fl) (v:Value) (b:WB):Prop:=
 ∃n q S F X hb ho mid,b=⟨.b n,q,s,f',true,mid,[]⟩/\QE q=true/\getS S q=some s/\(e.root (.b n)).d=.v S F X/\g.pl n=.cells hb ho/\v=.pointer (some ⟨hb,ho+offs S q,none⟩)
def WbMu (P:Program) (w:World) (g:Gh) (e:Env) (a:Act) (ow':Nat->Tag) (w':World) (i:Nat) (s:Sh) (f':Fl) (v:Value) (b:WB):Prop:=
 ∃(r:Root) (q:List Step) (S:Sh) (X:S.den) (T1 Zw:Nat->Prop) (mid:Dv) (rest:List Step) (c0:Nat->Option Value),b=⟨r,q,s,f',false,mid,rest⟩/\QE q=true/\getS S q=some mid.sh/\((∃F,(e.root r).d=.v S F X)\/((e.root r).d=.dead/\∃t,r=.s t))/\
  (∀k,k<mid.sh.size->Qm g a w' r (offs S q+k)=c0 k)/\(∀j,T1 j->g.ow j=.fl (PK+i))/\(∀j,Zw j->g.ow j=.fz)/\(∀j,T1 j\/Zw j->w'.heap[j]? = w.heap[j]?/\∀m,ow' j ≠ .c m)/\
  Wand P w Zw T1 mid.sh mid.fl mid.x rest c0 (Qn w mid.sh c0 rest)/\(∀k,k<s.size->Qk v k=Qn w mid.sh c0 rest k)/\
  ∀n hb ho,r=.b n->g.pl n=.cells hb ho->∀m,ow' hb ≠ .c m
inductive Qbr (P:Program) (w:World) (g:Gh) (e:Env) (a:Act) (ow':Nat->Tag) (w':World):Nat->List PS->List Value->List WB->Prop
 | nil {i:Nat}:Qbr P w g e a ow' w' i [] [] []
 | v {i:Nat} {s:Sh} {f:Fl} {ps:List PS} {v:Value} {vs:List Value} {bs:List WB}:Qbr P w g e a ow' w' (i+1) ps vs bs->Qbr P w g e a ow' w' i (.v s f::ps) (v::vs) bs
 | rp {i:Nat} {s:Sh} {d:Bool} {ps:List PS} {v:Value} {vs:List Value} {bs:List WB}:Qbr P w g e a ow' w' (i+1) ps vs bs->Qbr P w g e a ow' w' i (.rp s d::ps) (v::vs) bs
 | io {i:Nat} {s:Sh} {f f':Fl} {ps:List PS} {v:Value} {vs:List Value} {b:WB} {bs:List WB}:WbIo g e s f' v b->Qbr P w g e a ow' w' (i+1) ps vs bs->Qbr P w g e a ow' w' i (.io s f f'::ps) (v::vs) (b::bs)
 | mu {i:Nat} {s:Sh} {f f':Fl} {ps:List PS} {v:Value} {vs:List Value} {b:WB} {bs:List WB}:WbMu P w g e a ow' w' i s f' v b->Qbr P w g e a ow' w' (i+1) ps vs bs->Qbr P w g e a ow' w' i (.mu s f f'::ps) (v::vs) (b::bs)
theorem Qbr.setR {g g':Gh} {e:Env} {ow':Nat->Tag} {w':World} {r:Root} {hh:Bool} {S:Sh} {F F':Fl} {X X':S.den} (hd:(e.root r).d=.v S F X) (hpl:g'.pl=g.pl) {i:Nat} {ps:List PS} {vs:List Value} {bs:List WB} (h:Qbr P w g e a ow' w' i ps vs bs) (hne:∀b,b ∈ bs->b.r ≠ r)
  (hpk:∀j m,i<=m->g.ow j=.fl (PK+m)->g'.ow j=.fl (PK+m)) (hz:∀j,g.ow j=.fz->g'.ow j=.fz):Qbr P w g' (e.turn r hh (.v S F' X')) a ow' w' i ps vs bs:=by
 induction h with
 | nil=>exact .nil
 | v _ ih=>exact .v (ih hne (fun j m hm=>hpk j m (by omega)))
 | rp _ ih=>exact .rp (ih hne (fun j m hm=>hpk j m (by omega)))
 | io h1 _ ih=>
  refine .io ?_ (ih (fun b hb=>hne b (aLp _ hb)) (fun j m hm=>hpk j m (by omega)))
  obtain⟨n,q,S2,F2,X2,hb,ho,mid,rfl,h2,h3,h4,h5,h6⟩:=h1
  exact⟨n,q,S2,F2,X2,hb,ho,mid,rfl,h2,h3,by rw[Q6 hd,if_neg (Ne.symm (hne _ aLm))];exact h4,by rw[hpl];exact h5,h6⟩
 | mu h1 _ ih=>
  refine .mu ?_ (ih (fun b hb=>hne b (aLp _ hb)) (fun j m hm=>hpk j m (by omega)))
  obtain⟨r2,q,S2,X2,T1,Zw,mid,rest,c0,rfl,h2,h3,h4,h5,h6,h7,h8,h9,h10,h11⟩:=h1
  exact⟨r2,q,S2,X2,T1,Zw,mid,rest,c0,rfl,h2,h3,by rw[Q6 hd,if_neg (Ne.symm (hne _ aLm))];exact h4,by rw[ZT hpl];exact h5,
   fun j hj=>hpk j _ (Nat.le_refl _) (h6 j hj),fun j hj=>hz j (h7 j hj),h8,h9,h10,by rw[hpl];exact h11⟩
theorem QCT {b:WB} (hb:b.rest=[]) {x:(s:Sh)×s.den} {n:Dv} (h:b.back x=some n):n=⟨x.1,b.f,x.2⟩:=by
 unfold WB.back at h
 rw[hb] at h
 simp only[setP,aLC,aLd,aLa,aLb] at h
 obtain⟨u,⟨y,hy,rfl⟩,rfl⟩:=h
 have:=ZU hy
 obtain⟨xs,xx⟩:=x
 simp only[Sigma.mk.injEq] at this
 obtain⟨rfl,hh⟩:=this
 have hh:=eq_of_heq hh
 subst hh
 rfl
theorem QEJ:∀(p:List Step) {S:Sh} {F:Fl} {X:S.den} {n:Dv} {r:Fl×S.den},setP S F X p false n=some r->QE p=true->getS S p=some n.sh:=by
 intro p
 induction p with
 | nil=>
  intro S F X n r h _
  simp only[setP,aLa] at h
  obtain⟨y,hy,_⟩:=h
  obtain⟨hs,_⟩:=Qej hy
  simp only[getS];exact congrArg some hs.symm
 | cons st p ih=>
  intro S F X n r h hn
  cases S with
  | prod x y=>
   cases st with
   | fst=>simp only[setP,aLd] at h;obtain⟨z,hz,_⟩:=h;exact ih hz hn
   | snd=>simp only[setP,aLd] at h;obtain⟨z,hz,_⟩:=h;exact ih hz hn
   | idx i=>simp[QE] at hn
   | sub l h'=>simp[QE] at hn
  | list s=>cases st<;>first | (simp[setP] at h;done) | (simp[QE] at hn;done)
  | int k=>cases st<;>simp[setP] at h
  | bool=>cases st<;>simp[setP] at h
  | str=>cases st<;>simp[setP] at h
  | fn1 a r rf=>cases st<;>simp[setP] at h
  | fn2 a b r=>cases st<;>simp[setP] at h
end Go.Dx
namespace Go.Dx
variable {P:Program} {B:Base} {g:Gh} {e:Env} {a:Act} {w:World} {C:Ctx}
theorem QxP:∀(p:List Step) {S:Sh} {F:Fl},QE p=true->QgJ S F p=none:=by
 intro p
 induction p with
 | nil=>intro S F _;cases S<;>simp only[QgJ]
 | cons st p ih=>intro S F h;cases S<;>cases st<;>first | (simp only[QgJ];done) | (simp[QE] at h;done) | exact ih h
theorem Qyl {p:List Step} {S:Sh} {F:Fl} (h:QE p=true):Qka S F p=true:=by unfold Qka;rw[QxP p h]
theorem QAR {N M:Nat} (hNM:N+M<=PK) {w w':World} {ow':Nat->Tag} {i:Nat} {ps:List PS} {vs:List Value} {R:List (Nat×Array Value)} (hB:Back w w' ow' i ps vs R) :
  ∀{g:Gh} {e e':Env} {bs:List WB} {ys:List ((s:Sh)×s.den)} {lent:List Root},Rel P B g e a (restore R w')->Zi P ow' w w' i ps vs ys->Qbr P w g e a ow' w' i ps vs bs->i+ps.length<=M->Qch lent bs=true->
   (∀j,ow' j=.fz->g.ow j=.fz)->(∀j m,i<=m->m<M->ow' j=.b m->g.ow j=.fl (N+m))->Qa2 e bs ys=some e'->
   ∃g',g'.pl=g.pl/\Rel P B g' e' a w'/\(∀j k,k<N->g.ow j=.fl k->g'.ow j=.fl k)/\(∀j,g.ow j=.fz->g'.ow j=.fz):=by
 induction hB with
 | nil i=>
  intro g e e' bs ys lent h hio hw _ _ _ _ hp
  cases hw
  simp only[Zi] at hio
  obtain⟨_,rfl⟩:=hio
  simp only[Qa2,aLb] at hp
  subst hp
  exact⟨g,rfl,h,fun _ _ _ h=>h,fun _ h=>h⟩
 | v _ ih=>
  intro g e e' bs ys lent h hio hw hlen hap hz hb hp
  simp only[aLh] at hlen
  cases hw with
  | v hw=>simp only[Zi] at hio;exact ih h hio hw (by omega) hap hz (fun j m hm hM=>hb j m (by omega) hM) hp
 | rp _ ih=>
  intro g e e' bs ys lent h hio hw hlen hap hz hb hp
  simp only[aLh] at hlen
  cases hw with
  | rp hw=>simp only[Zi] at hio;exact ih h hio hw (by omega) hap hz (fun j m hm hM=>hb j m (by omega) hM) hp
 | @mu i s f f' ps v vs R hB2 ih=>
  intro g e e' bs ys lent h hio hw hlen hap hz hb hp
  simp only[aLh] at hlen
  cases hw with
  | mu h1 hw=>
   rename_i b bs
   cases ys with
   | nil=>simp[Zi] at hio
   | cons y ys=>
    simp only[Zi] at hio
    obtain⟨⟨hsy,hrep⟩,hio⟩:=hio
    obtain⟨r,q,S,X,T1,Zw,mid,rest,c0,rfl,hn,hS,hdr,hc0,hT1,hZw,hkp,hwand,hcell,hnc⟩:=h1
    simp only[Qa2] at hp
    rcases hdr with ⟨F,hdr⟩ | ⟨hdr,_⟩
    ·rw[hdr] at hp
     simp only[hsy,decide_true,aLB,aLa] at hp
     obtain⟨n,hback,z,hset,hp⟩:=hp
     obtain⟨ysh,yx⟩:=y
     simp only at hsy hrep hset hback;subst hsy
     simp only[WB.back,aLd] at hback
     obtain⟨u,hu,rfl⟩:=hback
     have hot:∀j,(∀m,ow' j ≠ .c m)->(restore R w').heap[j]? = w'.heap[j]?:=fun j hj=>Qcb fun q hq hqj=>by
      obtain⟨m,_,hm⟩:=hB2.tags q hq
      exact hj m (hqj ▸ hm)
     obtain⟨k1,_⟩:=Jr (restore R w') q (c:=Qm g a (restore R w') r) hn hS
     have hrc:Qm g a (restore R w') r=Qm g a w' r:=by
      cases r with
      | s t=>rfl
      | b n=>
       simp only[Qm]
       cases hpl:g.pl n with
       | hdr u=>rfl
       | cells hb' ho=>simp only[];exact Zm (hot hb' (hnc n hb' ho rfl hpl))
     have hsub:RepC P ysh f' g.Z (restore R w') (fun j=>ow' j=.b i) (Qn w mid.sh c0 rest) yx:=by
      refine RepC.congr (fun k hk=>(hcell k hk).symm) (hrep.2.frame (w':=restore R w') (fun j hj=>hz j hj) (fun j hj=>hj) (fun j hj=>hot j fun m hm=>?_))
      rcases hj with hj | hj
      ·rw[show ow' j=.b i from hj] at hm;cases hm
      ·rw[show ow' j=.fz from hj] at hm;cases hm
     have hmid:=hwand g.Z (restore R w') (fun j=>ow' j=.b i) ⟨ysh,f',yx⟩ u false hZw (fun j hj=>(hot j (hkp j hj).2).trans (hkp j hj).1) (fun j hj hT=>by
      have h1:=hb j i (Nat.le_refl _) (by omega) hj
      rw[hT1 j hT] at h1;simp only[Tag.fl.injEq] at h1;omega) hu hsub
     let g0:Gh:=⟨fun j=>if g.ow j=.fl (PK+i) then .fl (N+i) else g.ow j,g.pl⟩
     have hg0:∀j t,t ≠ .fl (PK+i)->g.ow j=t->g0.ow j=t:=fun j t ht hj=>by show (if g.ow j=.fl (PK+i) then _ else _)=_;rw[hj,if_neg ht]
     have hg0':∀j,g.ow j=.fl (PK+i)->g0.ow j=.fl (N+i):=fun j hj=>by show (if g.ow j=.fl (PK+i) then _ else _)=_;rw[if_pos hj]
     have h0:Rel P B g0 e a (restore R w'):=h.fly rfl (fun j _ hm=>⟨hg0 j _ (fun hh=>hm _ hh) rfl,rfl⟩) (Streams.refl _) (fun j hj=>h.lt j fun hh=>hj (hg0 j _ (by simp) hh))
     have hr2:RepC P mid.sh u.1 g0.Z (restore R w') (g0.S (.fl (N+i))) (Qn (restore R w') S (Qm g0 a (restore R w') r) q) u.2:=by
      refine RepC.congr (fun k hk=>?_) (hmid.mono (fun j hj=>hg0 j _ (by simp) hj) (fun j hj=>hj.elim (fun hT=>hg0' j (hT1 j hT)) (fun hT=>hg0 j _ (by simp;omega) (hb j i (Nat.le_refl _) (by omega) hT))))
      rw[show Qm g0 a (restore R w') r=Qm g a (restore R w') r from ZT rfl _ _ _,k1,hrc];exact hc0 k hk
     obtain⟨g1,hpl1,how1,h1⟩:=h0.refill (n:=⟨mid.sh,u.1,u.2⟩) (hh:=false) hdr hn hset hr2
     have ht1:∀j t,t ≠ .fl (N+i)->t ≠ .fl (PK+i)->g.ow j=t->g1.ow j=t:=fun j t ht ht' hj=>by rw[how1,if_neg (by rw[hg0 j t ht' hj];exact ht),hg0 j t ht' hj]
     obtain⟨g2,hpl2,h2,k2,k3⟩:=ih h1 hio (hw.setR hdr (show g1.pl=g.pl from hpl1) (fun b hb hr=>QcL (Yv hap) b hb (by rw[hr];exact aLm)) (fun j m hm hj=>ht1 j _ (by simp;omega) (by simp;omega) hj) (fun j hj=>ht1 j _ (by simp) (by simp) hj)) (by omega) (Yv hap)
      (fun j hj=>ht1 j _ (by simp) (by simp) (hz j hj)) (fun j m hm hM hj=>ht1 j _ (by simp;omega) (fun hh=>by simp only[Tag.fl.injEq] at hh;omega) (hb j m (by omega) hM hj)) hp
     exact⟨g2,hpl2.trans hpl1,h2,fun j k hk hj=>k2 j k hk (ht1 j _ (by simp;omega) (by simp;omega) hj),fun j hj=>k3 j (ht1 j _ (by simp) (by simp) hj)⟩
    ·rw[hdr] at hp;cases hp
 | @io i s f f' ps v vs R hb o arr arr' ty hv hw0 hw1 hsz hout hcb hB2 ih=>
  intro g e e' bs ys lent h hio hw hlen hap hz hbm hp
  simp only[aLh] at hlen
  cases hw with
  | io h1 hw=>
   rename_i b bs
   cases ys with
   | nil=>simp[Zi] at hio
   | cons y ys=>
    simp only[Zi] at hio
    obtain⟨⟨hb2,o2,arr2,arr2',ty2,i1,i2,i3,i4,i5,i6,hsy,hrep⟩,hio⟩:=hio
    rw[hv] at i1
    simp only[Value.pointer.injEq,aLb,Addr.mk.injEq,and_true] at i1
    obtain⟨rfl,rfl⟩:=i1
    obtain⟨n,q,S,F,X,hb3,ho,mid,rfl,hn,hS,hdr,hpl,hpt⟩:=h1
    rw[hv] at hpt
    simp only[Value.pointer.injEq,aLb,Addr.mk.injEq,and_true] at hpt
    obtain⟨rfl,rfl⟩:=hpt
    simp only[Qa2] at hp
    rw[hdr] at hp
    simp only[hsy,decide_true,aLB,aLa] at hp
    obtain⟨n0,hback,z,hset,hp⟩:=hp
    obtain rfl:=QCT rfl hback
    obtain⟨ysh,yx⟩:=y
    simp only at hsy hrep hset;subst hsy
    have hnotR:∀q,q ∈ R->q.1 ≠ hb:=fun q hq hqj=>by
     obtain⟨m,hm,hmm⟩:=hB2.tags q hq
     rw[hqj,hcb] at hmm;simp only[Tag.c.injEq] at hmm;omega
    have hwn:(restore R w').heap[hb]? = some (.cells arr' ty (0,0)):=(Qcb hnotR).trans hw1
    have hwc:(restore ((hb,arr)::R) w').heap[hb]? = some (.cells arr ty (0,0)):=setRow_heap _ _ _ _ _ _ hwn
    obtain⟨k1,k2,_,k4⟩:=Jr (restore ((hb,arr)::R) w') q (c:=Qm g a (restore ((hb,arr)::R) w') (.b n)) hn hS
    have hbl:=h.bl n
    rw[show (e.b n).d=.v S F X from hdr] at hbl
    obtain⟨_,arr3,ty3,j2,j3⟩:=hbl.2 hb ho hpl
    rw[hwc] at j2
    simp only[aLb,Obj.cells.injEq] at j2
    obtain⟨rfl,rfl,_⟩:=j2
    have hA:Ql S (QX g (.b n)) (restore ((hb,arr)::R) w') (Qm g a (restore ((hb,arr)::R) w') (.b n)) q=some (hb,ho+offs S q):=by
     rw[show QX g (.b n)=some (hb,ho) by simp[QX,hpl]];exact k2 hb ho
    have hot:∀j,(∀m,ow' j ≠ .c m)->(restore ((hb,arr)::R) w').heap[j]? = w'.heap[j]?:=fun j hj=>Qcb fun q hq hqj=>by
     rcases List.mem_cons.1 hq with rfl | hq
     ·exact hj i (hqj ▸ hcb)
     ·obtain⟨m,_,hm⟩:=hB2.tags q hq
      exact hj m (hqj ▸ hm)
    have hr2:RepC P ysh f' g.Z (restore ((hb,arr)::R) w') (g.S (.fl (N+i))) (Qe w' hb (ho+offs S q)) yx:=
     hrep.frame (fun j hj=>hz j hj) (fun j hj=>hbm j i (Nat.le_refl _) (by omega) hj) (fun j hj=>hot j fun m hm=>by
      rcases hj with hj | hj
      ·rw[show ow' j=.b i from hj] at hm;cases hm
      ·rw[show ow' j=.fz from hj] at hm;cases hm)
    have hW:Wrote (restore ((hb,arr)::R) w') (restore R w') hb (ho+offs S q) ysh.size (Qe w' hb (ho+offs S q)):=by
     refine⟨fun j hj=>(setRow_other _ _ _ _ hj).symm,arr,arr',ty,hwc,hwn,hsz,by omega,fun k hk=>?_,fun k hk=>hout k hk⟩
     simp[Qe,World.cell?,hw1]
    have hst:Streams (restore ((hb,arr)::R) w') (restore R w'):=⟨rfl,rfl,rfl,by simp[restore],Nat.le_refl _⟩
    obtain⟨g1,hpl1,how1,h1⟩:=h.put (n:=⟨ysh,f',yx⟩) (hh:=true) hdr hset (QsK q hn hS) hA hr2 (fun h=>by cases h) hW hst (by simp[restore]) (Qyl hn)
    have ht1:∀j t,t ≠ .fl (N+i)->g.ow j=t->g1.ow j=t:=fun j t ht hj=>by rw[how1,if_neg (by rw[hj];exact ht),hj]
    obtain⟨g2,hpl2,h2,k2,k3⟩:=ih h1 hio (hw.setR hdr hpl1 (fun b hb hr=>QcL (Yv hap) b hb (by rw[hr];exact aLm)) (fun j m hm hj=>ht1 j _ (by simp;omega) hj) (fun j hj=>ht1 j _ (by simp) hj)) (by omega) (Yv hap)
     (fun j hj=>ht1 j _ (by simp) (hz j hj)) (fun j m hm hM hj=>ht1 j _ (by simp;omega) (hbm j m (by omega) hM hj)) hp
    exact⟨g2,hpl2.trans hpl1,h2,fun j k hk hj=>k2 j k hk (ht1 j _ (by simp;omega) hj),fun j hj=>k3 j (ht1 j _ (by simp) hj)⟩
end Go.Dx
namespace Go.Dx
variable {P:Program} {B:Base} {g:Gh} {e:Env} {a:Act} {w:World} {C:Ctx}
theorem Zi.refit {ow' ow'':Nat->Tag} {w w':World} (ht:∀j t,t ≠ .fz->ow' j=t->ow'' j=t) (hor:∀j,ow' j=.fz->ow'' j=.fz\/True) :
  ∀(ps:List PS) (i:Nat) {vs:List Value} {ys:List ((s:Sh)×s.den)} {bs:List WB} {g:Gh} {e:Env},Zi P ow' w w' i ps vs ys->Qbr P w g e a ow' w' i ps vs bs->bs.all (fun b=>QI b.s b.f)=true->Zi P ow'' w w' i ps vs ys:=by
 intro ps
 induction ps with
 | nil=>intro i vs ys bs g e h _ _;exact h
 | cons p ps ih=>
  intro i vs ys bs g e h hw hf
  cases hw with
  | v hw=>simp only[Zi] at h ⊢;exact ih (i+1) h hw hf
  | rp hw=>simp only[Zi] at h ⊢;exact ih (i+1) h hw hf
  | io h1 hw=>
   cases ys with
   | nil=>simp[Zi] at h
   | cons y ys=>
    simp only[Zi] at h ⊢
    simp only[List.all_cons,aLg] at hf
    obtain⟨⟨hb,o,arr,arr',ty,i1,i2,i3,i4,i5,i6,hsy,hrep⟩,h⟩:=h
    obtain⟨n,q,S,F,X,hb3,ho,mid,rfl,_⟩:=h1
    obtain⟨ysh,yx⟩:=y
    simp only at hsy hrep;subst hsy
    exact⟨⟨hb,o,arr,arr',ty,i1,i2,i3,i4,i5,ht _ _ (by simp) i6,rfl,(QfV (Z':=Zo ow'') hf.1 hrep).mono (fun _ h=>h) (fun j hj=>ht j _ (by simp) hj)⟩,ih (i+1) h hw hf.2⟩
  | mu h1 hw=>
   cases ys with
   | nil=>simp[Zi] at h
   | cons y ys=>
    simp only[Zi] at h ⊢
    simp only[List.all_cons,aLg] at hf
    obtain⟨⟨hsy,hrep⟩,h⟩:=h
    obtain⟨r,q,S,X,T1,Zw,mid,rest,c0,rfl,_⟩:=h1
    obtain⟨ysh,yx⟩:=y
    simp only at hsy hrep;subst hsy
    exact⟨⟨rfl,hrep.1,(QfV (Z':=Zo ow'') hf.1 hrep.2).mono (fun _ h=>h) (fun j hj=>ht j _ (by simp) hj)⟩,ih (i+1) h hw hf.2⟩
end Go.Dx
namespace Go.Dx
variable {P:Program} {B:Base} {g:Gh} {e:Env} {a:Act} {w:World} {C:Ctx}
theorem QAP (h:Rel P B g e a w) {ow':Nat->Tag} {outs:List (Sh×Fl)} {vr:Value} {ys:List ((s:Sh)×s.den)} (hr:Qxl P ow' w outs vr ys)
  (hz:(∀j,ow' j=.fz->g.ow j=.fz)\/outs.all (fun o=>QI o.1 o.2)=true) (hfl:∀j k,k<outs.length->ow' j=.fl k->g.ow j=.fl k) (dst:Option Tmp) :
  ∃g',Rel P B g' (e.dst dst (resultD outs ys)) (a.put dst vr) w:=by
 obtain⟨hsh,hr⟩:=hr
 have one:∀{s:Sh} {f:Fl} {k:Nat} {v:Value} {x:s.den},(s,f) ∈ outs->k<outs.length->RepV P s f (Zo ow') w (So ow' (.fl k)) v x->RepV P s f g.Z w (g.S (.fl k)) v x:=by
  intro s f k v x hm hk hrep
  refine⟨hrep.1,?_⟩
  rcases hz with hz | hz
  ·exact hrep.2.mono hz (fun j hj=>hfl j k hk hj)
  ·have:=List.all_eq_true.1 hz (s,f) hm
   exact (QfV this hrep.2).mono (fun _ h=>h) (fun j hj=>hfl j k hk hj)
 have tup:(∃vs:Array Value,vr=.tuple vs/\vs.size=outs.length/\∀(k:Nat) (o:Sh×Fl) (y:(s:Sh)×s.den) (u:Value),outs[k]? = some o->ys[k]? = some y->vs[k]? = some u->RepV P y.1 o.2 (Zo ow') w (So ow' (.fl k)) u y.2)->
   ∃g',Rel P B g' (e.dst dst (.tup ((outs.zip ys).map fun (q:(Sh×Fl)×((s:Sh)×s.den))=>(⟨q.2.1,q.1.2,q.2.2⟩:Dv)))) (a.put dst vr) w:=by
  rintro ⟨vs,rfl,hsz,hall⟩
  have hlen:ys.length=outs.length:=by have:=congrArg List.length hsh;simpa using this
  let ow2:Nat->Tag:=fun j=>match g.ow j with | .fl _=>.fl 0 | t=>t
  have kfl:∀j m,g.ow j=.fl m->ow2 j=.fl 0:=fun j m hj=>by simp[ow2,hj]
  have kno:∀j,(∀m,g.ow j ≠ .fl m)->ow2 j=g.ow j:=fun j hj=>by
   show (match g.ow j with | .fl _=>Tag.fl 0 | t=>t)=_
   cases hq:g.ow j<;>first | rfl | exact absurd hq (hj _)
  have h2:Rel P B ⟨ow2,g.pl⟩ e a w:=h.fly rfl (fun j _ hm=>⟨kno j hm,rfl⟩) (Streams.refl _) (fun j hj=>h.lt j fun h0=>hj (by show ow2 j=.none;rw[kno j (by rw[h0];simp)];exact h0))
  obtain⟨g3,_,_,h3⟩:=h2.dst 0 dst (d:=.tup ((outs.zip ys).map fun (q:(Sh×Fl)×((s:Sh)×s.den))=>(⟨q.2.1,q.1.2,q.2.2⟩:Dv))) (v:=.tuple vs)
   ⟨vs,rfl,by simp[hsz,hlen],fun j=>(match g.ow j with | .fl m=>m | _=>0),fun k y u hy hu=>by
    rw[List.getElem?_map,aLd] at hy
    obtain⟨⟨o,z⟩,hoz,rfl⟩:=hy
    rw[List.getElem?_zip_eq_some] at hoz
    obtain⟨ho,hz'⟩:=hoz
    have hk:k<outs.length:=(aLy.1 ho).1
    have hos:z.1=o.1:=by
     have h1:(ys.map (·.1))[k]? = some z.1:=by simp[hz']
     rw[hsh] at h1
     simpa [ho] using h1.symm
    obtain⟨os,of⟩:=o
    obtain⟨zs,zx⟩:=z
    simp only at hos;subst hos
    have hrep:=one (List.mem_of_getElem? ho) hk (hall k _ _ u ho hz' hu)
    refine hrep.frame (fun j hj=>?_) (fun j hj=>⟨kfl j k hj,by show (match g.ow j with | .fl m=>m | _=>0)=k;rw[show g.ow j=.fl k from hj]⟩) (fun _ _=>rfl)
    have hj:g.ow j=.fz:=hj
    show ow2 j=.fz
    rw[kno j (by rw[hj];simp)];exact hj⟩
  exact⟨g3,h3⟩
 unfold resultD
 split
 ·rename_i s f y rest
  have hy:y.1=s:=by simp at hsh;exact hsh.1
  obtain⟨ysh,yx⟩:=y
  simp only at hy;subst hy
  have hr:RepV P ysh f (Zo ow') w (So ow' (.fl 0)) vr yx:=hr
  obtain⟨g',_,_,h'⟩:=h.dst 0 dst (d:=.v ysh f yx) (v:=vr) (one (k:=0) (by simp) (by simp) hr)
  exact⟨g',h'⟩
 ·rename_i hne
  refine tup ?_
  split at hr
  ·rename_i s f y rest;exact (hne _ _ _ _ rfl rfl).elim
  ·exact hr
end Go.Dx
namespace Go.Dx
variable {P:Program} {B:Base} {g:Gh} {e:Env} {a:Act} {w:World} {C:Ctx}
theorem QDJ:∀(ps:List PS) (i:Nat) {os:List Operand} {xs:List (Option ((s:Sh)×s.den))} {wbs:List WB} {ow':Nat->Tag} {w':World},Rel P B g e a w->Qf1 P g e a w i ps os xs wbs->
  (∀j,(∀n,g.ow j=.c n->∃b,b ∈ wbs/\b.r=.b n->False)->True)->
  (∀b,b ∈ wbs->b.io=false->∀n hb ho,b.r=.b n->g.pl n=.cells hb ho->w'.heap[hb]? = w.heap[hb]?/\∀m,ow' hb ≠ .c m)->
  (∀j,((∃m,PK<=m/\g.ow j=.fl m)\/g.ow j=.fz)->w'.heap[j]? = w.heap[j]?/\∀m,ow' j ≠ .c m)->Qbr P w g e a ow' w' i ps (os.map a.eval) wbs:=by
 intro ps
 induction ps with
 | nil=>
  intro i os xs wbs ow' w' h hg _ _ _
  cases os with
  | nil=>
   cases xs with
   | nil=>obtain rfl:wbs=[]:=hg;exact .nil
   | cons x xs=>exact hg.elim
  | cons o os=>exact hg.elim
 | cons p ps ih=>
  intro i os xs wbs ow' w' h hg hu hm hpz
  cases os with
  | nil=>exact hg.elim
  | cons o os=>
   cases xs with
   | nil=>exact hg.elim
   | cons x xs=>
    obtain⟨w1,w2,rfl,hg1,hg2⟩:=hg
    have hrest:=ih (i+1) h hg2 (fun _ _=>trivial) (fun b hb=>hm b (List.mem_append_right _ hb)) hpz
    cases x with
    | none=>
     obtain⟨rfl,hp⟩:=hg1
     rcases hp with ⟨s,rfl⟩ | ⟨s,q,rfl⟩
     ·exact .v hrest
     ·exact .rp hrest
    | some x=>
     obtain⟨hsx,hg1⟩:=hg1
     cases p with
     | v s f=>obtain⟨rfl,_⟩:=hg1;exact .v hrest
     | rp s q=>exact hg1.elim
     | io s f f'=>
      obtain⟨n,q,S,F,X,hb,ho,mid,rfl,h4,h5,h6,h7,h8,h9⟩:=hg1
      exact .io ⟨n,q,S,F,X,hb,ho,mid,rfl,h4,h5,h6,h7,h8⟩ hrest
     | mu s f f'=>
      obtain⟨_,r,q,S,X,T1,mid,rest,rfl,h4,h5,h6,h7,h8,h9,h10⟩:=hg1
      have hmm:=hm ⟨r,q,s,f',false,mid,rest⟩ (by simp) rfl
      refine .mu ⟨r,q,S,X,T1,g.Z,mid,rest,_,rfl,h4,h5,h6,fun k _=>?_,h7,fun j hj=>hj,fun j hj=>hpz j (hj.elim (fun hj=>.inl ⟨PK+i,by omega,h7 j hj⟩) .inr),h8,h10,fun n hb ho hr hpl=>(hmm n hb ho hr hpl).2⟩ hrest
      cases r with
      | s t=>rfl
      | b n=>
       simp only[Qm]
       cases hpl:g.pl n with
       | hdr u=>rfl
       | cells hb ho=>simp only[];rw[Zm (hmm n hb ho rfl hpl).1]
end Go.Dx
namespace Go.Dx
variable {P:Program} {B:Base} {g:Gh} {e:Env} {a:Act} {w:World} {C:Ctx}
def mapT (N:Nat):Tag->Tag
 | .fz=>.fz
 | .fl k=>.fl k
 | .b i=>.fl (N+i)
 | _=>.none
noncomputable def Qxo (g:Gh) (w:World) (ow':Nat->Tag) (N:Nat):Gh:=
 ⟨fun j=>@ite _ (j<w.heap.size/\∀m,m<PK->g.ow j ≠ .fl m) (Classical.propDecidable _) (g.ow j) (mapT N (ow' j)),g.pl⟩
theorem Qlv {w:World} {ow':Nat->Tag} {N j:Nat} (h1:j<w.heap.size) (h2:∀m,m<PK->g.ow j ≠ .fl m):(Qxo g w ow' N).ow j=g.ow j:=by
 show @ite _ _ (Classical.propDecidable _) _ _=_
 rw[if_pos ⟨h1,h2⟩]
theorem Qqq {w:World} {ow':Nat->Tag} {N j:Nat} (h:¬(j<w.heap.size/\∀m,m<PK->g.ow j ≠ .fl m)):(Qxo g w ow' N).ow j=mapT N (ow' j):=by
 show @ite _ _ (Classical.propDecidable _) _ _=_
 rw[if_neg h]
theorem Back.restored {w w':World} {ow':Nat->Tag} {i:Nat} {ps:List PS} {vs:List Value} {R:List (Nat×Array Value)} (h:Back w w' ow' i ps vs R):∀q,q ∈ R->(restore R w').heap[q.1]? = w.heap[q.1]?:=by
 induction h with
 | nil i=>intro q hq;cases hq
 | v _ ih=>exact ih
 | rp _ ih=>exact ih
 | mu _ ih=>exact ih
 | @io i s f f' ps v vs R hb o arr arr' ty h1 h2 h3 h4 h5 h6 hB ih=>
  intro q hq
  have hn:∀q,q ∈ R->q.1 ≠ hb:=fun q hq hqj=>by
   obtain⟨m,hm,hmm⟩:=hB.tags q hq
   rw[hqj,h6] at hmm;simp only[Tag.c.injEq] at hmm;omega
  have hhb:(restore ((hb,arr)::R) w').heap[hb]? = w.heap[hb]?:=by
   rw[h2];exact setRow_heap _ _ _ _ _ _ ((Qcb hn).trans h3)
  rcases List.mem_cons.1 hq with rfl | hq
  ·exact hhb
  ·have:(restore ((hb,arr)::R) w').heap[q.1]? = (restore R w').heap[q.1]?:=setRow_other _ _ _ _ (hn q hq)
   rw[this];exact ih q hq
theorem QDH {N:Nat} {t:Tag} (h:mapT N t ≠ .none):t ≠ .none:=by rintro rfl;exact h rfl
theorem QAG (h:Rel P B g e a w) {K:Callee} {L:List Root} {cix:Nat->Option Nat} {vs:List Value} {ys:TupO (K.outs.map (·.1)++Qbs K.ins)} {ow':Nat->Tag} {w':World} {vr:Value} {N:Nat} (hdm:B.dm=true->K.dm=true) (hp:Qir P K (owC g L cix) w vs ys ow' w' vr)
  {R:List (Nat×Array Value)} (hB:Back w w' ow' 0 K.ins vs R) (hcR:∀j n i o,g.ow j=.c n->g.pl n=.cells j o->cix n=some i->∃q,q ∈ R/\q.1=j):Rel P B (Qxo g w ow' N) e a (restore R w'):=by
 obtain⟨s1,s2,s3⟩:=QkO R w'
 refine h.flyD rfl (fun j hj hm=>⟨Qlv hj (fun m _=>hm m),?_⟩) ((hp.st.weak hdm).trans s1.d) (fun j hj=>?_)
 ·by_cases hR:∃q,q ∈ R/\q.1=j
  ·obtain⟨q,hq,rfl⟩:=hR;exact hB.restored q hq
  ·rw[Qcb (fun q hq hqj=>hR ⟨q,hq,hqj⟩)]
   exact (hp.frame j hj (Qro (fun m _=>hm m) (fun n i o h1 h2 h3=>hR (hcR j n i o h1 h2 h3)))).1
 ·rw[s3]
  by_cases hc:j<w.heap.size/\∀m,m<PK->g.ow j ≠ .fl m
  ·have:=hp.st.size;omega
  ·rw[Qqq hc] at hj
   exact hp.lt j (QDH hj)
end Go.Dx
namespace Go.Dx
variable {P:Program} {B:Base} {g:Gh} {e:Env} {a:Act} {w:World} {C:Ctx}
theorem QC0 {w w':World} {ow':Nat->Tag}:∀(ps:List PS) (i:Nat) {os:List Operand} {xs:List (Option ((s:Sh)×s.den))} {wbs:List WB} {R:List (Nat×Array Value)},Qf1 P g e a w i ps os xs wbs->Back w w' ow' i ps (os.map a.eval) R->
  ∀j n k o,g.pl n=.cells j o->ZQ i ps wbs n=some k->∃q,q ∈ R/\q.1=j:=by
 intro ps
 induction ps with
 | nil=>intro i os xs wbs R _ _ j n k o _ hc;simp[ZQ] at hc
 | cons p ps ih=>
  intro i os xs wbs R hg hB j n k o hpl hc
  cases os with
  | nil=>exact hg.elim
  | cons oo os=>
   cases xs with
   | nil=>exact hg.elim
   | cons x xs=>
    obtain⟨w1,w2,rfl,hg1,hg2⟩:=hg
    cases x with
    | none=>
     obtain⟨rfl,hp⟩:=hg1
     rcases hp with ⟨s,rfl⟩ | ⟨s,q,rfl⟩
     ·cases hB with | v hB=>exact ih (i+1) hg2 hB j n k o hpl (by simpa [ZQ] using hc)
     ·cases hB with | rp hB=>exact ih (i+1) hg2 hB j n k o hpl (by simpa [ZQ] using hc)
    | some x=>
     obtain⟨_,hg1⟩:=hg1
     cases p with
     | v s f=>obtain⟨rfl,_⟩:=hg1;cases hB with | v hB=>exact ih (i+1) hg2 hB j n k o hpl (by simpa [ZQ] using hc)
     | rp s q=>exact hg1.elim
     | io s f f'=>
      obtain⟨n',q,S,F,X,hb,ho,mid,rfl,h4,h5,h6,h7,h8,h9⟩:=hg1
      cases hB with
      | io h1 _ _ _ _ _ hB=>
       rw[h8] at h1
       simp only[Value.pointer.injEq,aLb,Addr.mk.injEq,and_true] at h1
       by_cases hn:n'=n
       ·subst hn
        rw[hpl] at h7
        simp only[Plc.cells.injEq] at h7
        exact⟨_,aLm,by rw[<-h1.1,<-h7.1]⟩
       ·obtain⟨q',hq',hqj⟩:=ih (i+1) hg2 hB j n k o hpl (by simpa [ZQ,hn] using hc)
        exact⟨q',aLp _ hq',hqj⟩
     | mu s f f'=>
      obtain⟨_,r,q,S,X,T1,mid,rest,rfl,_⟩:=hg1
      cases hB with | mu hB=>exact ih (i+1) hg2 hB j n k o hpl (by simpa [ZQ] using hc)
end Go.Dx
namespace Go.Dx
variable {P:Program} {B:Base} {g:Gh} {e:Env} {a:Act} {w:World} {C:Ctx}
theorem Back.mono {w w':World} {ow' ow'':Nat->Tag} (ht:∀j m,ow' j=.c m->ow'' j=.c m) {i:Nat} {ps:List PS} {vs:List Value} {R:List (Nat×Array Value)} (h:Back w w' ow' i ps vs R):Back w w' ow'' i ps vs R:=by
 induction h with
 | nil i=>exact .nil i
 | v _ ih=>exact .v ih
 | rp _ ih=>exact .rp ih
 | mu _ ih=>exact .mu ih
 | io h1 h2 h3 h4 h5 h6 _ ih=>exact .io h1 h2 h3 h4 h5 (ht _ _ h6) ih
theorem Qbr.tags {g g':Gh} {ow' ow'':Nat->Tag} {w':World} (hpl:g'.pl=g.pl) (hpk:∀j m,g.ow j=.fl (PK+m)->g'.ow j=.fl (PK+m)) (hz:∀j,g.ow j=.fz->g'.ow j=.fz) (hc:∀j m,ow'' j=.c m->ow' j=.c m)
  {i:Nat} {ps:List PS} {vs:List Value} {bs:List WB} (h:Qbr P w g e a ow' w' i ps vs bs):Qbr P w g' e a ow'' w' i ps vs bs:=by
 induction h with
 | nil=>exact .nil
 | v _ ih=>exact .v ih
 | rp _ ih=>exact .rp ih
 | io h1 _ ih=>
  refine .io ?_ ih
  obtain⟨n,q,S2,F2,X2,hb,ho,mid,rfl,h2,h3,h4,h5,h6⟩:=h1
  exact⟨n,q,S2,F2,X2,hb,ho,mid,rfl,h2,h3,h4,by rw[hpl];exact h5,h6⟩
 | mu h1 _ ih=>
  refine .mu ?_ ih
  obtain⟨r2,q,S2,X2,T1,Zw,mid,rest,c0,rfl,h2,h3,h4,h5,h6,h7,h8,h9,h10,h11⟩:=h1
  exact⟨r2,q,S2,X2,T1,Zw,mid,rest,c0,rfl,h2,h3,h4,by rw[ZT hpl];exact h5,fun j hj=>hpk j _ (h6 j hj),fun j hj=>hz j (h7 j hj),
   fun j hj=>⟨(h8 j hj).1,fun m hm=>(h8 j hj).2 m (hc j m hm)⟩,h9,h10,fun n hb ho hr hp m hm=>by rw[hpl] at hp;exact h11 n hb ho hr hp m (hc _ _ hm)⟩
theorem Qt4:∀(ps:List PS) (i:Nat) {wbs:List WB} {n k:Nat},ZQ i ps wbs n=some k->∃b,b ∈ wbs/\b.r=.b n:=by
 intro ps
 induction ps with
 | nil=>intro i wbs n k h;simp[ZQ] at h
 | cons p ps ih=>
  intro i wbs n k h
  cases p with
  | v s f=>exact ih (i+1) (by simpa only [ZQ] using h)
  | rp s q=>exact ih (i+1) (by simpa only [ZQ] using h)
  | io s f f'=>
   cases wbs with
   | nil=>simp[ZQ] at h
   | cons b wbs=>
    simp only[ZQ] at h
    split at h
    ·rename_i hr;exact⟨b,aLm,hr⟩
    ·obtain⟨b',h1,h2⟩:=ih (i+1) h;exact⟨b',aLp _ h1,h2⟩
  | mu s f f'=>
   cases wbs with
   | nil=>simp[ZQ] at h
   | cons b wbs=>
    simp only[ZQ] at h
    obtain⟨b',h1,h2⟩:=ih (i+1) h;exact⟨b',aLp _ h1,h2⟩
theorem QCR:∀(ps:List PS) (i:Nat) {os:List Operand} {xs:List (Option ((s:Sh)×s.den))} {wbs:List WB} {lent:List Root},Qf1 P g e a w i ps os xs wbs->Qch lent wbs=true->∀b,b ∈ wbs->b.io=false->∀n,b.r=.b n->
  ZQ i ps wbs n=none/\∃S F X,(e.root (.b n)).d=.v S F X:=by
 intro ps
 induction ps with
 | nil=>
  intro i os xs wbs lent hg hap b hb
  cases os<;>cases xs<;>first | exact hg.elim | (obtain rfl:wbs=[]:=hg;cases hb)
 | cons p ps ih=>
  intro i os xs wbs lent hg hap b hb hio n hn
  cases os with
  | nil=>exact hg.elim
  | cons o os=>
   cases xs with
   | nil=>exact hg.elim
   | cons x xs=>
    obtain⟨w1,w2,rfl,hg1,hg2⟩:=hg
    cases x with
    | none=>
     obtain⟨rfl,hp⟩:=hg1
     have:=ih (i+1) hg2 hap b hb hio n hn
     rcases hp with ⟨s,rfl⟩ | ⟨s,q,rfl⟩<;>exact⟨by simpa only [ZQ,aLx] using this.1,this.2⟩
    | some x=>
     obtain⟨_,hg1⟩:=hg1
     cases p with
     | v s f=>
      obtain⟨rfl,_⟩:=hg1
      have:=ih (i+1) hg2 hap b hb hio n hn
      exact⟨by simpa only [ZQ,aLx] using this.1,this.2⟩
     | rp s q=>exact hg1.elim
     | io s f f'=>
      obtain⟨n',q,S,F,X,hb',ho,mid,rfl,h4,h5,h6,_⟩:=hg1
      simp only[List.cons_append,aLx,List.mem_cons] at hb
      rcases hb with rfl | hb
      ·cases hio
      ·have:=ih (i+1) hg2 (Yv hap) b hb hio n hn
       have hne:¬Root.b n'=.b n:=fun hh=>QcL (Yv hap) b hb (by rw[hn,<-hh];exact aLm)
       exact⟨by simpa only [List.cons_append,aLx,ZQ,hne,if_false] using this.1,this.2⟩
     | mu s f f'=>
      obtain⟨_,r,q,S,X,T1,mid,rest,rfl,h4,h5,h6,_⟩:=hg1
      simp only[List.cons_append,aLx,List.mem_cons] at hb
      rcases hb with rfl | hb
      ·refine⟨?_,?_⟩
       ·simp only[List.cons_append,aLx,ZQ]
        cases hq:ZQ (i+1) ps w2 n with
        | none=>rfl
        | some k=>
         obtain⟨b',h1,h2⟩:=Qt4 ps (i+1) hq
         exact (QcL (Yv hap) b' h1 (by rw[h2];exact hn ▸ aLm)).elim
       ·simp only at hn
        subst hn
        rcases h6 with ⟨F,h6⟩ | ⟨_,t,ht⟩
        ·exact⟨S,F,X,h6⟩
        ·cases ht
      ·have:=ih (i+1) hg2 (Yv hap) b hb hio n hn
       exact⟨by simpa only [List.cons_append,aLx,ZQ] using this.1,this.2⟩
theorem QAT (hC:Qb5 P B.g0 B.dm C) (h:Rel P B g e a w) {o:Oper} {c:Call} {fo:Operand} (ho:o.op=.call c) (hc:c.callee=.value fo) {j:FuncId} (hfo:e.opd fo=.clos j []) {f:Eff} {e':Env}
  (hs:QkQ C e o.dst j c.args.toList=some f) (hf:f.gives e'):QK P B a w o e':=by
 let g0:Gh:=⟨fun i=>match g.ow i with | .fl _=>.none | t=>t,g.pl⟩
 have hg0:∀i,(∀m,g.ow i ≠ .fl m)->g0.ow i=g.ow i:=fun i hi=>by
  show (match g.ow i with | .fl _=>Tag.none | t=>t)=_
  cases hq:g.ow i<;>first | rfl | exact absurd hq (hi _)
 have h0:Rel P B g0 e a w:=h.fly rfl (fun i _ hm=>⟨hg0 i hm,rfl⟩) (Streams.refl _) (fun i hi=>h.lt i fun hh=>hi (by rw[hg0 i (by rw[hh];simp)];exact hh))
 have hno:∀i m,Fr 0 m->g0.ow i ≠ .fl m:=fun i m _ hh=>by
  have:(match g.ow i with | .fl _=>Tag.none | t=>t)=.fl m:=hh
  cases hq:g.ow i<;>simp[hq] at this
 unfold QkQ at hs
 obtain⟨K,hK,hs⟩:=aLa.1 hs
 obtain⟨⟨e1,xs,wbs⟩,hA,hs⟩:=aLa.1 hs
 obtain⟨⟨zs,L⟩,hB,hs⟩:=aLa.1 hs
 obtain⟨t,ht,hs⟩:=aLa.1 hs
 simp only at hB hs
 cases hck:(L.isEmpty || (K.outs.all (fun o=>QI o.1 o.2)&&wbs.all (fun b=>QI b.s b.f)))&&Qch L wbs&&Nat.ble (K.outs.length+K.ins.length) PK with
 | false=>rw[hck] at hs;cases hs
 | true=>
  rw[hck,aLB] at hs
  simp only[aLb] at hs;subst hs
  obtain⟨ys,hF,hres⟩:=hf
  simp only[aLg,Nat.ble_eq] at hck
  obtain⟨⟨hfree,hap⟩,hle⟩:=hck
  obtain⟨g1,hg1,h1,_,_,hgave⟩:=QCA K.ins c.args.toList 0 (by omega) h0 hno hA
  let cix:Nat->Option Nat:=ZQ 0 K.ins wbs
  have hcixL:∀n i,cix n=some i->.b n ∉ L:=fun n i hn hm=>by
   obtain⟨b,hb,hr⟩:=Qt4 K.ins 0 hn
   exact QcL hap b hb (hr ▸ hm)
  obtain⟨hE,hcall⟩:=hC.fn j K hK
  have hpar:QbO P (owC g1 L cix) w 0 K.ins (c.args.toList.map a.eval) t:=
   QBu hC h1 (fun j hj=>QA7 hj) (fun j m hm hj=>QEs hm hj) (fun j o n i hpl how hn=>QEQ (hcixL n i hn) how hn hpl) K.ins 0 (by omega) hgave hB ht (fun _ h=>h) (QEB K.ins 0 hap (fun _ _=>rfl))
  have hcl:=hcall w (owC g1 L cix) (c.args.toList.map a.eval) t ys (fun i hi=>h1.lt i (QEp hi)) (fun i hi=>⟨QA7 (.inl (h1.gok i hi).1),(h1.gok i hi).2⟩) hpar hF
  obtain⟨Tf,hdf,_,_⟩:=QD h fo
  rw[hfo] at hdf
  obtain⟨vs,hv,hlen,_⟩:=hdf
  have hvs:vs=[]:=List.eq_nil_of_length_eq_zero hlen
  subst hvs
  refine .call (QnY (f:=fo) ho hc hE (caps:=#[]) (by rw[hv])) (by
   have:c.args.map a.eval++#[]=(c.args.toList.map a.eval).toArray:=by apply Array.ext';simp
   rw[this];exact hcl) (fun en w' hR=>?_)
  obtain⟨vr,ow',rfl,hp⟩:=hR
  refine⟨vr,rfl,?_⟩
  obtain⟨R,hBk⟩:=QDA K.ins 0 hp.ios
  have hcR:∀j n i o,g1.ow j=.c n->g1.pl n=.cells j o->cix n=some i->∃q,q ∈ R/\q.1=j:=fun j n i o _ hpl hn=>QC0 K.ins 0 hgave hBk j n i o hpl hn
  have h2:=QAG h1 (N:=K.outs.length) (fun q=>hC.dm q j K hK) hp hBk hcR
  have hold:∀j,j<w.heap.size->(∀m,m<PK->g1.ow j ≠ .fl m)->(ow' j=.none\/(ow' j=.fz/\Zl g1 L j)\/∃m,ow' j=.c m):=fun j hj hm=>by
   by_cases hcc:∃n i o,g1.ow j=.c n/\g1.pl n=.cells j o/\cix n=some i
   ·obtain⟨n,i,o,h3,h4,h5⟩:=hcc
    obtain⟨q,hq,rfl⟩:=hcR j n i o h3 h4 h5
    obtain⟨m,_,hm⟩:=hBk.tags q hq
    exact .inr (.inr ⟨m,hm⟩)
   ·have ho:=Qro (L:=L) hm (fun n i o h3 h4 h5=>hcc ⟨n,i,o,h3,h4,h5⟩)
    have hfr:=(hp.frame j hj ho).2
    rcases ho with ho | ho
    ·exact .inl (hfr.trans ho)
    ·refine .inr (.inl ⟨hfr.trans ho,?_⟩)
     by_cases hz:Zl g1 L j
     ·exact hz
     ·exfalso
      have hz':=ho
      simp only[owC,hz,if_false] at hz'
      split at hz'
      ·split at hz'<;>cases hz'
      ·split at hz'
       ·split at hz'<;>cases hz'
       ·cases hz'
      ·cases hz'
  let g2:=Qxo g1 w ow' K.outs.length
  have hnew:∀j t,t ≠ .none->t ≠ .fz->(∀m,t ≠ .c m)->ow' j=t->g2.ow j=mapT K.outs.length t:=fun j t n1 n2 n3 hj=>by
   by_cases hc:j<w.heap.size/\∀m,m<PK->g1.ow j ≠ .fl m
   ·rcases hold j hc.1 hc.2 with h3 | ⟨h3,_⟩ | ⟨m,h3⟩
    ·exact (n1 (hj.symm.trans h3)).elim
    ·exact (n2 (hj.symm.trans h3)).elim
    ·exact (n3 m (hj.symm.trans h3)).elim
   ·rw[show g2.ow j=mapT K.outs.length (ow' j) from Qqq hc,hj]
  have hzback:∀j,ow' j=.fz->g2.ow j=.fz\/L ≠ []:=fun j hj=>by
   by_cases hc:j<w.heap.size/\∀m,m<PK->g1.ow j ≠ .fl m
   ·rcases hold j hc.1 hc.2 with h3 | ⟨_,h3⟩ | ⟨m,h3⟩
    ·rw[h3] at hj;cases hj
    ·rcases h3 with h3 | ⟨r,hr,_⟩
     ·exact .inl ((Qlv hc.1 hc.2).trans h3)
     ·exact .inr (List.ne_nil_of_mem hr)
    ·rw[h3] at hj;cases hj
   ·exact .inl (by rw[show g2.ow j=mapT K.outs.length (ow' j) from Qqq hc,hj];rfl)
  let ow2:Nat->Tag:=fun j=>if ow' j=.fz/\g2.ow j ≠ .fz then .none else ow' j
  have k1:∀j t,t ≠ .fz->ow' j=t->ow2 j=t:=fun j t ht hj=>by show (if _ then _ else _)=_;rw[hj,if_neg (fun hh=>ht hh.1)]
  have k2:∀j t,t ≠ .none->ow2 j=t->ow' j=t:=fun j t ht hj=>by
   have hj:(if ow' j=.fz/\g2.ow j ≠ .fz then Tag.none else ow' j)=t:=hj
   split at hj
   ·exact (ht hj.symm).elim
   ·exact hj
  have k3:∀j,ow2 j=.fz->g2.ow j=.fz:=fun j hj=>by
   have hj:(if ow' j=.fz/\g2.ow j ≠ .fz then Tag.none else ow' j)=.fz:=hj
   split at hj
   ·cases hj
   ·rename_i hh
    by_cases hz:g2.ow j=.fz
    ·exact hz
    ·exact (hh ⟨hj,hz⟩).elim
  have hmuB:∀b,b ∈ wbs->b.io=false->∀n hb ho,b.r=.b n->g1.pl n=.cells hb ho->w'.heap[hb]? = w.heap[hb]?/\∀m,ow' hb ≠ .c m:=fun b hb hio n hb' ho hr hpl=>by
   obtain⟨hcn,S,F,X,hd⟩:=QCR K.ins 0 hgave hap b hb hio n hr
   have hbl:=h1.bl n
   rw[show (e1.b n).d=.v S F X from hd] at hbl
   obtain⟨hcow,arr,ty,hcell,_⟩:=hbl.2 hb' ho hpl
   have hlt:=h1.lt hb' (by rw[hcow];simp)
   have ho':=Qro (g:=g1) (L:=L) (cix:=cix) (j:=hb') (fun m _=>by rw[hcow];simp) (fun n' i o h3 h4 h5=>by
    rw[hcow] at h3;simp only[Tag.c.injEq] at h3;subst h3
    rw[show cix n=none from hcn] at h5;cases h5)
   have hfr:=hp.frame hb' hlt ho'
   refine⟨hfr.1,fun m hm=>?_⟩
   rw[hfr.2] at hm
   rcases ho' with h5 | h5<;>rw[h5] at hm<;>cases hm
  have hwbs:=QDJ (ow':=ow') (w':=w') K.ins 0 h1 hgave (fun _ _=>trivial) hmuB (fun j hj=>by
   have hlt:j<w.heap.size:=h1.lt j (by rcases hj with ⟨m,_,hj⟩ | hj<;>rw[hj]<;>simp)
   have ho':=Qro (g:=g1) (L:=L) (cix:=cix) (j:=j) (fun m hm hh=>by
    rcases hj with ⟨m',hm',hj⟩ | hj
    ·rw[hj] at hh;simp only[Tag.fl.injEq] at hh;omega
    ·rw[hj] at hh;cases hh) (fun n' i o h3 h4 h5=>by rcases hj with ⟨m',hm',hj⟩ | hj<;>rw[hj] at h3<;>cases h3)
   have hfr:=hp.frame j hlt ho'
   refine⟨hfr.1,fun m hm=>?_⟩
   rw[hfr.2] at hm
   rcases ho' with h5 | h5<;>rw[h5] at hm<;>cases hm)
  have hpkk:∀j m,g1.ow j=.fl (PK+m)->g2.ow j=.fl (PK+m):=fun j m hj=>(Qlv (h1.lt j (by rw[hj];simp)) (fun m' hm' hh=>by rw[hj] at hh;simp only[Tag.fl.injEq] at hh;omega)).trans hj
  have hzz:∀j,g1.ow j=.fz->g2.ow j=.fz:=fun j hj=>(Qlv (h1.lt j (by rw[hj];simp)) (fun m' hm' hh=>by rw[hj] at hh;cases hh)).trans hj
  have hwbs2:Qbr P w g2 e1 a ow2 w' 0 K.ins (c.args.toList.map a.eval) wbs:=hwbs.tags (g':=g2) (show g2.pl=g1.pl from rfl) hpkk hzz (fun j m hj=>k2 j _ (by simp) hj)
  have hios2:Zi P ow2 w w' 0 K.ins (c.args.toList.map a.eval) ((scat _ ys).drop K.outs.length):=by
   by_cases hL:L=[]
   ·have:ow2=ow':=by
     funext j
     show (if ow' j=.fz/\g2.ow j ≠ .fz then Tag.none else ow' j)=_
     rw[if_neg (fun hh=>(hzback j hh.1).elim hh.2 (fun hn=>hn hL))]
    rw[this];exact hp.ios
   ·have hfree':(K.outs.all (fun o=>QI o.1 o.2)&&wbs.all (fun b=>QI b.s b.f))=true:=by
     simp only[Bool.or_eq_true,List.isEmpty_iff] at hfree;exact hfree.resolve_left hL
    simp only[aLg] at hfree'
    exact Zi.refit k1 (fun _ _=>.inr trivial) K.ins 0 hp.ios hwbs hfree'.2
  unfold results at hres
  obtain⟨e2,hput,rfl⟩:=aLd.1 hres
  obtain⟨g3,hpl3,h3,hk3,hz3⟩:=QAR (N:=K.outs.length) (M:=K.ins.length) hle (hBk.mono (fun j m hj=>k1 j _ (by simp) hj)) h2 hios2 hwbs2 (by omega) hap k3
   (fun j m _ hm hj=>(hnew j (.b m) (by simp) (by simp) (by simp) (k2 j _ (by simp) hj))) hput
  refine QAP h3 hp.res ?_ (fun j k hk hj=>hk3 j k hk (hnew j (.fl k) (by simp) (by simp) (by simp) hj)) o.dst
  by_cases hL:L=[]
  ·exact .inl (fun j hj=>hz3 j ((hzback j hj).resolve_right (fun hn=>hn hL)))
  ·simp only[Bool.or_eq_true,List.isEmpty_iff,aLg] at hfree
   exact .inr (hfree.resolve_left hL).1
end Go.Dx
namespace Go.Dx
variable {P:Program} {B:Base} {g:Gh} {e:Env} {a:Act} {w:World} {C:Ctx}
theorem Rel.adopt (h:Rel P B g e a w) {i:Nat} (hi:i<e.sl.length) (hib:i<e.bl.length) {S:Sh} {X:S.den} {hb:Nat} {arr:Array Value} {ty:TypeId} (hcell:w.heap[hb]? = some (.cells arr ty (0,0))) (hsz:S.size<=arr.size)
  (how:g.ow hb=.none) (hnew:B.w0.heap.size<=hb) (hrep:RepC P S .z g.Z w QS (Qe w hb 0) X) :
  ∃g',g'.pl i=.cells hb 0/\Rel P B g' (e.setB i (.v S .z X)) a w:=by
 let ow':Nat->Tag:=fun j=>if j=hb then .c i else if g.ow j=.b i\/g.ow j=.c i then .none else g.ow j
 let pl':Nat->Plc:=fun j=>if j=i then .cells hb 0 else g.pl j
 have hN:ow' hb=.c i:=by simp[ow']
 have hne:∀j,g.ow j ≠ .none->j ≠ hb:=fun j hj he=>hj (he ▸ how)
 have hkeep:∀j t,g.ow j=t->t ≠ .none->t ≠ .b i->t ≠ .c i->ow' j=t:=fun j t hj h0 h2 h3=>by
  subst hj;simp[ow',hne j h0,h2,h3]
 have hnone:∀j,j ≠ hb->g.ow j=.none->ow' j=.none:=fun j hj h0=>by simp[ow',hj,h0]
 have hB:∀j,(e.setB i (.v S .z X)).b j=if i=j then ⟨(e.b i).ver+1,.v S .z X,(e.b i).id+1,(e.b i).hv+1⟩ else e.b j:=fun j=>QyM hib
 have hlt':hb<w.heap.size:=(Array.getElem?_eq_some_iff.1 hcell).1
 refine⟨⟨ow',pl'⟩,by simp[pl'],h.step (fun _=>False) (fun j=>j=i) h.lens h.defers (fun j _=>⟨rfl,rfl⟩) (fun j hj=>⟨by rw[hB,if_neg (Ne.symm hj)],by simp[pl',hj]⟩)
  (fun _ h=>h.elim) (fun j hj=>by subst hj;rw[hB,if_pos rfl];exact Nat.lt_succ_self _) (fun _ h=>h.elim) (fun j hj=>.inl (by subst hj;show (e.b j).id<((e.setB j _).b j).id;rw[hB,if_pos rfl];exact Nat.lt_succ_self _)) (fun _ h=>h.elim) (fun j hj=>by subst hj;exact QxE hib)
  (fun j hj=>⟨hkeep j _ hj (by simp) (by simp) (by simp),rfl⟩)
  (fun m j _ hj=>⟨hkeep j _ hj (by simp) (by simp) (by simp),rfl⟩)
  (fun m j hm hj=>⟨hkeep j _ hj (by simp) (by simp;exact hm) (by simp),rfl⟩)
  (fun m j hm hj=>⟨hkeep j _ hj (by simp) (by simp) (by simp;exact hm),rfl⟩)
  (Streams.refl _) (fun _ _ _=>rfl) (fun j h1 h2 h3=>hnone j (by omega) (h.nn j h1 h2 h3)) (fun j hj=>?_) (fun q hq hc hn _=>?_) (fun _ j hj=>hj.elim) (fun hk j hj=>?_)⟩
 ·by_cases hjn:j=hb
  ·omega
  ·exact h.lt j (fun h0=>hj (hnone j hjn h0))
 ·have:=h.lens.2;omega
 ·subst hj
  rw[hB,if_pos rfl]
  refine⟨?_,fun hb' o hpl=>?_⟩
  ·refine RepC.congr (fun m hm=>?_) (hrep.mono (fun m hm=>hkeep m _ hm (by simp) (by simp) (by simp)) (fun m hm=>hm.elim))
   simp only[Qm,pl',if_pos]
  ·simp only[pl',if_pos,Plc.cells.injEq] at hpl
   obtain⟨rfl,rfl⟩:=hpl
   exact⟨hN,arr,ty,hcell,by omega⟩
theorem QBD (h:Rel P B g e a w):∀(ss:List Sh) (os:List Operand) (l:List ((s:Sh)×s.den)) (t:TupI ss),rdZ e ss os=some l->gatI ss l=some t->QAF P g.Z w ss (os.map a.eval) t
 | [],[],_,_,_,_=>rfl
 | [],_::_,_,_,h,_=>by simp[rdZ] at h
 | _::_,[],_,_,h,_=>by simp[rdZ] at h
 | s::ss,o::os,l,t,hr,hg=>by
  unfold rdZ at hr
  split at hr
  ·rename_i s' f x hd
   cases hc:decide (s'=s)&&f.isz with
   | false=>rw[hc] at hr;cases hr
   | true=>
    rw[hc,aLB] at hr
    simp only[aLg,aLF] at hc
    obtain⟨rfl,hz⟩:=hc
    obtain rfl:=Qbj hz
    obtain⟨l',hl,rfl⟩:=aLd.1 hr
    obtain⟨T,ho,_,_⟩:=QD h o
    rw[hd] at ho
    have ho:RepV P s' .z g.Z w (g.S T) (a.eval o) x:=ho
    simp only[gatI,aLa] at hg
    obtain⟨x2,hx2,t2,ht2,hg⟩:=hg
    simp only[aLb] at hg
    subst hg
    have:=ZU hx2
    simp only[Sigma.mk.injEq,heq_eq_eq,true_and] at this
    subst this
    exact⟨⟨ho.1,RepC.shared ho.2⟩,QBD h ss os l' t2 hl ht2⟩
  ·cases hr
theorem QBX (hC:Qb5 P B.g0 B.dm C) (h:Rel P B g e a w) {o:Oper} {c:Call} {fo:Operand} (ho:o.op=.call c) (hc:c.callee=.value fo) {j:FuncId} (hfo:e.opd fo=.clos j []) {N:NewP} (hj:assoc j C.nps=some N) {f:Eff} {e':Env}
  (hs:newE e o.dst N c.args.toList=some f) (hf:f.gives e'):QK P B a w o e':=by
 unfold newE at hs
 obtain⟨i,hi,hs⟩:=aLa.1 hs
 obtain⟨l,hl,hs⟩:=aLa.1 hs
 obtain⟨t,ht,hs⟩:=aLa.1 hs
 cases hcc:Nat.blt i e.sl.length&&Nat.blt i e.bl.length with
 | false=>rw[hcc] at hs;cases hs
 | true=>
  rw[hcc,aLB] at hs
  simp only[aLb] at hs
  subst hs
  obtain⟨y,hF,hn⟩:=hf
  obtain⟨hil,hib,rfl⟩:=Ql1 hn
  obtain⟨hE,hcall⟩:=hC.np j N hj
  have hcl:=hcall w g.Z (c.args.toList.map a.eval) t y (fun k hk=>h.lt k (by rw[show g.ow k=.fz from hk];simp)) (fun i hi=>h.gok i hi) (QBD h _ _ l t hl ht) hF
  obtain⟨Tf,hdf,_,_⟩:=QD h fo
  rw[hfo] at hdf
  obtain⟨vs,hv,hlen,_⟩:=hdf
  have hvs:vs=[]:=List.eq_nil_of_length_eq_zero hlen
  subst hvs
  refine .call (QnY (f:=fo) ho hc hE (caps:=#[]) (by rw[hv])) (by
   have:c.args.map a.eval++#[]=(c.args.toList.map a.eval).toArray:=by apply Array.ext';simp
   rw[this];exact hcl) (fun en w' hR=>?_)
  obtain⟨hb,arr,ty,rfl,hst,hold,hge,hcell,hsz,hrep⟩:=hR
  refine⟨_,rfl,?_⟩
  have hnone:g.ow hb=.none:=by
   cases hq:g.ow hb with
   | none=>rfl
   | _=>exact absurd (h.lt hb (by rw[hq];simp)) (by omega)
  have h1:Rel P B g e a w':=h.fly rfl (fun k hk _=>⟨rfl,hold k hk⟩) hst (fun k hk=>Nat.lt_of_lt_of_le (h.lt k hk) hst.size)
  obtain⟨g1,hpl,h2⟩:=h1.adopt hil hib hcell hsz hnone (Nat.le_trans h.st.size hge) hrep
  have hA:QX g1 (.b i)=some (hb,0):=by simp[QX,hpl]
  obtain⟨g2,hpl2,_,h3⟩:=h2.dst 0 (some i) (d:=.loc (.b i) ((e.setB i (.v N.out .z y)).b i).id []) (v:=.pointer (some ⟨hb,0,none⟩))
   ⟨⟨_,rfl⟩,Nat.le_refl _,fun _=>⟨fun _=>⟨_,_,hA,rfl⟩,fun S F X _=>⟨by simp only[QH],fun _=>⟨_,_,by simp only[Ql];exact hA,rfl⟩⟩⟩⟩
  rw[hi]
  exact⟨g2,h3⟩
theorem Ql9 (hT:Q0 P C) (hC:Qb5 P B.g0 B.dm C) (h:Rel P B g e a w) {frz:Bool} {o:Oper} {f:Eff} {e':Env} (hs:Qq C frz e o=some f) (hf:f.gives e'):QK P B a w o e':=by
 cases ho:o.op with
 | move x=>exact QCi h ho hs hf
 | assign x=>exact Qzk h ho hs hf
 | pick c x y=>exact QCe h ho hs hf
 | unOp op t x=>exact QB4 h ho hs hf
 | binOp op t x y ty=>exact QAs hT h ho hs hf
 | nilCheck x=>exact Qwq h ho hs hf
 | fieldAddr t x n=>exact Qvz hT h ho hs hf
 | index t x i=>exact QA9 hT h ho hs hf
 | indexAddr t x i=>exact Qvu hT h ho hs hf
 | slice t x lo hi mx=>
  cases mx with
  | none=>exact QAu hT h ho hs hf
  | some m=>simp[Qq,ho] at hs
 | extract x n=>exact Qyk h ho hs hf
 | makeFunc fn fi cs=>
  cases fn with
  | func j=>exact Qwx h ho hs hf
  | _=>simp[Qq,ho] at hs
 | load t x=>exact QBP hT h ho hs hf
 | store t x y=>exact QAS hT h ho hs hf
 | box t x=>exact QCo hT h ho hs hf
 | alloc t=>exact QAX hT h ho hs hf
 | convert s t x=>exact Qyg hT h ho hs hf
 | makeSlice t x y=>exact Quw hT h ho hs hf
 | field t x n=>exact QA2 hT h ho hs hf
 | buildSlice t n ps=>exact QtA hT h ho hs hf
 | build t ps=>exact QAQ hT h ho hs hf
 | call c=>
  obtain⟨callee,args,ats⟩:=c
  have hs0:=hs
  have hla:∀l:List Operand,args.toList=l->args=l.toArray:=fun l hl=>by rw[<-hl]
  simp only[Qq,ho] at hs
  split at hs
  ·rename_i _ x hargs
   obtain rfl:=hla _ hargs
   exact QCv hT h ho hs0 hf
  ·rename_i _ x y hargs
   obtain rfl:=hla _ hargs
   exact QDf h ho hs0 hf
  ·rename_i _ x hargs
   obtain rfl:=hla _ hargs
   exact QAl hT h ho hs0 hf
  ·rename_i _ x y hargs
   obtain rfl:=hla _ hargs
   exact step_append hT h ho hs0 hf
  ·rename_i fo as
   split at hs
   ·rename_i j hfo
    split at hs
    ·rename_i N hj
     exact QBX hC h ho rfl hfo hj hs hf
    ·exact QAT hC h ho rfl hfo hs hf
   ·exact QA0 h ho rfl hs hf
  ·cases hs
 | _=>simp[Qq,ho] at hs
end Go.Dx
namespace Go.Dx
def Qn5 (d d':Desc):Prop:=d'=d\/∃S F F' X,d=.v S F X/\d'=.v S F' X
theorem Qn5.trans {a b c:Desc} (h:Qn5 a b) (k:Qn5 b c):Qn5 a c:=by
 rcases h with rfl | ⟨S,F,F',X,rfl,rfl⟩
 ·exact k
 ·rcases k with rfl | ⟨S',G,G',X',h1,rfl⟩
  ·exact .inr ⟨S,F,F',X,rfl,rfl⟩
  ·simp only[Desc.v.injEq] at h1
   obtain⟨rfl,rfl,hx⟩:=h1
   obtain rfl:=eq_of_heq hx
   exact .inr ⟨S,F,G',X,rfl,rfl⟩
structure Za (b b':Env):Prop where
 sl:b'.sl.length=b.sl.length
 bl:b'.bl.length=b.bl.length
 le:∀r,(b.root r).ver<=(b'.root r).ver/\((b'.root r).ver=(b.root r).ver->Qn5 (b.root r).d (b'.root r).d/\(b'.root r).id=(b.root r).id/\(b'.root r).hv=(b.root r).hv)
theorem Za.refl (e:Env):Za e e:=⟨rfl,rfl,fun _=>⟨Nat.le_refl _,fun _=>⟨.inl rfl,rfl,rfl⟩⟩⟩
theorem Za.trans {a b c:Env} (h:Za a b) (k:Za b c):Za a c:=
 ⟨k.sl.trans h.sl,k.bl.trans h.bl,fun r=>⟨Nat.le_trans (h.le r).1 (k.le r).1,fun he=>by
  have h1:=(h.le r).1
  have h2:=(k.le r).1
  exact⟨((h.le r).2 (by omega)).1.trans ((k.le r).2 (by omega)).1,((k.le r).2 (by omega)).2.1.trans ((h.le r).2 (by omega)).2.1,((k.le r).2 (by omega)).2.2.trans ((h.le r).2 (by omega)).2.2⟩⟩⟩
structure Mo (s b:Env):Prop where
 sl:s.sl.length=b.sl.length
 bl:s.bl.length=b.bl.length
 cell:∀r,s.root r=b.root r\/(s.root r).d=.tup []
theorem Mo.refl (e:Env):Mo e e:=⟨rfl,rfl,fun _=>.inl rfl⟩
structure Syn (s b s' b':Env):Prop where
 sl:s'.sl.length=s.sl.length
 bl:s'.bl.length=s.bl.length
 cell:∀r,(s'.root r=s.root r/\b'.root r=b.root r)\/(s.root r=b.root r/\s'.root r=b'.root r)
 le:Za b b'
theorem Syn.refl (s b:Env):Syn s b s b:=⟨rfl,rfl,fun _=>.inl ⟨rfl,rfl⟩,.refl b⟩
theorem Syn.trans {s b s1 b1 s2 b2:Env} (h:Syn s b s1 b1) (k:Syn s1 b1 s2 b2):Syn s b s2 b2:=by
 refine⟨k.sl.trans h.sl,k.bl.trans h.bl,fun r=>?_,h.le.trans k.le⟩
 rcases h.cell r with ⟨h1,h2⟩ | ⟨h1,h2⟩<;>rcases k.cell r with ⟨k1,k2⟩ | ⟨k1,k2⟩
 ·exact .inl ⟨k1.trans h1,k2.trans h2⟩
 ·exact .inr ⟨by rw[<-h1,<-h2];exact k1,k2⟩
 ·exact .inr ⟨h1,by rw[k1,k2];exact h2⟩
 ·exact .inr ⟨h1,k2⟩
theorem Syn.mo {s b s' b':Env} (h:Syn s b s' b') (m:Mo s b):Mo s' b':=by
 refine⟨by rw[h.sl,h.le.sl];exact m.sl,by rw[h.bl,h.le.bl];exact m.bl,fun r=>?_⟩
 rcases h.cell r with ⟨h1,h2⟩ | ⟨h1,h2⟩
 ·rcases m.cell r with m1 | m1
  ·exact .inl (by rw[h1,h2];exact m1)
  ·exact .inr (by rw[h1];exact m1)
 ·exact .inl h2
theorem Syn.eq {s b s' b':Env} (h:Syn s b s' b') {r:Root} (hr:s.root r=b.root r):s'.root r=b'.root r:=by
 rcases h.cell r with ⟨h1,h2⟩ | ⟨_,h2⟩
 ·rw[h1,h2];exact hr
 ·exact h2
theorem Mo.of_v {s b:Env} (m:Mo s b) {r:Root} (h:(s.root r).d ≠ .tup []):s.root r=b.root r:=(m.cell r).resolve_right h
theorem Mo.v {s b:Env} (m:Mo s b) {r:Root} {S:Sh} {F:Fl} {X:S.den} (h:(s.root r).d=.v S F X):s.root r=b.root r:=m.of_v (by rw[h];simp)
theorem Qqw {e:Env} {i:Nat} {d:Desc} (r:Root):(e.setS i d).root r=if r=.s i/\i<e.sl.length then ⟨(e.root r).ver+1,d,(e.root r).id+1,(e.root r).hv+1⟩ else e.root r:=by
 cases r with
 | s j=>
  show (e.setS i d).s j=_
  simp only[Env.setS,Env.s,upd,Yw]
  by_cases h:i=j
  ·subst h;simp[Env.root,Env.s]
  ·have:¬Root.s j=.s i:=fun hh=>h (by simp only[Root.s.injEq] at hh;exact hh.symm)
   simp[h,this,Env.root,Env.s]
 | b j=>simp[Env.setS,Env.root,Env.b]
theorem Qp6 {e:Env} {i:Nat} {d:Desc} (r:Root):(e.setB i d).root r=if r=.b i/\i<e.bl.length then ⟨(e.root r).ver+1,d,(e.root r).id+1,(e.root r).hv+1⟩ else e.root r:=by
 cases r with
 | b j=>
  show (e.setB i d).b j=_
  simp only[Env.setB,Env.b,upd,Yw]
  by_cases h:i=j
  ·subst h;simp[Env.root,Env.b]
  ·have:¬Root.b j=.b i:=fun hh=>h (by simp only[Root.b.injEq] at hh;exact hh.symm)
   simp[h,this,Env.root,Env.b]
 | s j=>simp[Env.setB,Env.root,Env.s]
theorem QlO {e:Env} {r:Root} {h:Bool} {d:Desc}:(e.turn r h d).sl.length=e.sl.length/\(e.turn r h d).bl.length=e.bl.length:=by
 cases r<;>cases h<;>simp[Env.turn,Env.setR,Env.setD,Env.setS,upd,updV,updD]
theorem QkT {e:Env} {i:Nat} {d:Desc}:(e.setS i d).sl.length=e.sl.length/\(e.setS i d).bl.length=e.bl.length:=by simp[Env.setS,upd]
theorem Qk2 {e:Env} {i:Nat} {d:Desc}:(e.setB i d).sl.length=e.sl.length/\(e.setB i d).bl.length=e.bl.length:=by simp[Env.setB,upd]
theorem Za.setS (e:Env) (i:Nat) (d:Desc):Za e (e.setS i d):=⟨QkT.1,QkT.2,fun r=>by
 rw[Qqw];split
 ·exact⟨Nat.le_succ _,fun h=>by simp at h⟩
 ·exact⟨Nat.le_refl _,fun _=>⟨.inl rfl,rfl,rfl⟩⟩⟩
theorem Za.setB (e:Env) (i:Nat) (d:Desc):Za e (e.setB i d):=⟨Qk2.1,Qk2.2,fun r=>by
 rw[Qp6];split
 ·exact⟨Nat.le_succ _,fun h=>by simp at h⟩
 ·exact⟨Nat.le_refl _,fun _=>⟨.inl rfl,rfl,rfl⟩⟩⟩
theorem Mo.setS {s b:Env} (m:Mo s b) {i:Nat} (hi:s.root (.s i)=b.root (.s i)) (d:Desc):Syn s b (s.setS i d) (b.setS i d):=by
 refine⟨QkT.1,QkT.2,fun r=>?_,.setS b i d⟩
 rw[Qqw,Qqw,<-m.sl]
 by_cases h:r=.s i/\i<s.sl.length
 ·rw[if_pos h,if_pos h];obtain⟨rfl,_⟩:=h;exact .inr ⟨hi,by rw[hi]⟩
 ·rw[if_neg h,if_neg h];exact .inl ⟨rfl,rfl⟩
theorem Mo.setB {s b:Env} (m:Mo s b) {i:Nat} (hi:s.root (.b i)=b.root (.b i)) (d:Desc):Syn s b (s.setB i d) (b.setB i d):=by
 refine⟨Qk2.1,Qk2.2,fun r=>?_,.setB b i d⟩
 rw[Qp6,Qp6,<-m.bl]
 by_cases h:r=.b i/\i<s.bl.length
 ·rw[if_pos h,if_pos h];obtain⟨rfl,_⟩:=h;exact .inr ⟨hi,by rw[hi]⟩
 ·rw[if_neg h,if_neg h];exact .inl ⟨rfl,rfl⟩
theorem Qhq {e:Env} {r:Root} {d:Desc}:(e.flag r d).sl.length=e.sl.length/\(e.flag r d).bl.length=e.bl.length:=by cases r<;>simp[Env.flag,reflag]
theorem Za.flag {e:Env} {r:Root} {S:Sh} {F:Fl} {X:S.den} (h:(e.root r).d=.v S F X) (F':Fl):Za e (e.flag r (.v S F' X)):=⟨Qhq.1,Qhq.2,fun q=>by
 rw[ZC h];split
 ·rename_i hq;subst hq;exact⟨Nat.le_refl _,fun _=>⟨.inr ⟨S,F,F',X,h,rfl⟩,rfl,rfl⟩⟩
 ·exact⟨Nat.le_refl _,fun _=>⟨.inl rfl,rfl,rfl⟩⟩⟩
theorem Mo.flag {s b:Env} (m:Mo s b) {r:Root} {S:Sh} {F:Fl} {X:S.den} (h:(s.root r).d=.v S F X) (F':Fl):Syn s b (s.flag r (.v S F' X)) (b.flag r (.v S F' X)):=by
 have he:=m.v h
 have hb:(b.root r).d=.v S F X:=he ▸ h
 refine⟨Qhq.1,Qhq.2,fun q=>?_,.flag hb F'⟩
 rw[ZC h,ZC hb]
 by_cases hq:r=q
 ·subst hq;rw[if_pos rfl,if_pos rfl];exact .inr ⟨he,by rw[he]⟩
 ·rw[if_neg hq,if_neg hq];exact .inl ⟨rfl,rfl⟩
theorem Za.turn {e:Env} {r:Root} {S:Sh} {F:Fl} {X:S.den} (hd:(e.root r).d=.v S F X) (h:Bool) (d:Desc):Za e (e.turn r h d):=⟨QlO.1,QlO.2,fun q=>by
 rw[Q6 hd];split
 ·rename_i hq;subst hq;exact⟨Nat.le_succ _,fun h=>by simp[turned] at h⟩
 ·exact⟨Nat.le_refl _,fun _=>⟨.inl rfl,rfl,rfl⟩⟩⟩
theorem Mo.setR {s b:Env} (m:Mo s b) {r:Root} {S:Sh} {F:Fl} {X:S.den} (hd:(s.root r).d=.v S F X) (h:Bool) (d:Desc):Syn s b (s.turn r h d) (b.turn r h d):=by
 have he:=m.v hd
 have hb:(b.root r).d=.v S F X:=he ▸ hd
 refine⟨QlO.1,QlO.2,fun q=>?_,.turn hb h d⟩
 rw[Q6 hd,Q6 hb]
 by_cases hq:r=q
 ·subst hq;rw[if_pos rfl,if_pos rfl];exact .inr ⟨he,by rw[he]⟩
 ·rw[if_neg hq,if_neg hq];exact .inl ⟨rfl,rfl⟩
theorem Mo.dst {s b:Env} (m:Mo s b) {o:Option Tmp} (ho:∀i,o=some i->s.root (.s i)=b.root (.s i)) (d:Desc):Syn s b (s.dst o d) (b.dst o d):=by
 cases o with
 | none=>exact .refl s b
 | some i=>exact m.setS (ho i rfl) d
variable {s b:Env}
theorem Mo.opd (m:Mo s b) (x:Operand):b.opd x=s.opd x\/s.opd x=.tup []:=by
 cases x with
 | tmp t=>
  rcases m.cell (.s t) with h | h
  ·exact .inl (by show (b.root (.s t)).d=(s.root (.s t)).d;rw[h])
  ·exact .inr h
 | const v=>exact .inl rfl
 | func f=>exact .inl rfl
 | global g=>exact .inl rfl
theorem Mo.look (m:Mo s b) {r:Root} {ver:Nat} {p:List Step} {y:Dv} (h:s.look r ver p=some y):b.look r ver p=some y:=by
 have hh:=h
 unfold Env.look at h ⊢
 simp only at h ⊢
 rcases m.cell r with h1 | h1
 ·rw[<-h1];exact h
 ·rw[h1] at h;cases hv:Nat.beq ((s.root r).stampB p) ver<;>simp[hv] at h
theorem Mo.lookU (m:Mo s b) {r:Root} {p:List Step} {y:Dv} (h:s.lookU r p=some y):b.lookU r p=some y:=by
 unfold Env.lookU at h ⊢
 rcases m.cell r with h1 | h1
 ·rw[<-h1];exact h
 ·rw[h1] at h;cases h
theorem QBi {e:Env} {r:Root} {ver:Nat} {p:List Step} {y:Dv} (h:e.look r ver p=some y):∃S F X,(e.root r).d=.v S F X:=by
 unfold Env.look at h
 simp only at h
 cases hv:Nat.beq ((e.root r).stampB p) ver with
 | false=>rw[hv] at h;cases h
 | true=>
  rw[hv,aLB] at h
  split at h
  ·rename_i S F X hd;exact⟨S,F,X,hd⟩
  ·cases h
theorem Mo.lookL (m:Mo s b) {r:Root} {ver:Nat} {p:List Step} {y:Dv} (h:s.lookL r ver p=some y):b.lookL r ver p=some y:=by
 unfold Env.lookL at h ⊢
 simp only at h ⊢
 rcases m.cell r with h1 | h1
 ·rw[<-h1];exact h
 ·rw[h1] at h;cases hv:Nat.beq ((s.root r).stamp p) ver<;>simp[hv] at h
theorem Mo.val (m:Mo s b) {d:Desc} {y:Dv} (h:s.val d=some y):b.val d=some y:=by
 cases d<;>first | exact h | exact m.look h
theorem Mo.rd (m:Mo s b) {d:Desc} {y:(s:Sh)×s.den} (h:s.rd d=some y):b.rd d=some y:=by
 unfold Env.rd at h ⊢
 obtain⟨u,hu,h⟩:=aLa.1 h
 rw[m.val hu];exact h
theorem Mo.rdInt (m:Mo s b) {d:Desc} {y:IntKind×Int} (h:s.rdInt d=some y):b.rdInt d=some y:=by
 unfold Env.rdInt at h ⊢
 cases hr:s.rd d with
 | none=>rw[hr] at h;cases h
 | some u=>rw[hr] at h;rw[m.rd hr];exact h
theorem Mo.rdBool (m:Mo s b) {d:Desc} {y:Bool} (h:s.rdBool d=some y):b.rdBool d=some y:=by
 unfold Env.rdBool at h ⊢
 cases hr:s.rd d with
 | none=>rw[hr] at h;cases h
 | some u=>rw[hr] at h;rw[m.rd hr];exact h
theorem Qyr {e:Env}:e.rd (.tup [])=none:=rfl
theorem Qhw {e:Env}:e.val (.tup [])=none:=rfl
theorem Mo.rdo (m:Mo s b) {x:Operand} {y:(s:Sh)×s.den} (h:s.rd (s.opd x)=some y):b.rd (b.opd x)=some y:=by
 rcases m.opd x with hx | hx
 ·rw[hx];exact m.rd h
 ·rw[hx,Qyr] at h;cases h
theorem Mo.valo (m:Mo s b) {x:Operand} {y:Dv} (h:s.val (s.opd x)=some y):b.val (b.opd x)=some y:=by
 rcases m.opd x with hx | hx
 ·rw[hx];exact m.val h
 ·rw[hx,Qhw] at h;cases h
theorem Mo.rdInto (m:Mo s b) {x:Operand} {y:IntKind×Int} (h:s.rdInt (s.opd x)=some y):b.rdInt (b.opd x)=some y:=by
 rcases m.opd x with hx | hx
 ·rw[hx];exact m.rdInt h
 ·rw[hx] at h;simp[Env.rdInt,Qyr] at h
theorem Mo.rdBoolo (m:Mo s b) {x:Operand} {y:Bool} (h:s.rdBool (s.opd x)=some y):b.rdBool (b.opd x)=some y:=by
 rcases m.opd x with hx | hx
 ·rw[hx];exact m.rdBool h
 ·rw[hx] at h;simp[Env.rdBool,Qyr] at h
theorem QcR {e:Env} {x:Operand} {i:Nat} (h:x.slot=some i):(e.s i).d=e.opd x:=by
 cases x<;>simp[Operand.slot] at h
 subst h;rfl
theorem Mo.take (m:Mo s b) {t:Option Nat} {want:Sh} {d:Desc} {s':Env} {y:Dv} (ht:∀i,t=some i->(s.s i).d=d) (h:s.take t want d=some (s',y)):∃b',b.take t want d=some (b',y)/\Syn s b s' b':=by
 cases d with
 | v S F X=>
  simp only[Env.take] at h ⊢
  cases hz:F.isz with
  | true=>simp only[hz,aLB,aLb,aLe] at h ⊢;obtain⟨rfl,rfl⟩:=h;exact⟨b,⟨rfl,rfl⟩,.refl s b⟩
  | false=>
   simp only[hz,aLC] at h ⊢
   cases t with
   | none=>cases h
   | some i=>
    simp only[aLb,aLe] at h ⊢
    obtain⟨rfl,rfl⟩:=h
    exact⟨_,⟨rfl,rfl⟩,m.setS (m.v (r:=.s i) (ht i rfl)) _⟩
 | bor r ver p=>
  simp only[Env.take] at h ⊢
  obtain⟨u,hu,h⟩:=aLa.1 h
  rw[m.look hu]
  simp only[aLc]
  cases hz:u.fl.isz with
  | true=>simp only[hz,aLB,aLb,aLe] at h ⊢;obtain⟨rfl,rfl⟩:=h;exact⟨b,⟨rfl,rfl⟩,.refl s b⟩
  | false=>
   simp only[hz,aLC] at h ⊢
   cases hx:u.fl.isx with
   | true=>simp[hx] at h
   | false=>
    simp only[hx,aLC] at h ⊢
    split at h
    ·rename_i S F X hd
     obtain⟨F',hF,h⟩:=aLd.1 h
     simp only[aLe] at h
     obtain⟨rfl,rfl⟩:=h
     have hb:(b.root r).d=.v S F X:=m.v hd ▸ hd
     rw[hb]
     simp only[hF,Option.map_some]
     exact⟨_,rfl,m.flag hd F'⟩
    ·cases h
 | nil=>
  simp only[Env.take] at h ⊢
  split at h
  ·simp only[aLb,aLe] at h ⊢;obtain⟨rfl,rfl⟩:=h;exact⟨b,⟨rfl,rfl⟩,.refl s b⟩
  ·cases h
 | dead=>simp[Env.take] at h
 | und=>simp[Env.take] at h
 | loc r ver p=>simp[Env.take] at h
 | rp s x=>simp[Env.take] at h
 | rpp s x=>simp[Env.take] at h
 | clos j c=>simp[Env.take] at h
 | tup l=>simp[Env.take] at h
theorem Qkm {e:Env} {t:Option Nat} {want:Sh}:e.take t want (.tup [])=none:=rfl
theorem Mo.takeo (m:Mo s b) {x:Operand} {want:Sh} {s':Env} {y:Dv} (h:s.take x.slot want (s.opd x)=some (s',y)):∃b',b.take x.slot want (b.opd x)=some (b',y)/\Syn s b s' b':=by
 rcases m.opd x with hx | hx
 ·rw[hx];exact m.take (fun i hi=>QcR hi) h
 ·rw[hx,Qkm] at h;cases h
theorem Mo.freeze (m:Mo s b) {r:Root} {p:List Step} {s':Env} (h:s.freeze r p=some s'):∃b',b.freeze r p=some b'/\Syn s b s' b':=by
 unfold Env.freeze at h ⊢
 split at h
 ·rename_i S F X hd
  have hb:(b.root r).d=.v S F X:=m.v hd ▸ hd
  obtain⟨y,hy,h⟩:=aLa.1 h
  rw[hb]
  simp only[hy,aLc]
  cases ho:okS y.sh y.fl with
  | false=>simp[ho] at h
  | true=>
   simp only[ho,aLB] at h ⊢
   obtain⟨F',hF,rfl⟩:=aLd.1 h
   simp only[hF,Option.map_some]
   exact⟨_,rfl,m.flag hd F'⟩
 ·cases h
theorem Mo.Zj (m:Mo s b) {frz:Bool} {t:Option Nat} {d d':Desc} {s':Env} (ht:∀i,t=some i->(s.s i).d=d) (h:Zj s frz t d=some (s',d')):∃b',Zj b frz t d=some (b',d')/\Syn s b s' b':=by
 cases d with
 | v S F X=>
  simp only[Dx.Zj] at h ⊢
  cases hz:F.isz with
  | true=>simp only[hz,aLB,aLb,aLe] at h ⊢;obtain⟨rfl,rfl⟩:=h;exact⟨b,⟨rfl,rfl⟩,.refl s b⟩
  | false=>
   simp only[hz,aLC] at h ⊢
   cases t with
   | none=>cases h
   | some i=>
    have hi:=ht i rfl
    have he:=m.v (r:=.s i) hi
    cases frz with
    | true=>
     simp only[aLB] at h ⊢
     cases ho:okS S F with
     | false=>simp[ho] at h
     | true=>
      simp only[ho,aLB,aLb,aLe] at h ⊢
      obtain⟨rfl,rfl⟩:=h
      exact⟨_,⟨rfl,rfl⟩,m.flag (r:=.s i) hi .z⟩
    | false=>
     simp only[aLC,aLb,aLe] at h ⊢
     obtain⟨rfl,rfl⟩:=h
     exact⟨b,⟨rfl,by rw[show b.s i=s.s i from he.symm]⟩,.refl s b⟩
 | bor r ver p=>
  simp only[Dx.Zj] at h ⊢
  obtain⟨u,hu,h⟩:=aLa.1 h
  rw[m.look hu]
  simp only[aLc]
  cases hz:u.fl.isz with
  | true=>simp only[hz,aLB,aLb,aLe] at h ⊢;obtain⟨rfl,rfl⟩:=h;exact⟨b,⟨rfl,rfl⟩,.refl s b⟩
  | false=>
   simp only[hz,aLC] at h ⊢
   cases frz with
   | true=>
    simp only[aLB] at h ⊢
    cases ho:okS u.sh u.fl with
    | false=>simp[ho] at h
    | true=>
     simp only[ho,aLB] at h ⊢
     obtain⟨s1,h1,h⟩:=aLd.1 h
     simp only[aLe] at h
     obtain⟨rfl,rfl⟩:=h
     obtain⟨b1,hb1,hs1⟩:=m.freeze h1
     exact⟨b1,by rw[hb1];rfl,hs1⟩
   | false=>simp only[aLC,aLb,aLe] at h ⊢;obtain⟨rfl,rfl⟩:=h;exact⟨b,⟨rfl,rfl⟩,.refl s b⟩
 | tup l=>simp[Dx.Zj,bare] at h
 | dead=>simp only[Dx.Zj,bare,aLB,aLb,aLe] at h ⊢;obtain⟨rfl,rfl⟩:=h;exact⟨b,⟨rfl,rfl⟩,.refl s b⟩
 | und=>simp only[Dx.Zj,bare,aLB,aLb,aLe] at h ⊢;obtain⟨rfl,rfl⟩:=h;exact⟨b,⟨rfl,rfl⟩,.refl s b⟩
 | nil=>simp only[Dx.Zj,bare,aLB,aLb,aLe] at h ⊢;obtain⟨rfl,rfl⟩:=h;exact⟨b,⟨rfl,rfl⟩,.refl s b⟩
 | loc r v p=>simp only[Dx.Zj,bare,aLB,aLb,aLe] at h ⊢;obtain⟨rfl,rfl⟩:=h;exact⟨b,⟨rfl,rfl⟩,.refl s b⟩
 | rp S x=>simp only[Dx.Zj,bare,aLB,aLb,aLe] at h ⊢;obtain⟨rfl,rfl⟩:=h;exact⟨b,⟨rfl,rfl⟩,.refl s b⟩
 | rpp S x=>simp only[Dx.Zj,bare,aLB,aLb,aLe] at h ⊢;obtain⟨rfl,rfl⟩:=h;exact⟨b,⟨rfl,rfl⟩,.refl s b⟩
 | clos j c=>simp only[Dx.Zj,bare,aLB,aLb,aLe] at h ⊢;obtain⟨rfl,rfl⟩:=h;exact⟨b,⟨rfl,rfl⟩,.refl s b⟩
theorem Mo.QnL (m:Mo s b) {ti:TI} {frz:Bool} {r:Root} {ver:Nat} {p:List Step} {d':Desc} {s':Env} (h:QnL ti s frz r ver p=some (s',d')):∃b',QnL ti b frz r ver p=some (b',d')/\Syn s b s' b':=by
 unfold Dx.QnL at h ⊢
 rcases m.cell r with hr | hr
 ·rw[<-hr]
  split at h
  ·rename_i S F X hd
   obtain⟨y,hy,h⟩:=aLa.1 h
   rw[m.lookL hy]
   simp only[aLc]
   cases hc:decide (y.sh=ti.sh)&&okS y.sh y.fl with
   | false=>simp[hc] at h
   | true=>simp only[hc,aLB] at h ⊢;rw[hr];rw[hr] at h;exact m.Zj (fun i hi=>by cases hi) h
  ·cases h
  ·cases hc:Nat.beq (s.root r).id ver&&bare (s.root r).d&&!Q1 ti.sh with
   | false=>simp[hc] at h
   | true=>
    simp only[hc,aLB] at h ⊢
    split at h
    ·simp only[aLb,aLe] at h ⊢;obtain⟨rfl,rfl⟩:=h;exact⟨b,⟨rfl,rfl⟩,.refl s b⟩
    ·cases h
 ·rw[hr] at h
  simp[bare] at h
theorem Mo.valD (m:Mo s b) {ti:TI} {x:Operand} {d':Desc} {s':Env} (h:valD ti s x=some (s',d')):∃b',valD ti b x=some (b',d')/\Syn s b s' b':=by
 unfold Dx.valD at h ⊢
 rcases m.opd x with hx | hx
 ·rw[hx]
  split at h
  ·simp only[aLb,aLe] at h ⊢;obtain⟨rfl,rfl⟩:=h;exact⟨b,⟨rfl,rfl⟩,.refl s b⟩
  ·simp only[aLb,aLe] at h ⊢;obtain⟨rfl,rfl⟩:=h;exact⟨b,⟨rfl,rfl⟩,.refl s b⟩
  ·simp only[aLb,aLe] at h ⊢;obtain⟨rfl,rfl⟩:=h;exact⟨b,⟨rfl,rfl⟩,.refl s b⟩
  ·obtain⟨⟨s1,y⟩,h1,h⟩:=aLa.1 h
   obtain⟨b1,hb1,hs1⟩:=m.take (fun i hi=>QcR hi) h1
   simp only[hb1,aLc]
   obtain⟨v,hv,h⟩:=aLa.1 h
   simp only[hv,aLc] at h ⊢
   cases ho:okS ti.sh y.fl with
   | false=>simp[ho] at h
   | true=>simp only[ho,aLB,aLb,aLe] at h ⊢;obtain⟨rfl,rfl⟩:=h;exact⟨b1,⟨rfl,rfl⟩,hs1⟩
 ·rw[hx] at h;simp[Qkm] at h
theorem Mo.QbN (m:Mo s b) {i:Nat} (hs:s.root (.s i)=b.root (.s i)) (hb:s.root (.b i)=b.root (.b i)) {d:Desc} {s':Env} (h:QbN s i d=some s'):∃b',QbN b i d=some b'/\Syn s b s' b':=by
 unfold Dx.QbN at h ⊢
 rw[<-m.sl,<-m.bl]
 cases hc:Nat.blt i s.sl.length&&Nat.blt i s.bl.length with
 | false=>simp[hc] at h
 | true=>
  simp only[hc,aLB,aLb] at h ⊢
  subst h
  have h1:=m.setB hb d
  have h2:(s.setB i d).root (.s i)=(b.setB i d).root (.s i):=h1.eq hs
  have h3:(s.setB i d).b i=(b.setB i d).b i:=h1.eq hb
  exact⟨_,rfl,h1.trans (by rw[h3];exact (h1.mo m).setS h2 _)⟩
end Go.Dx
namespace Go.Dx
variable {s b:Env} {C:Ctx}
theorem Mo.YP {parts:List (Nat×Operand)}:∀(fs:List (Nat×TypeId)) (i:Nat) {s b s':Env} {l:List Dv},Mo s b->YP C s parts i fs=some (s',l)->∃b',YP C b parts i fs=some (b',l)/\Syn s b s' b':=by
 intro fs
 induction fs with
 | nil=>intro i s b s' l m h;simp only[Dx.YP,aLb,aLe] at h ⊢;obtain⟨rfl,rfl⟩:=h;exact⟨b,⟨rfl,rfl⟩,.refl s b⟩
 | cons f fs ih=>
  intro i s b s' l m h
  obtain⟨f1,t⟩:=f
  simp only[Dx.YP] at h ⊢
  obtain⟨ti,hti,h⟩:=aLa.1 h
  obtain⟨⟨s1,y⟩,h1,h⟩:=aLa.1 h
  obtain⟨x,hx,h⟩:=aLa.1 h
  obtain⟨⟨s2,l2⟩,h2,h⟩:=aLd.1 h
  simp only[aLe] at h
  obtain⟨rfl,rfl⟩:=h
  cases ha:assoc i parts with
  | some o=>
   rw[ha] at h1
   obtain⟨b1,hb1,hs1⟩:=m.takeo h1
   obtain⟨b2,hb2,hs2⟩:=ih (i+1) (hs1.mo m) h2
   refine⟨b2,?_,hs1.trans hs2⟩
   simp only[hti,aLc,hb1,hx,hb2,Option.map_some]
  | none=>
   rw[ha] at h1
   simp only[aLb,aLe] at h1
   obtain⟨rfl,rfl⟩:=h1
   obtain⟨b2,hb2,hs2⟩:=ih (i+1) m h2
   refine⟨b2,?_,hs2⟩
   simp only[hti,aLc,hx,hb2,Option.map_some]
theorem Mo.Qfn {S:Sh} {parts:List (Nat×Operand)}:∀(n i:Nat) {s b s':Env} {l:List (Fl×S.den)},Mo s b->Qfn s S parts i n=some (s',l)->∃b',Qfn b S parts i n=some (b',l)/\Syn s b s' b':=by
 intro n
 induction n with
 | zero=>intro i s b s' l m h;simp only[Dx.Qfn,aLb,aLe] at h ⊢;obtain⟨rfl,rfl⟩:=h;exact⟨b,⟨rfl,rfl⟩,.refl s b⟩
 | succ n ih=>
  intro i s b s' l m h
  simp only[Dx.Qfn] at h ⊢
  obtain⟨⟨s1,y⟩,h1,h⟩:=aLa.1 h
  obtain⟨x,hx,h⟩:=aLa.1 h
  obtain⟨⟨s2,l2⟩,h2,h⟩:=aLd.1 h
  simp only[aLe] at h
  obtain⟨rfl,rfl⟩:=h
  cases ha:assoc i parts with
  | some o=>
   rw[ha] at h1
   obtain⟨b1,hb1,hs1⟩:=m.takeo h1
   obtain⟨b2,hb2,hs2⟩:=ih (i+1) (hs1.mo m) h2
   refine⟨b2,?_,hs1.trans hs2⟩
   simp only[aLc,hb1,hx,hb2,Option.map_some]
  | none=>
   rw[ha] at h1
   simp only[aLb,aLe] at h1
   obtain⟨rfl,rfl⟩:=h1
   obtain⟨b2,hb2,hs2⟩:=ih (i+1) m h2
   refine⟨b2,?_,hs2⟩
   simp only[aLc,hx,hb2,Option.map_some]
theorem Mo.out (m:Mo s b) {r:Root} {l l':Option Dv} {p:List Step} {s':Env} {y:Dv} (hl:∀y,l=some y->l'=some y) (h:s.out r l p=some (s',y)):∃b',b.out r l' p=some (b',y)/\Syn s b s' b':=by
 unfold Env.out at h ⊢
 cases hn:QE p with
 | false=>simp[hn] at h
 | true=>
  simp only[hn,aLB] at h ⊢
  obtain⟨u,hu,h⟩:=aLa.1 h
  rw[hl _ hu]
  simp only[aLc]
  split at h
  ·rename_i S F X hd
   have hb:(b.root r).d=.v S F X:=m.v hd ▸ hd
   obtain⟨F',hF,h⟩:=aLd.1 h
   simp only[aLe] at h
   obtain⟨rfl,rfl⟩:=h
   rw[hb]
   simp only[hF,Option.map_some]
   exact⟨_,rfl,m.flag hd F'⟩
  ·cases h
theorem Mo.outM (m:Mo s b) {r:Root} {ver:Nat} {p:List Step} {s':Env} {y:Dv×Dv} (h:s.outM r ver p=some (s',y)):∃b',b.outM r ver p=some (b',y)/\Syn s b s' b':=by
 unfold Env.outM at h ⊢
 obtain⟨⟨s1,u⟩,h1,h⟩:=aLa.1 h
 obtain⟨b1,hb1,hs1⟩:=m.out (l':=(b.look r ver p).bind fun _=>b.lookU r (Qec p)) (fun _ hy=>by
  obtain⟨z,hz,hy⟩:=aLa.1 hy
  rw[m.look hz,aLc];exact m.lookU hy) h1
 simp only[hb1,aLc]
 cases ho:ownP u.sh u.fl (Qhe p) with
 | false=>simp[ho] at h
 | true=>
  simp only[ho,aLB] at h ⊢
  obtain⟨z,hz,h⟩:=aLd.1 h
  simp only[aLe] at h
  obtain⟨rfl,rfl⟩:=h
  simp only[hz,Option.map_some]
  exact⟨b1,rfl,hs1⟩
theorem Mo.argA (m:Mo s b) {ps:PS} {o:Operand} {s':Env} {x:Option ((s:Sh)×s.den)×List WB} (h:argA s ps o=some (s',x)):∃b',argA b ps o=some (b',x)/\Syn s b s' b':=by
 have tk:∀{sh:Sh} {f:Fl} {d:Desc},d=s.opd o->((s.take o.slot sh d).bind fun (q:Env×Dv)=>bif decide (q.2.sh=sh)&&Qr q.2.sh q.2.fl f then some (q.1,some (⟨q.2.sh,q.2.x⟩:(s:Sh)×s.den),([]:List WB)) else none)=some (s',x)->
   ∃b',((b.take o.slot sh d).bind fun (q:Env×Dv)=>bif decide (q.2.sh=sh)&&Qr q.2.sh q.2.fl f then some (q.1,some (⟨q.2.sh,q.2.x⟩:(s:Sh)×s.den),([]:List WB)) else none)=some (b',x)/\Syn s b s' b':=by
  intro sh f d hd h
  obtain⟨⟨s1,y⟩,h1,h⟩:=aLa.1 h
  obtain⟨b1,hb1,hs1⟩:=m.take (fun i hi=>(QcR hi).trans hd.symm) h1
  simp only[hb1,aLc]
  cases hc:decide (y.sh=sh)&&Qr y.sh y.fl f with
  | false=>simp[hc] at h
  | true=>simp only[hc,aLB,aLb,aLe] at h ⊢;obtain⟨rfl,rfl⟩:=h;exact⟨b1,⟨rfl,rfl⟩,hs1⟩
 unfold Dx.argA at h ⊢
 rcases m.opd o with hx | hx
 ·rw[hx]
  generalize hd:s.opd o=d at h ⊢
  have rf:∀{q:Option ((s:Sh)×s.den)×List WB},some (s,q)=some (s',x)->∃b',some (b,q)=some (b',x)/\Syn s b s' b':=fun h=>by
   simp only[aLb,aLe] at h;obtain⟨rfl,rfl⟩:=h;exact⟨b,rfl,.refl s b⟩
  cases ps with
  | v sh f=>
   have tk':f ≠ .z->((s.take o.slot sh d).bind fun (q:Env×Dv)=>bif decide (q.2.sh=sh)&&Qr q.2.sh q.2.fl f then some (q.1,some (⟨q.2.sh,q.2.x⟩:(s:Sh)×s.den),([]:List WB)) else none)=some (s',x)->
    ∃b',((b.take o.slot sh d).bind fun (q:Env×Dv)=>bif decide (q.2.sh=sh)&&Qr q.2.sh q.2.fl f then some (q.1,some (⟨q.2.sh,q.2.x⟩:(s:Sh)×s.den),([]:List WB)) else none)=some (b',x)/\Syn s b s' b':=fun _ h=>tk hd.symm h
   cases f with
   | z=>
    cases d with
    | v sh' f v=>
     simp only at h ⊢
     by_cases hs:sh'=sh
     ·simp only[hs,decide_true,aLB] at h ⊢
      cases hz:f.isz with
      | true=>simp only[hz,aLB] at h ⊢;exact rf h
      | false=>
       simp only[hz,aLC] at h ⊢
       subst hs
       cases ho:okS sh' f with
       | false=>simp[ho] at h
       | true=>
        simp only[ho,aLB] at h ⊢
        obtain⟨t,ht,h⟩:=aLd.1 h
        simp only[aLe] at h
        obtain⟨rfl,rfl⟩:=h
        simp only[ht,Option.map_some]
        exact⟨_,rfl,m.flag (r:=.s t) ((QcR ht).trans hd) .z⟩
     ·simp[hs] at h
    | tup l=>cases h
    | dead=>exact rf h
    | und=>exact rf h
    | nil=>exact rf h
    | bor r v p=>exact rf h
    | loc r v p=>exact rf h
    | rp a c=>exact rf h
    | rpp a c=>exact rf h
    | clos j c=>exact rf h
   | x=>exact tk' (by simp) h
   | o f=>exact tk' (by simp) h
   | p f f'=>exact tk' (by simp) h
   | h f i0=>exact tk' (by simp) h
  | rp sh q=>exact rf h
  | io sh f f'=>
   cases d with
   | loc r ver p=>
    simp only at h ⊢
    obtain⟨⟨s1,y⟩,h1,h⟩:=aLa.1 h
    obtain⟨b1,hb1,hs1⟩:=m.out (fun _ hy=>m.lookL hy) h1
    simp only[hb1,aLc]
    cases hc:decide (y.sh=sh)&&Qr y.sh y.fl f with
    | false=>simp[hc] at h
    | true=>simp only[hc,aLB,aLb,aLe] at h ⊢;obtain⟨rfl,rfl⟩:=h;exact⟨b1,⟨rfl,rfl⟩,hs1⟩
   | _=>cases h
  | mu sh f f'=>
   cases d with
   | bor r ver p=>
    simp only at h ⊢
    obtain⟨⟨s1,y⟩,h1,h⟩:=aLa.1 h
    obtain⟨b1,hb1,hs1⟩:=m.outM h1
    simp only[hb1,aLc]
    cases hc:decide (y.2.sh=sh)&&Qr y.2.sh y.2.fl f with
    | false=>simp[hc] at h
    | true=>simp only[hc,aLB,aLb,aLe] at h ⊢;obtain⟨rfl,rfl⟩:=h;exact⟨b1,⟨rfl,rfl⟩,hs1⟩
   | v sh' fl v=>
    simp only at h ⊢
    obtain⟨t,ht,h⟩:=aLa.1 h
    simp only[ht,aLc]
    obtain⟨⟨s1,y⟩,h1,h⟩:=aLa.1 h
    have he:s.s t=b.s t:=m.v (r:=.s t) ((QcR ht).trans hd)
    obtain⟨b1,hb1,hs1⟩:=m.out (l':=b.look (.s t) (b.s t).hv []) (fun _ hy=>by rw[<-he];exact m.look hy) h1
    simp only[hb1,aLc]
    cases hc:decide (y.sh=sh)&&Qr y.sh y.fl f with
    | false=>simp[hc] at h
    | true=>simp only[hc,aLB,aLb,aLe] at h ⊢;obtain⟨rfl,rfl⟩:=h;exact⟨b1,⟨rfl,rfl⟩,hs1⟩
   | _=>cases h
 ·rw[hx] at h
  cases ps with
  | v sh f=>cases f<;>simp[Qkm] at h
  | rp sh q=>simp only[aLb,aLe] at h ⊢;obtain⟨rfl,rfl⟩:=h;exact⟨b,⟨rfl,rfl⟩,.refl s b⟩
  | io sh f f'=>simp at h
  | mu sh f f'=>simp at h
end Go.Dx
namespace Go.Dx
variable {s b:Env} {C:Ctx}
theorem Mo.Qd3:∀(ps:List PS) (os:List Operand) {s b s':Env} {x:List (Option ((s:Sh)×s.den))×List WB},Mo s b->Qd3 s ps os=some (s',x)->∃b',Qd3 b ps os=some (b',x)/\Syn s b s' b':=by
 intro ps
 induction ps with
 | nil=>
  intro os s b s' x m h
  cases os with
  | nil=>simp only[Dx.Qd3,aLb,aLe] at h ⊢;obtain⟨rfl,rfl⟩:=h;exact⟨b,⟨rfl,rfl⟩,.refl s b⟩
  | cons o os=>simp[Dx.Qd3] at h
 | cons p ps ih=>
  intro os s b s' x m h
  cases os with
  | nil=>simp[Dx.Qd3] at h
  | cons o os=>
   simp only[Dx.Qd3] at h ⊢
   obtain⟨⟨s1,u⟩,h1,h⟩:=aLa.1 h
   obtain⟨⟨s2,v⟩,h2,h⟩:=aLd.1 h
   simp only[aLe] at h
   obtain⟨rfl,rfl⟩:=h
   obtain⟨b1,hb1,hs1⟩:=m.argA h1
   obtain⟨b2,hb2,hs2⟩:=ih os (hs1.mo m) h2
   refine⟨b2,?_,hs1.trans hs2⟩
   simp only[hb1,aLc,hb2,Option.map_some]
theorem Mo.capV (m:Mo s b) {p:PS} {d:Desc} {x:(s:Sh)×s.den} (h:capV s p d=some x):capV b p d=some x:=by
 unfold Dx.capV at h ⊢
 split at h
 ·exact h
 ·exact h
 ·exact h
 ·obtain⟨y,hy,h⟩:=aLa.1 h
  rw[m.lookL hy];exact h
 ·cases h
theorem Mo.QfY (m:Mo s b):∀(ps:List PS) (ds:List Desc) {l:List ((s:Sh)×s.den)},QfY s ps ds=some l->QfY b ps ds=some l:=by
 intro ps
 induction ps with
 | nil=>intro ds l h;cases ds<;>exact h
 | cons p ps ih=>
  intro ds l h
  cases ds with
  | nil=>exact h
  | cons d ds=>
   simp only[Dx.QfY] at h ⊢
   obtain⟨x,hx,h⟩:=aLa.1 h
   obtain⟨l',hl,h⟩:=aLd.1 h
   rw[m.capV hx,aLc,ih ds hl,Option.map_some,h]
theorem Mo.QaX (m:Mo s b) {j:FuncId} {caps:List Desc} {want:Sh} {f:want.den} (h:QaX C s j caps want=some f):QaX C b j caps want=some f:=by
 cases want with
 | fn1 a r rf=>
  simp only[Dx.QaX] at h ⊢
  obtain⟨K,hK,h⟩:=aLa.1 h
  rw[hK,aLc]
  split at h
  ·rename_i a' cs s' f' F
   try simp only at h ⊢
   cases hc:noIo cs&&decide (a'=a)&&decide (s'=r)&&Qr s' f' rf with
   | false=>simp[hc] at h
   | true=>
    simp only[hc,aLB] at h ⊢
    obtain⟨l,hl,h⟩:=aLa.1 h
    rw[m.QfY _ _ hl,aLc];exact h
  ·cases h
 | fn2 a c r=>
  simp only[Dx.QaX] at h ⊢
  obtain⟨K,hK,h⟩:=aLa.1 h
  rw[hK,aLc]
  split at h
  ·rename_i a' b' cs s' f' F
   try simp only at h ⊢
   cases hc:noIo cs&&decide (a'=a)&&decide (b'=c)&&decide (s'=r)&&Qr s' f' .z with
   | false=>simp[hc] at h
   | true=>
    simp only[hc,aLB] at h ⊢
    obtain⟨l,hl,h⟩:=aLa.1 h
    rw[m.QfY _ _ hl,aLc];exact h
  ·cases h
 | int k=>simp[Dx.QaX] at h
 | bool=>simp[Dx.QaX] at h
 | str=>simp[Dx.QaX] at h
 | list s=>simp[Dx.QaX] at h
 | prod x y=>simp[Dx.QaX] at h
theorem Mo.argB (m:Mo s b) {p:PS} {o:Operand} {x:((s:Sh)×s.den)×List Root} (h:argB C s p o=some x):argB C b p o=some x:=by
 unfold Dx.argB at h ⊢
 rcases m.opd o with hx | hx
 ·rw[hx]
  generalize s.opd o=d at h ⊢
  cases p with
  | v sh f=>
   cases f with
   | z=>
    cases d with
    | clos j caps=>
     simp only at h ⊢
     obtain⟨f,hf,h⟩:=aLd.1 h
     rw[m.QaX hf];exact congrArg some h
    | bor r ver p=>
     simp only at h ⊢
     obtain⟨y,hy,h⟩:=aLa.1 h
     rw[m.look hy];exact h
    | _=>exact h
   | _=>cases h
  | rp sh q=>
   cases q with
   | true=>cases d<;>exact h
   | false=>
   cases d with
   | loc r ver p=>
    simp only at h ⊢
    obtain⟨y,hy,h⟩:=aLa.1 h
    rw[m.lookL hy];exact h
   | _=>exact h
  | io sh f f'=>exact h
  | mu sh f f'=>exact h
 ·rw[hx] at h
  cases p with
  | v sh f=>cases f<;>cases h
  | rp sh q=>cases q<;>cases h
  | io sh f f'=>cases h
  | mu sh f f'=>cases h
theorem Mo.QjM (m:Mo s b):∀(ps:List PS) (os:List Operand) (xs:List (Option ((s:Sh)×s.den))) {y:List ((s:Sh)×s.den)×List Root},QjM C s ps os xs=some y->QjM C b ps os xs=some y:=by
 intro ps
 induction ps with
 | nil=>intro os xs y h;cases os<;>cases xs<;>exact h
 | cons p ps ih=>
  intro os xs y h
  cases os with
  | nil=>cases xs<;>exact h
  | cons o os=>
   cases xs with
   | nil=>exact h
   | cons x xs=>
    simp only[Dx.QjM] at h ⊢
    obtain⟨u,hu,h⟩:=aLa.1 h
    obtain⟨v,hv,hy⟩:=aLd.1 h
    rw[ih os xs hv]
    cases x with
    | some x=>simp only at hu ⊢;rw[hu];simp only[aLc,Option.map_some];rw[hy]
    | none=>simp only at hu ⊢;rw[m.argB hu];simp only[aLc,Option.map_some];rw[hy]
theorem Mo.Qa2:∀(l:List WB) (xs:List ((s:Sh)×s.den)) {s b s':Env},Mo s b->Qa2 s l xs=some s'->∃b',Qa2 b l xs=some b'/\Syn s b s' b':=by
 intro l
 induction l with
 | nil=>
  intro xs s b s' m h
  cases xs with
  | nil=>simp only[Dx.Qa2,aLb] at h ⊢;subst h;exact⟨b,rfl,.refl s b⟩
  | cons x xs=>simp[Dx.Qa2] at h
 | cons q l ih=>
  intro xs s b s' m h
  cases xs with
  | nil=>simp[Dx.Qa2] at h
  | cons x xs=>
   simp only[Dx.Qa2] at h ⊢
   split at h
   ·rename_i S F X hd
    have hb:(b.root q.r).d=.v S F X:=m.v hd ▸ hd
    rw[hb]
    simp only
    cases hc:decide (x.1=q.s) with
    | false=>simp[hc] at h
    | true=>
     simp only[hc,aLB] at h ⊢
     obtain⟨n,hn,h⟩:=aLa.1 h
     obtain⟨y,hy,h⟩:=aLa.1 h
     simp only[hn,aLc,hy]
     have h1:=m.setR hd q.io (.v S y.1 y.2)
     obtain⟨b',hb',h2⟩:=ih xs (h1.mo m) h
     exact⟨b',hb',h1.trans h2⟩
   ·cases h
theorem Mo.results (m:Mo s b) {dst:Option Tmp} (hd:∀i,dst=some i->s.root (.s i)=b.root (.s i)) {outs:List (Sh×Fl)} {xs:List ((s:Sh)×s.den)} {wb:List WB} {s':Env} (h:results s dst outs xs wb=some s') :
  ∃b',results b dst outs xs wb=some b'/\Syn s b s' b':=by
 unfold Dx.results at h ⊢
 obtain⟨s1,h1,rfl⟩:=aLd.1 h
 obtain⟨b1,hb1,hs1⟩:=m.Qa2 _ _ h1
 exact⟨_,by rw[hb1];rfl,hs1.trans ((hs1.mo m).dst (fun i hi=>hs1.eq (hd i hi)) _)⟩
inductive Yl (s b:Env):Eff->Eff->Prop
 | done {s' b':Env}:Syn s b s' b'->Yl s b (.done s') (.done b')
 | grd {c:Bool} {s' b':Env}:Syn s b s' b'->Yl s b (.grd c s') (.grd c b')
 | call {β:Type} {m:Option β} {k k':β->Option Env}:(∀y s',k y=some s'->∃b',k' y=some b'/\Syn s b s' b')->Yl s b (.call β m k) (.call β m k')
theorem Mo.QkQ (m:Mo s b) {dst:Option Tmp} (hd:∀i,dst=some i->s.root (.s i)=b.root (.s i)) {j:FuncId} {os:List Operand} {f:Eff} (h:QkQ C s dst j os=some f):∃f',QkQ C b dst j os=some f'/\Yl s b f f':=by
 unfold Dx.QkQ at h ⊢
 obtain⟨K,hK,h⟩:=aLa.1 h
 obtain⟨⟨s1,u⟩,h1,h⟩:=aLa.1 h
 obtain⟨q,hq,h⟩:=aLa.1 h
 obtain⟨t,ht,h⟩:=aLa.1 h
 obtain⟨b1,hb1,hs1⟩:=m.Qd3 _ _ h1
 simp only[hK,aLc,hb1]
 rw[(hs1.mo m).QjM _ _ _ hq,aLc,ht,aLc]
 simp only at h ⊢
 cases hcc:(q.2.isEmpty || (K.outs.all (fun o=>QI o.1 o.2)&&u.2.all (fun b=>QI b.s b.f)))&&Qch q.2 u.2&&Nat.ble (K.outs.length+K.ins.length) PK<;>simp only[hcc,aLB,aLC] at h ⊢
 all_goals first
  | cases h;done
  | (simp only[aLb] at h;subst h;exact⟨_,rfl,.call fun y s' hy=>by
    obtain⟨b',hb',hs'⟩:=(hs1.mo m).results (fun i hi=>hs1.eq (hd i hi)) hy
    exact⟨b',hb',hs1.trans hs'⟩⟩)
theorem Mo.rdZ (m:Mo s b):∀(ss:List Sh) (os:List Operand) {l:List ((s:Sh)×s.den)},rdZ s ss os=some l->rdZ b ss os=some l
 | [],[],l,h=>h
 | [],_::_,l,h=>by simp[Dx.rdZ] at h
 | _::_,[],l,h=>by simp[Dx.rdZ] at h
 | sh::ss,o::os,l,h=>by
  unfold Dx.rdZ at h ⊢
  rcases m.opd o with hx | hx
  ·rw[hx]
   generalize s.opd o=d at h ⊢
   cases d with
   | v s' f x=>
    simp only at h ⊢
    cases hc:decide (s'=sh)&&f.isz with
    | false=>rw[hc] at h;cases h
    | true=>
     rw[hc,aLB] at h
     obtain⟨l',hl,rfl⟩:=aLd.1 h
     rw[m.rdZ ss os hl];rfl
   | _=>cases h
  ·rw[hx] at h;cases h
theorem Mo.newE (m:Mo s b) {dst:Option Tmp} (hd:∀i,dst=some i->s.root (.s i)=b.root (.s i)/\s.root (.b i)=b.root (.b i)) {N:NewP} {os:List Operand} {f:Eff} (h:newE s dst N os=some f):∃f',newE b dst N os=some f'/\Yl s b f f':=by
 unfold Dx.newE at h ⊢
 obtain⟨i,hi,h⟩:=aLa.1 h
 obtain⟨l,hl,h⟩:=aLa.1 h
 obtain⟨t,ht,h⟩:=aLa.1 h
 rw[hi,aLc,m.rdZ _ _ hl,aLc,ht,aLc]
 rw[m.sl,m.bl] at h
 cases hc:Nat.blt i b.sl.length&&Nat.blt i b.bl.length with
 | false=>rw[hc] at h;cases h
 | true=>
  rw[hc,aLB] at h
  simp only[aLB]
  simp only[aLb] at h
  subst h
  exact⟨_,rfl,.call fun y s' hy=>m.QbN (hd i hi).1 (hd i hi).2 hy⟩
end Go.Dx
namespace Go.Dx
variable {s b:Env} {C:Ctx}
theorem Mo.QhK (m:Mo s b) {dst:Option Tmp} (hd:∀i,dst=some i->s.root (.s i)=b.root (.s i)) {d:Desc} {os:List Operand} {f:Eff} (h:QhK s dst d os=some f):∃f',QhK b dst d os=some f'/\Yl s b f f':=by
 unfold Dx.QhK at h ⊢
 split at h
 ·rename_i a r rf ff g x
  try simp only at h ⊢
  cases hx:ff.isx with
  | true=>simp[hx] at h
  | false=>
   simp only[hx,aLC] at h ⊢
   obtain⟨y,hy,h⟩:=aLa.1 h
   obtain⟨z,hz,h⟩:=aLa.1 h
   rw[m.rdo hy,aLc,hz,aLc]
   cases hc:QI r rf with
   | false=>simp[hc] at h
   | true=>
    simp only[hc,aLB,aLb] at h ⊢
    subst h
    exact⟨_,rfl,.call fun y s' hy=>by simp only[aLb] at hy ⊢;subst hy;exact⟨_,rfl,m.dst hd _⟩⟩
 ·rename_i a c r ff g x x'
  try simp only at h ⊢
  cases hx:ff.isx with
  | true=>simp[hx] at h
  | false=>
   simp only[hx,aLC] at h ⊢
   obtain⟨y,hy,h⟩:=aLa.1 h
   obtain⟨z,hz,h⟩:=aLa.1 h
   obtain⟨y',hy',h⟩:=aLa.1 h
   obtain⟨z',hz',h⟩:=aLa.1 h
   rw[m.rdo hy,aLc,hz,aLc,m.rdo hy',aLc,hz',aLc]
   cases hc:QI r .z with
   | false=>simp[hc] at h
   | true=>
    simp only[hc,aLB,aLb] at h ⊢
    subst h
    exact⟨_,rfl,.call fun y s' hy=>by simp only[aLb] at hy ⊢;subst hy;exact⟨_,rfl,m.dst hd _⟩⟩
 ·cases h
theorem Mo.binE (m:Mo s b) {dst:Option Tmp} (hd:∀i,dst=some i->s.root (.s i)=b.root (.s i)) {t:TypeId} {op:BinOp} {x y:Operand} {f:Eff} (h:binE C t s dst op (s.opd x) (s.opd y)=some f):∃f',binE C t b dst op (b.opd x) (b.opd y)=some f'/\Yl s b f f':=by
 unfold Dx.binE at h ⊢
 have D:=fun d=>m.dst hd d
 cases hx:s.rd (s.opd x) with
 | none=>simp[hx] at h
 | some u=>
  cases hy:s.rd (s.opd y) with
  | none=>simp[hx,hy] at h
  | some v=>
   rw[m.rdo hx,m.rdo hy]
   rw[hx,hy] at h
   have dn:∀d,some (Eff.done (s.dst dst d))=some f->∃f',some (Eff.done (b.dst dst d))=some f'/\Yl s b f f':=fun d h=>by simp only[aLb] at h;subst h;exact⟨_,rfl,.done (D d)⟩
   have gd:∀c d,some (Eff.grd c (s.dst dst d))=some f->∃f',some (Eff.grd c (b.dst dst d))=some f'/\Yl s b f f':=fun c d h=>by simp only[aLb] at h;subst h;exact⟨_,rfl,.grd (D d)⟩
   have bd:∀(q:Option Bool),(q.bind fun c=>some (Eff.done (s.dst dst (.v .bool .z c))))=some f->∃f',(q.bind fun c=>some (Eff.done (b.dst dst (.v .bool .z c))))=some f'/\Yl s b f f':=fun q h=>by
    obtain⟨c,rfl,h⟩:=aLa.1 h
    exact dn _ h
   have gen:∀(S:Sh) (a:S.den) (S':Sh) (a':S'.den),((asS ⟨S',a'⟩ S).bind fun b'=>(C.ty t).bind fun ti=>bif S.flat&&decide (ti.sh=S)&&Nat.blt S.rk 1000 then
     (match op with
     | .eql=>some (Eff.done (s.dst dst (.v .bool .z (S.beq a b')))) | .neq=>some (Eff.done (s.dst dst (.v .bool .z (!(S.beq a b'))))) | _=>none) else none)=some f->
     ∃f',((asS ⟨S',a'⟩ S).bind fun b'=>(C.ty t).bind fun ti=>bif S.flat&&decide (ti.sh=S)&&Nat.blt S.rk 1000 then
     (match op with
     | .eql=>some (Eff.done (b.dst dst (.v .bool .z (S.beq a b')))) | .neq=>some (Eff.done (b.dst dst (.v .bool .z (!(S.beq a b'))))) | _=>none) else none)=some f'/\Yl s b f f':=by
    intro S a S' a' h
    obtain⟨b0,hb0,h⟩:=aLa.1 h
    obtain⟨ti,hti,h⟩:=aLa.1 h
    rw[hb0,aLc,hti,aLc]
    cases hc:S.flat&&decide (ti.sh=S)&&Nat.blt S.rk 1000 with
    | false=>simp[hc] at h
    | true=>
     simp only[hc,aLB] at h ⊢
     cases op<;>first | exact dn _ h | cases h
   obtain⟨su,au⟩:=u
   obtain⟨sv,av⟩:=v
   cases su with
   | int k=>
    cases sv with
    | int k'=>
     simp only at h ⊢
     by_cases hk:k=k'
     ·rw[if_pos hk] at h ⊢
      cases op<;>first | exact dn _ h | exact gd _ _ h | exact bd _ h
     ·rw[if_neg hk] at h;cases h
    | _=>exact gen _ _ _ _ h
   | str=>
    cases sv with
    | str=>
     simp only at h ⊢
     cases op<;>first | exact dn _ h | exact gd _ _ h | cases h
    | _=>exact gen _ _ _ _ h
   | _=>cases sv<;>exact gen _ _ _ _ h
theorem Mo.Qn2 (m:Mo s b) {c:Bool} {x y:Operand} {d:Desc} (h:Qn2 s c (s.opd x) (s.opd y)=some d):Qn2 b c (b.opd x) (b.opd y)=some d:=by
 unfold Dx.Qn2 at h ⊢
 rcases m.opd x with hx | hx
 ·rcases m.opd y with hy | hy
  ·rw[hx,hy]
   cases hdd:(s.opd x).data&&(s.opd y).data with
   | false=>rw[hdd] at h;exact h
   | true=>
    rw[hdd] at h
    simp only[aLB] at h ⊢
    cases h1:s.rd (s.opd x) with
    | none=>rw[h1] at h;cases h
    | some u=>
     cases h2:s.rd (s.opd y) with
     | none=>rw[h1,h2] at h;cases h
     | some v=>rw[h1,h2] at h;rw[m.rd h1,m.rd h2];exact h
  ·rw[hy] at h;simp[Desc.data,bare] at h
 ·rw[hx] at h;simp[Desc.data,bare] at h
end Go.Dx
