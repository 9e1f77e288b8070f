/- A LIBRARY: an executor over the code of a program, proved sound: what its letters say of a function is so (contract_of); how a row is closed by it (law_calls) -/
import Derived.Test.YtmklfdnhndakcaaGreatDoorDxa
import Derived.Laws.BytesString
import Derived.Laws.Append
import Derived.Laws.AppendOwn
import Derived.Great.FillDense
import Derived.Orders
set_option linter.unusedVariables false
set_option linter.unusedSimpArgs false
namespace Go.Dx
variable {P:Program} {B:Base} {g:Gh} {e:Env} {a:Act} {w:World} {C:Ctx}
theorem QrT (U:QR P C) {t:TypeId} {ti:TI} (I:C.ty t=some ti) {k:IntKind} (J:ti.sh=.int k):P.underlying t=some (.int k):=by
 have hu:=(U t ti I).und
 revert hu;cases htd:ti.td<;>simp only<;>intro hu
 ·simp_all
 ·simp_all
 ·simp_all
 ·simp_all
 ·simp_all
 ·have:=hu.2.1.prod hu.2.2.1;rw[J] at this;cases this
 ·simp_all
 simp_all
theorem Qoo:∀(I:List Int) (s:ByteArray),I.foldl (fun r n=>r.push (UInt8.ofNat n.toNat)) s=⟨s.data++(I.map fun n=>UInt8.ofNat n.toNat).toArray⟩
 | [],s=>rfl
 | n::I,s=>by
  rw[List.foldl_cons,Qoo I]
  simp_all
theorem Qps (hT:QR P C) (h:Rel P B g e a w) {frz:Fz} {o:Oper} {s t:TypeId} {x:Operand} (ho:o.op=.convert s t x) {f:Eff} {e':Env} (J:Qn C frz e o=some f) (hf:f.gives e'):QD P B a w o e':=by
 obtain⟨Tx,hx,_,_⟩:=QC h x;simp only[Qn,ho,Qsc,aLa] at J;obtain⟨si,hsi,ti,U,y,hy,J⟩:=J;by_cases hsh:y.1=si.sh
 ·simp only[hsh,aMc,aLB] at J
  obtain⟨S1,f1,o1,r1,_⟩:=QbC h hx hy;obtain⟨ds,hds⟩:=(hT s si hsi).und_desc;split at J
  ·rename_i k k' n I
   simp only[aLb] at J;subst J;obtain rfl:e'=_:=hf;have hv:=Jm o1 r1
   exact .plain h (v:=.int k (k.wrap n)) (by simp[execOp,ho,hv,convert,run_underlying hds,run_underlying (QrT hT U I),Conv.intToInt]) (QbM _)
  ·rename_i l I
   simp only[aLb] at J;subst J;obtain rfl:e'=_:=hf;have hv:=JV o1 r1
   exact .plain h (v:=.string ⟨List.toArray l⟩) (by simp[execOp,ho,hv,convert,run_underlying hds,run_underlying (QiV hT U I)]) (QfF _)
  ·rename_i l I
   simp only[aLb] at J;subst J;obtain rfl:e'=_:=hf;obtain⟨el,te,hu,hte,htes⟩:=QgJ hT hsi hsh.symm;have hue:=QrT hT hte htes
   have h1:(a.eval x).cells = #[a.eval x]:=r1.1
   have hl:∀(A:Addr) (cap:Nat),(∀j (h:j<List.length l),w.cell? (A.add j)=some (.int .u8 (l[j]'h)))->a.eval x=.slice (some A) (List.length l) cap->
     QD P B a w o (e.dst o.dst (.v .str .z (List.map (fun (b:Int)=>UInt8.ofNat b.toNat) l))):=by
    intro A cap hc hv;have hload:(loadCells A (List.length l)).run P w=.ok (List.map (Value.int .u8) l).toArray w:=by
     have:=run_loadCells_list (P:=P) w A (List.map (Value.int .u8) l) (fun j v hv=>by
      simp only[List.getElem?_map,aLd] at hv;obtain⟨u,hu,rfl⟩:=hv;obtain⟨hj,rfl⟩:=aLy.1 hu;exact hc j hj)
     simpa using this
    have hrun:=run_bytesToString w A (List.length l) cap l hload
    rw[Qoo] at hrun;refine .plain h (v:=.string ⟨(List.map (fun (b:Int)=>UInt8.ofNat b.toNat) l).toArray⟩) ?_ (QfF _)
    simp only[execOp,ho,hv,Sem.run_bind,run_convert_bytes_string w s t el (some A) _ cap hu hue (QiV hT U I),hrun,Result.andThen_ok];simp[ByteArray.empty,ByteArray.emptyWithCapacity];rfl
   have hz:l=[]->∀cap,a.eval x=.slice none 0 cap->QD P B a w o (e.dst o.dst (.v .str .z (List.map (fun (b:Int)=>UInt8.ofNat b.toNat) l))):=by
    intro hl0 cap hv;subst hl0;refine .plain h ?_ (QfF _);simp only[execOp,ho,hv,Sem.run_bind,run_convert_bytes_string w s t el none _ cap hu hue (QiV hT U I)];rfl
   cases f1 with
   | z=>
    obtain⟨A,n,cap,h2,h3,h4,h5⟩:=r1.2;simp only[Qg,h1] at h2;simp at h2;cases A with
    | none=>
     simp_all
    | some A=>
     refine hl A cap (fun j hj=>?_) (by rw[h2,h3])
     obtain⟨b,off,hA,_,hr⟩:=h5 (by rw[<-h3];exact Nat.lt_of_le_of_lt (Nat.zero_le _) hj)
     simp only[aLb] at hA;subst hA;have:=hr j hj (by simp)
     rw[QbZ];simpa [Qd,Sh.size] using this
   | o g1=>
    obtain⟨A,n,cap,h2,h3,h4,h5⟩:=r1.2;simp only[Qg,h1] at h2;simp at h2;rcases h5 with ⟨rfl,rfl,rfl⟩ | ⟨b,off,arr,e1,rfl,_,_,_,t1,hr⟩
    ·exact hz (aMk h3) 0 h2
    ·refine hl _ cap (fun j hj=>?_) (by rw[h2,h3])
     have:=hr j hj (Yo (s:=.int .u8) o1)
     rw[QbZ];simpa [Qd,Sh.size] using this
   | x=>simp[okS] at o1
   | p a b=>simp[okS] at o1
   | h f0 i0=>simp[okS] at o1
  ·cases J
 ·simp[hsh] at J
end Go.Dx
namespace Go.Dx
variable {P:Program} {B:Base} {g:Gh} {e:Env} {a:Act} {w:World} {C:Ctx}
theorem Rel.newList (h:Rel P B g e a w) (arr:Array Value) (ty:TypeId) (k:Nat) :
  ∃g',g'.pl=g.pl/\Rel P B g' e a (w.alloc (.cells arr ty))/\g'.ow w.heap.size=.fl k/\(∀j,j<w.heap.size->g'.ow j=g.ow j)/\(w.alloc (.cells arr ty)).heap[w.heap.size]? = some (.cells arr ty (0,0))/\
   (∀j,j<w.heap.size->(w.alloc (.cells arr ty)).heap[j]? = w.heap[j]?):=by
 have I:∀j,j<w.heap.size->(w.alloc (.cells arr ty)).heap[j]? = w.heap[j]?:=fun j hj=>by rw[Yu,if_neg (by omega)]
 let ow':Nat->Tag:=fun j=>if j=w.heap.size then .fl k else g.ow j
 refine⟨⟨ow',g.pl⟩,rfl,h.fly rfl (fun j hj _=>⟨by simp[ow',Nat.ne_of_lt hj],I j hj⟩) ⟨rfl,rfl,rfl,by show w.heap.size<=(w.heap.push _).size;simp,aMb _⟩ (fun j hj=>?_),by simp[ow'],fun j hj=>by simp[ow',Nat.ne_of_lt hj],by rw[Yu,if_pos rfl],I⟩
 show j<(w.heap.push _).size
 rw[Array.size_push];by_cases J:j=w.heap.size
 ·omega
 ·have:g.ow j ≠ .none:=by simpa [ow',J] using hj
  have:=h.lt j this;omega
theorem Qqr {s:Sh} {n j k:Nat} (hj:j<n) (hk:k<s.size):(madeCells (zeroV s).cells (n * s.size))[j * s.size+k]? = (YP s)[k]?:=by
 have hlen:(zeroV s).cells.size=s.size:=by rw[QcY];simp[ZQ]
 have J:j * s.size+k<n * s.size:=by
  have:(j+1) * s.size<=n * s.size:=aLq _ hj
  grind
 have I:(j * s.size+k) % s.size=k:=by
  rw[Nat.add_comm,Nat.mul_comm,Nat.add_mul_mod_self_left];exact Nat.mod_eq_of_lt hk
 rw[<-QgG s k];simp[madeCells,Qg]
 simp_all
theorem QfE (U:QR P C) {t te:TypeId} {ti:TI} (I:C.ty t=some ti) (htd:ti.td=.slice te):P.underlying t=some (.slice te)/\∃J,C.ty te=some J/\ti.sh=.list J.sh:=by
 have hu:=(U t ti I).und
 simp_all
theorem QnG (hT:QR P C) (h:Rel P B g e a w) {frz:Fz} {o:Oper} {t:TypeId} {x y:Operand} (ho:o.op=.makeSlice t x y) {f:Eff} {e':Env} (J:Qn C frz e o=some f) (hf:f.gives e'):QD P B a w o e':=by
 obtain⟨g0,_,hcl,h0⟩:=h.clean;clear h;have h:=h0
 obtain⟨Tx,hx,_,_⟩:=QC h x;simp only[Qn,ho,aLa] at J;obtain⟨ti,hti,J⟩:=J;split at J
 ·rename_i te s htd hsh
  obtain⟨hund,tj',htj',hsh'⟩:=QfE hT hti htd;simp only[aLa] at J;obtain⟨I,htj,⟨kl,n⟩,hn,⟨kc,m⟩,hm,J⟩:=J;rw[htj] at htj';simp only[aLb] at htj';subst htj';rw[hsh] at hsh';simp only[Sh.list.injEq] at hsh';subst hsh';cases hc:I.td.zok&&QkT x y with
  | false=>rw[hc] at J;cases J
  | true=>
   rw[hc,aLB] at J;simp only[aLb] at J;subst J;obtain⟨hg,rfl⟩:=hf;simp only[aLg] at hc;obtain⟨hz,U⟩:=hc;have U:x=y:=by
    unfold QkT at U;split at U
    ·rw[aLw U]
    ·simp_all
    ·cases U
   subst U;simp only[aLg,aLF] at hg;obtain⟨hn0,hn1⟩:=hg;have hv:=Qfo h hx hn
   obtain⟨i,hi,hisz,hby,hby0,hzz⟩:=(hT te I htj).info;have hzero:i.zero=some (zeroV I.sh):=by
    revert hzz hz;cases I.td<;>simp[TD.zok]
   have hrun:=run_make (P:=P) w t te i (zeroV I.sh) hund hi hzero kl kl n n hn0 (Int.le_refl _) (by
    have h1:(i.bytes:Int)<=131072:=by omega
    have h2:n<=1073741824:=hn1
    have:=Int.mul_le_mul h1 h2 hn0 (by omega)
    omega) (by simp only[LIM] at hn1;omega)
   rw[hisz] at hrun;obtain⟨g1,hpl1,h1,hN,hold,hblk,hheap⟩:=h.newList (madeCells (zeroV I.sh).cells (n.toNat * I.sh.size)) te 0;have hrep:RepV P (.list I.sh) (.o (Fl.full I.sh)) g1.Z (w.alloc (.cells (madeCells (zeroV I.sh).cells (n.toNat * I.sh.size)) te)) (g1.S (.fl 0)) (.slice (some ⟨w.heap.size,0,none⟩) n.toNat n.toNat) (List.replicate n.toNat I.sh.dflt):=by
    refine⟨rfl,_,n.toNat,n.toNat,rfl,by simp,aMb _,.inr ⟨w.heap.size,0,_,te,rfl,hN,hblk,by rw[size_madeCells];omega,fun _=>0,fun j hj=>?_⟩⟩
    have hj':j<n.toNat:=by simpa using hj
    have hx:(List.replicate n.toNat I.sh.dflt)[j]'hj=I.sh.dflt:=by simp
    rw[hx];refine Qjx I.sh _ _ fun k hk=>?_
    rw[<-Qqr hj' hk];simp only[Qd,World.cell?,hblk,aMf];rfl
   obtain⟨g2,_,_,h2⟩:=h1.dst 0 o.dst (d:=.v (.list I.sh) (.o (Fl.full I.sh)) (List.replicate n.toNat I.sh.dflt)) hrep;exact .value (by simp[execOp,ho,hv,hrun]) ⟨g2,h2⟩
 ·cases J
theorem Qtx {t:TypeId} {ti:TI} (h:TyOk P C t ti) {xs:Array Value} {off:Nat} (hc:∀k,k<ti.sh.size->∃v,xs[off+k]? = some v/\v.cells = #[v]) :
  ∃v,(part t xs off).run P w=.ok v w/\Ys ti.sh v/\∀k,k<ti.sh.size->Qg v k=xs[off+k]?:=by
 have J:off+ti.sh.size<=xs.size:=by
  obtain⟨v,hv,_⟩:=hc (ti.sh.size - 1) (by have:=Sh.size_pos ti.sh;omega)
  grind
 unfold part;cases I:QY ti.sh with
 | true=>
  refine⟨.agg (xs.extract off (off+ti.sh.size)),by simp[Qch h,I,run_sizeOf h],?_,fun k hk=>?_⟩
  ·revert I;cases U:ti.sh with
   | prod a b=>intro _;exact⟨_,rfl,by rw[U] at J;simp only[Sh.size_prod] at J;simp[ Sh.size_prod];omega⟩
   | _=>intro I;simp[QY] at I
  ·simp only[Qg,Value.cells,Array.getElem?_extract]
   simp_all
 | false=>
  obtain⟨v,hv,hcv⟩:=hc 0 (Sh.size_pos _);refine⟨v,by simp[Qch h,I,show xs[off]? = some v by simpa using hv],?_,fun k hk=>?_⟩
  ·revert I;cases U:ti.sh with
   | prod a b=>intro I;simp[QY] at I
   | _=>intro _;exact hcv
  ·have hk0:k=0:=by
    revert I hk;cases ti.sh<;>intro I hk<;>first | (simp[QY] at I;done) | (simp[Sh.size] at hk;exact hk)
   subst hk0;simp only[Qg,hcv]
   simp_all
theorem QsQ (hT:QR P C) (h:Rel P B g e a w) {frz:Fz} {o:Oper} {t:TypeId} {x:Operand} {n:Nat} (ho:o.op=.field t x n) {f:Eff} {e':Env} (hs:Qn C frz e o=some f) (hf:f.gives e'):QD P B a w o e':=by
 obtain⟨Tx,hx,hxt,_⟩:=QC h x;simp only[Qn,ho,aLa] at hs;obtain⟨ti,hti,hs⟩:=hs;split at hs
 ·rename_i fs htd
  have hund:=(hT t ti hti).und
  rw[htd] at hund;obtain⟨⟨fields,u1,u2,u3⟩,h4,h5,_⟩:=hund;obtain⟨y,I,hs⟩:=aLa.1 hs;cases hc:Nat.blt n fs.length&&decide (y.sh=ti.sh)&&okS y.sh y.fl with
  | false=>simp[hc] at hs
  | true=>
   rw[hc,aLB] at hs;simp only[aLg,aLF] at hc;obtain⟨⟨hlt,hsh⟩,hok⟩:=hc;obtain⟨u,hu⟩:∃u,fs[n]? = some u:=⟨_,aLf (QdB hlt)⟩;obtain⟨tj,htj,q1,q2,q3,q4,q5,q6⟩:=Qbs w n h4 hu;obtain⟨S1,r1,_⟩:=QgA h hx I (Yo hok);obtain⟨z,hz,hs2⟩:=aLa.1 hs;clear hs;obtain⟨ysh,yfl,yx⟩:=y;simp only at hsh hok r1 hz hs2;subst hsh;have hget:=RepC.get _ r1.2 (q4 yx) hz
   have hzs:z.sh=tj.sh:=by have:=ZE _ hz;rw[q3] at this;simpa using this.symm
   have hpr:QY ti.sh=true:=h4.prod h5
   obtain⟨cs,hv,hcs⟩:∃cs:Array Value,a.eval x=.agg cs/\cs.size=ti.sh.size:=by
    have J:=r1.1
    revert J hpr;cases ti.sh<;>simp[QY,Ys,Sh.size]
   have hxs:∀k,Qg (a.eval x) k=cs[k]?:=fun k=>by rw[hv];rfl
   obtain⟨v,hrun,J,hcv⟩:=Qtx (w:=w) (hT u.2 tj htj) (xs:=cs) (off:=u.1) (fun k hk=>by
    have:=Qfg hok r1.2 (u.1+k) (by omega)
    rw[hxs] at this;exact this)
   have hfd:∃fd,fields[n]? = some fd/\fd.offset=u.1/\fd.type=u.2:=by
    grind
   obtain⟨fd,hfd,hfo,hft⟩:=hfd;have hexec:(execOp a.eval o).run P w=.ok (.value v) w:=by
    simp[execOp,ho,hv,Instr.field,run_underlying u1,hfd,asAgg,hfo,hft,hrun]
   have hcell:∀k,k<tj.sh.size->Qg v k=Qm w ti.sh (Qg (a.eval x)) (fstep n (Nat.beq (n+1) fs.length)) k:=fun k hk=>by
    rw[hcv k hk,q5];show _=Qg (a.eval x) (u.1 - 0+k)
    rw[hxs,Nat.sub_zero]
   have hrv:∀{Sg:Nat->Prop},RepC P z.sh z.fl g.Z w Sg (Qm w ti.sh (Qg (a.eval x)) (fstep n (Nat.beq (n+1) fs.length))) z.x->RepV P z.sh z.fl g.Z w Sg v z.x:=fun hr=>
    ⟨hzs ▸ J,RepC.congr (fun k hk=>hcell k (hzs ▸ hk)) hr⟩
   cases hzz:z.fl.isz with
   | true=>
    simp only[hzz,aLB,aLb] at hs2;subst hs2;obtain rfl:e'=_:=hf;have hzf:=Qac hzz
    have:=hrv hget
    obtain⟨zs,zf,zx⟩:=z;simp only at hzf;subst hzf;exact .plain h hexec (RepV.shared this)
   | false=>
    simp only[hzz,aLC] at hs2;obtain⟨d,hd,hs2⟩:=aLa.1 hs2;simp only[aLb] at hs2;subst hs2;obtain rfl:e'=_:=hf;cases U:e.opd x with
    | bor r ver p=>
     rw[U] at hd hx I;simp only[aLb] at hd;subst hd;have hx:Qbq g e a w r ver p (a.eval x):=hx
     have I:e.look r ver p=some ⟨ti.sh,yfl,yx⟩:=I
     obtain⟨hver,S,F,X,hdr,hg⟩:=h.look I;refine .value hexec (Q7 h o.dst rfl (T:=Tx) ⟨by rw[QtY];exact hx.1,fun _ S' F' X' hdr'=>?_⟩)
     rw[hdr] at hdr';obtain⟨rfl,rfl,hX⟩:=ZR hdr';subst hX;obtain⟨hpo,hcl⟩:=hx.2 hver S F X hdr;refine⟨QiW p (ZE p hg) hpo q4,fun hn s2 hs3=>?_⟩
     rw[Qld p (ZE p hg),q3] at hs3;simp only[aLb] at hs3;subst hs3;refine⟨J,fun k hk=>?_⟩
     obtain⟨_,hcl2⟩:=hcl (Qgu p hn) _ (ZE p hg);rw[Qe0 p (ZE p hg),hcv k hk,q5]
     grind
    | v s' f' x'=>
     rw[U] at hd hx I;simp only[Env.val,aLb,Dv.mk.injEq] at I;obtain⟨rfl,rfl,hX⟩:=I;have hX:=eq_of_heq hX
     subst hX;simp only at hd;cases hsl:x.slot with
     | none=>rw[hsl] at hd;simp at hd
     | some t'=>
      rw[hsl] at hd;simp only[aMn,aLb] at hd;subst hd;obtain⟨h1,h2,h3⟩:=hxt t' hsl;rw[U] at h1;refine .value hexec (Q7 h o.dst rfl (T:=Tx) ⟨by simp only[Cel.stampB,QjH,aLB];exact aMb _,fun _ S' F' X' hdr'=>?_⟩)
      rw[show (e.root (.s t')).d=_ from h1] at hdr'
      obtain⟨rfl,rfl,hX⟩:=ZR hdr';subst hX;refine⟨q4 _,fun _ s2 hs3=>?_⟩
      rw[q3] at hs3;simp only[aLb] at hs3;subst hs3;refine⟨J,fun k hk=>?_⟩
      rw[hcell k hk];simp only[Ql,h2]
    | dead=>rw[U] at I;simp[Env.val] at I
    | und=>rw[U] at I;simp[Env.val] at I
    | nil=>rw[U] at I;simp[Env.val] at I
    | loc r ver p=>rw[U] at I;simp[Env.val] at I
    | rp s x=>rw[U] at I;simp[Env.val] at I
    | rpp s x=>rw[U] at I;simp[Env.val] at I
    | clos j c=>rw[U] at I;simp[Env.val] at I
    | tup l=>rw[U] at I;simp[Env.val] at I
 ·cases hs
end Go.Dx
namespace Go.Dx
variable {P:Program} {B:Base} {g:Gh} {e:Env} {a:Act} {w:World} {C:Ctx}
theorem Qqq (w:World) {at_:Array TypeId} (t ty e:TypeId) (hat0:at_[0]? = some t) (hat1:at_[1]? = some t) (i:TypeInfo) (ht:P.underlying t=some (.slice e)) (hi:P.info? e=some i)
  (b off I J:Nat) (cur:Array Value) (te:TypeId) (hg:w.heap[b]? = some (.cells cur te (0,0))) (v2:Value) (m:Nat) (hl2:Builtin.lenOf v2=pure m) (news:List Value) (hf:(Builtin.firstCells i.size m v2).run P w=.ok news.toArray w)
  (h1:∀u ∈ news,u.oneCell'=true) (U:I+m<=J) (hfit:off+I * i.size+news.length<=cur.size) :
  (Builtin.append_ at_ ty #[.slice (some ⟨b,off,none⟩) I J,v2]).run P w =
   .ok (.slice (some ⟨b,off,none⟩) (I+m) J) (w.setRow b (cur.toList.take (off+I * i.size)++news++cur.toList.drop (off+I * i.size+news.length)).toArray):=by
 have hst:=run_storeCells_at (P:=P) b (off+I * i.size) te news 0 cur w hg (by simpa using hfit) h1
 simp[Builtin.append_,hat0,hat1,run_underlying ht,sizeOf,typeInfo,hi,hl2,U,hf,QbZ,hst]
theorem QpM (w:World) {at_:Array TypeId} (t ty e:TypeId) (U:at_[0]? = some t) (hat1:at_[1]? = some t) (i:TypeInfo) (z:Value) (ht:P.underlying t=some (.slice e)) (hi:P.info? e=some i) (hz:i.zero=some z)
  (A:Option Addr) (I J:Nat) (olds:List Value) (hfo:(Builtin.firstCells i.size I (.slice A I J)).run P w.drew=.ok olds.toArray w.drew)
  (v2:Value) (m:Nat) (hl2:Builtin.lenOf v2=pure m) (news:List Value) (hf:(Builtin.firstCells i.size m v2).run P w.drew=.ok news.toArray w.drew)
  (hg:J<I+m) (h63:((I+m:Nat):Int)<=9223372036854775807) (hfit:Builtin.nextslicecap (I+m) J * i.bytes<=281474976710656) :
  (Builtin.append_ at_ ty #[.slice A I J,v2]).run P w =
   .ok (.slice (some ⟨w.heap.size,0,none⟩) (I+m) (grownCap w (I+m) J e))
    (w.drew.alloc (.cells (olds++news++(Builtin.zeroCells z.cells (grownCap w (I+m) J e - (I+m))).toList).toArray e)):=by
 have hn:¬(I+m<=J):=by omega
 have h63':¬(9223372036854775807<((I:Int)+(m:Int))):=by omega
 have h48':¬(281474976710656<Builtin.nextslicecap (I+m) J * i.bytes):=by omega
 simp[Builtin.append_,U,hat1,run_underlying ht,sizeOf,typeInfo,zeroValue,hi,hz,hl2,hn,h63',h48',Question.forced,hf,hfo,newRow,grownCap];congr 2
 simp_all
theorem Qlp {s:Sh} {F:Fl} (U:okS s F=true) {Z:Nat->Prop} {Sx:Nat->Nat->Prop} {b off m cap:Nat} {ys:List s.den} (hm:ys.length=m) (hr:∀j (h:j<ys.length),RepC P s F Z w (Sx j) (Qd w b (off+j * s.size)) (ys[j]'h)) :
  ∃cs:List Value,cs.length=m * s.size/\(∀u ∈ cs,u.oneCell'=true)/\(∀k,k<m * s.size->cs[k]? = Qd w b off k)/\∀w':World,w'.heap=w.heap->(Builtin.firstCells s.size m (.slice (some ⟨b,off,none⟩) m cap)).run P w'=.ok cs.toArray w':=by
 let cs:List Value:=(List.range (m * s.size)).map fun k=>(Qd w b off k).getD undef
 have hlen:cs.length=m * s.size:=by simp[cs]
 have hone:∀k,k<m * s.size->∃u,Qd w b off k=some u/\u.oneCell'=true:=by
  intro k hk;have J:=Sh.size_pos s
  have hj:k / s.size<ys.length:=by rw[hm];exact Nat.div_lt_of_lt_mul (by rw[Nat.mul_comm];exact hk)
  obtain⟨u,hu,h1⟩:=cells_one U (hr _ hj) (k % s.size) (Nat.mod_lt _ J);refine⟨u,?_,h1⟩;rw[<-hu];simp[Qd];congr 2;have:=Nat.div_add_mod k s.size
  grind
 have I:∀k,k<m * s.size->cs[k]? = Qd w b off k:=by
  grind
 refine⟨cs,hlen,fun u hu=>?_,I,fun w' hw'=>?_⟩
 ·grind
 ·refine run_firstCells_some w' s.size m ⟨b,off,none⟩ m cap cs hlen (fun j v hv=>?_)
  have hj:j<m * s.size:=by have:=(aLy.1 hv).1;omega
  rw[I j hj] at hv;rw[QbZ,<-hv];simp[Qd,World.cell?,hw']
theorem QfT (z:Array Value) (n:Nat):(Builtin.zeroCells z n).size=n * z.size:=by simp[Builtin.zeroCells]
theorem QqR (hT:QR P C) (h:Rel P B g e a w) {t te:TypeId} {ti I:TI} (hti:C.ty t=some ti) (htd:ti.td=.slice te) (htj:C.ty te=some I) (hzok:I.td.zok=true) {ty:TypeId} {F:Fl} (hok:okS I.sh F=true)
  {at_:Array TypeId} (hat0:at_[0]? = some t) (hat1:at_[1]? = some t) {v1:Value} {xs:List I.sh.den} (hx:RepV P (.list I.sh) (.o F) g.Z w (g.S (.fl 0)) v1 xs) {A2:Option Addr} {c2:Nat} {ys:List I.sh.den}
  (hy:0<ys.length->∃b2 off2,A2=some ⟨b2,off2,none⟩/\∃t2:Nat->Nat,∀j (hj:j<ys.length),RepC P I.sh F g.Z w (fun i=>g.ow i=.fl 1/\t2 i=j) (Qd w b2 (off2+j * I.sh.size)) (ys[j]'hj))
  (hlim:xs.length+ys.length<=LIM) :
  ∃v' w' g',(Builtin.append_ at_ ty #[v1,.slice A2 ys.length c2]).run P w=.ok v' w'/\g'.pl=g.pl/\Rel P B g' e a w'/\RepV P (.list I.sh) (.o F) g'.Z w' (g'.S (.fl 0)) v' (xs++ys):=by
 obtain⟨hund,_⟩:=QfE hT hti htd;obtain⟨i,hi,hisz,hby,hby0,hzz⟩:=(hT te I htj).info;have hzero:i.zero=some (zeroV I.sh):=by
  revert hzz hzok;cases I.td<;>simp[TD.zok]
 have hpos:=Sh.size_pos I.sh
 have h1:v1.cells = #[v1]:=hx.1
 obtain⟨A,n,cap,e1,e2,e3,e4⟩:=hx.2;simp only[Qg,h1] at e1;simp at e1;subst e1;have e2:xs.length=n:=e2
 have hnew:∃news:List Value,news.length=ys.length * I.sh.size/\(∀u ∈ news,u.oneCell'=true)/\(∀w':World,w'.heap=w.heap->(Builtin.firstCells I.sh.size ys.length (.slice A2 ys.length c2)).run P w'=.ok news.toArray w')/\
   (0<ys.length->∃t2:Nat->Nat,∀j (hj:j<ys.length),RepC P I.sh F g.Z w (fun i=>g.ow i=.fl 1/\t2 i=j) (fun k=>news[j * I.sh.size+k]?) (ys[j]'hj)):=by
  rcases aMA ys.length with h0 | h0
  ·refine⟨[],by simp[h0],fun u hu=>(by cases hu),fun w' _=>?_,fun h=>by omega⟩
   rw[h0];cases A2 with
   | none=>exact run_firstCells_none w' _ _ _ _
   | some ad=>exact run_firstCells_some w' _ 0 ad 0 c2 [] (by simp) (fun j v hv=>by simp at hv)
  ·obtain⟨b2,off2,rfl,t2,hr⟩:=hy h0
   obtain⟨cs,c1,c3,c4,c5⟩:=Qlp hok (cap:=c2) rfl hr;refine⟨cs,c1,c3,c5,fun _=>⟨t2,fun j hj=>RepC.congr (fun k hk=>?_) (hr j hj)⟩⟩
   have U:j * I.sh.size+k<ys.length * I.sh.size:=by
    have:(j+1) * I.sh.size<=ys.length * I.sh.size:=aLq _ hj
    rw[aMq,aMF] at this;omega
   rw[c4 _ U];simp[Qd,aMh]
 obtain⟨news,n1,n2,n3,n4⟩:=hnew;have hbytes:(n+ys.length) * i.bytes<=140737488355328:=by
  have:(n+ys.length) * i.bytes<=1073741824 * 131072:=Nat.mul_le_mul (by rw[<-e2];exact hlim) hby
  omega
 have hn30:n+ys.length<=1073741824:=by rw[<-e2];exact hlim
 have holdc:∀(b off:Nat) (Sx:Nat->Nat->Prop),A=some ⟨b,off,none⟩->(∀j (h:j<xs.length),RepC P I.sh F g.Z w (Sx j) (Qd w b (off+j * I.sh.size)) (xs[j]'h))->
   ∃cs:List Value,cs.length=n * I.sh.size/\(∀k,k<n * I.sh.size->cs[k]? = Qd w b off k)/\∀w':World,w'.heap=w.heap->(Builtin.firstCells I.sh.size n (.slice A n cap)).run P w'=.ok cs.toArray w':=by
  rintro b off Sx rfl hr;obtain⟨cs,c1,_,c4,c5⟩:=Qlp hok (cap:=cap) e2 hr;exact⟨cs,c1,c4,c5⟩
 by_cases hroom:n+ys.length<=cap
 ·rcases e4 with ⟨rfl,rfl,rfl⟩ | ⟨b,off,arr,te',rfl,hS,hw,hsz,t1,hr⟩
  ·
   have h0:ys.length=0:=by omega
   have hys:ys=[]:=aMk h0
   subst hys;have hxs:xs=[]:=aMk e2
   subst hxs;have hf:=n3 w rfl
   rw[aLj,<-hisz] at hf;refine⟨.slice none 0 0,w,g,?_,rfl,h,hx⟩;have hnil:news=[]:=aMk (by simpa using n1)
   subst hnil;simp[Builtin.append_,hat0,hat1,run_underlying hund,sizeOf,typeInfo,hi,Builtin.lenOf,hf]
  ·
   have hfit:off+n * i.size+news.length<=arr.size:=by
    rw[hisz,n1];have:(n+ys.length) * I.sh.size<=cap * I.sh.size:=aLq _ hroom
    rw[aMq] at this;omega
   have hf:=n3 w rfl
   rw[<-hisz] at hf;have hrun:=Qqq w t ty te hat0 hat1 i hund hi b off n cap arr te' hw (.slice A2 ys.length c2) ys.length rfl news hf n2 hroom hfit
   rw[hisz] at hrun hfit;generalize J:(arr.toList.take (off+n * I.sh.size)++news++arr.toList.drop (off+n * I.sh.size+news.length)).toArray=arr' at hrun;have harr1:arr'.size=arr.size:=by subst J;simp;omega
   have harr2:∀k,k<off+n * I.sh.size->arr'[k]? = arr[k]?:=by
    intro k hk;subst J;simp only[List.getElem?_toArray];rw[aMm,aLu (by simp;omega),List.getElem?_take,if_pos hk];simp
   have harr3:∀k,k<news.length->arr'[off+n * I.sh.size+k]? = news[k]?:=by
    intro k hk;subst J;simp only[List.getElem?_toArray];rw[aMm,aLv (by simp;omega),aLu (by simp;omega)]
    simp only[aLn,aMo];congr 1;omega
   have hb0:g.ow b=.fl 0:=hS
   have hblk:=setRow_heap w b arr arr' te' (0,0) hw
   have hother:∀j,j ≠ b->(w.setRow b arr').heap[j]? = w.heap[j]?:=fun j hj=>setRow_other w b j arr' hj
   let ow':Nat->Tag:=fun j=>if g.ow j=.fl 1 then .fl 0 else g.ow j
   have k0:∀j,g.ow j=.fl 0->ow' j=.fl 0:=fun j hj=>by simp[ow',hj]
   have k1:∀j,g.ow j=.fl 1->ow' j=.fl 0:=fun j hj=>by simp[ow',hj]
   have kz:∀j,g.ow j=.fz->ow' j=.fz:=fun j hj=>by simp[ow',hj]
   have hrel:Rel P B ⟨ow',g.pl⟩ e a (w.setRow b arr'):=h.fly rfl (fun j _ hm=>⟨by simp[ow',hm 1],hother j fun hjb=>hm 0 (hjb ▸ hb0)⟩) ⟨rfl,rfl,rfl,by simp,aMb _⟩ (fun j hj=>by
    rw[setRow_size];refine h.lt j fun h0=>hj ?_
    simp[ow',h0])
   refine⟨_,_,⟨ow',g.pl⟩,hrun,rfl,hrel,rfl,some ⟨b,off,none⟩,n+ys.length,cap,rfl,by show (xs++ys).length=_;simp[e2],hroom,.inr ⟨b,off,arr',te',rfl,k0 b hb0,hblk,by omega,?_⟩⟩
   obtain⟨t2,hr2⟩:∃t2:Nat->Nat,∀j (hj:j<ys.length),RepC P I.sh F g.Z w (fun i=>g.ow i=.fl 1/\t2 i=j) (fun k=>news[j * I.sh.size+k]?) (ys[j]'hj):=by
    rcases aMA ys.length with h0 | h0
    ·exact⟨fun _=>0,fun j hj=>by omega⟩
    ·exact n4 h0
   refine⟨fun j=>if g.ow j=.fl 1 then n+t2 j else t1 j,fun j hj=>?_⟩
   have hj':j<(xs++ys).length:=hj
   by_cases hjn:j<xs.length
   ·have hge:(xs++ys)[j]'hj=xs[j]'hjn:=List.getElem_append_left hjn
    rw[hge];refine RepC.congr (fun k hk=>?_) ((hr j hjn).frame (w':=w.setRow b arr') kz (fun m hm=>⟨k0 m hm.1,hm.2.1,by
     have:g.ow m=.fl 0:=hm.1
     simp[this,hm.2.2]⟩) (fun m hm=>hother m ?_))
    ·have U:(j+1) * I.sh.size<=n * I.sh.size:=aLq _ (by omega)
     rw[aMq,aMF] at U;simp only[Qd,World.cell?,hblk,hw];exact harr2 _ (by omega)
    ·rcases hm with hm | hm
     ·exact hm.2.1
     ·rintro rfl;rw[show g.ow m=.fz from hm] at hb0;cases hb0
   ·have hjl:j - xs.length<ys.length:=by simp at hj';omega
    have hge:(xs++ys)[j]'hj=ys[j - xs.length]'hjl:=List.getElem_append_right (by omega)
    rw[hge];refine RepC.congr (fun k hk=>?_) ((hr2 _ hjl).frame (w':=w.setRow b arr') kz (fun m hm=>⟨k1 m hm.1,(fun hmb=>by rw[hmb,hb0] at hm;cases hm.1),by simp[hm.1,hm.2,e2];omega⟩) (fun m hm=>hother m ?_))
    ·have U:(j - xs.length+1) * I.sh.size<=ys.length * I.sh.size:=aLq _ (by omega)
     rw[aMq,aMF] at U;simp only[Qd,World.cell?,hblk];have hsplit:j * I.sh.size=n * I.sh.size+(j - xs.length) * I.sh.size:=by rw[<-aMq];congr 1;omega
     rw[show off+j * I.sh.size+k=off+n * I.sh.size+((j - xs.length) * I.sh.size+k) by omega]
     exact harr3 _ (by omega)
    ·rcases hm with hm | hm
     ·rintro rfl;rw[hm.1] at hb0;cases hb0
     ·rintro rfl;rw[show g.ow m=.fz from hm] at hb0;cases hb0
 ·
  have hg:cap<n+ys.length:=by omega
  have hfit:=growslice_fits (need:=n+ys.length) (old:=cap) (bytes:=i.bytes) hg hbytes
  have hsome:∃olds:List Value,olds.length=n * I.sh.size/\(∀w':World,w'.heap=w.heap->(Builtin.firstCells I.sh.size n (.slice A n cap)).run P w'=.ok olds.toArray w')/\
    ∃t1:Nat->Nat,∀j (hj:j<xs.length),RepC P I.sh F g.Z w (fun i=>g.ow i=.fl 0/\t1 i=j) (fun k=>olds[j * I.sh.size+k]?) (xs[j]'hj):=by
   rcases e4 with ⟨rfl,rfl,rfl⟩ | ⟨b,off,arr,te',rfl,hS,hw,hsz,t1,hr⟩
   ·exact⟨[],by simp,fun w' _=>run_firstCells_none w' _ _ _ _,fun _=>0,fun j hj=>by omega⟩
   ·obtain⟨cs,c1,c4,c5⟩:=holdc b off _ rfl hr
    refine⟨cs,c1,c5,t1,fun j hj=>RepC.congr (fun k hk=>?_) ((hr j hj).mono (fun _ h=>h) (fun m hm=>⟨hm.1,hm.2.2⟩))⟩
    have U:(j+1) * I.sh.size<=n * I.sh.size:=aLq _ (by omega)
    rw[aMq,aMF] at U;rw[c4 _ (by omega)]
    simp[Qd,aMh]
  obtain⟨olds,o1,o2,t1,hr⟩:=hsome;have hfo:=o2 w.drew rfl
  have hfn:=n3 w.drew rfl
  rw[<-hisz] at hfo hfn;have hrun:=QpM w t ty te hat0 hat1 i (zeroV I.sh) hund hi hzero A n cap olds hfo (.slice A2 ys.length c2) ys.length rfl news hfn hg (by omega) hfit
  have hge:=grownCap_ge w (n+ys.length) cap te
  generalize J:(olds++news++(Builtin.zeroCells (zeroV I.sh).cells (grownCap w (n+ys.length) cap te - (n+ys.length))).toList).toArray=arr' at hrun;generalize grownCap w (n+ys.length) cap te=gc at hrun hge J;have hzsz:(zeroV I.sh).cells.size=I.sh.size:=by rw[QcY];simp[ZQ]
  have harr1:arr'.size=gc * I.sh.size:=by
   subst J;simp only[List.size_toArray,aLi,aMo,QfT,hzsz,o1,n1,<-aMq];congr 1;omega
  have harr2:∀k,k<n * I.sh.size->arr'[k]? = olds[k]?:=by
   intro k hk;subst J;simp only[List.getElem?_toArray];rw[aMm,aLu (by omega)]
  have harr3:∀k,k<news.length->arr'[n * I.sh.size+k]? = news[k]?:=by
   intro k hk;subst J;simp only[List.getElem?_toArray];rw[aMm,aLv (by omega),aLu (by omega)]
   congr 1;omega
  have hN:∀j,g.ow j ≠ .none->j ≠ w.heap.size:=fun j hj=>Nat.ne_of_lt (h.lt j hj)
  let ow':Nat->Tag:=fun j=>if j=w.heap.size then .fl 0 else if g.ow j=.fl 1 then .fl 0 else g.ow j
  have k0:∀j,g.ow j=.fl 0->ow' j=.fl 0:=fun j hj=>by simp[ow',hj]
  have k1:∀j,g.ow j=.fl 1->ow' j=.fl 0:=fun j hj=>by simp[ow',hj]
  have kz:∀j,g.ow j=.fz->ow' j=.fz:=fun j hj=>by simp[ow',hj,hN j (by rw[hj];simp)]
  have hheap:∀j,j ≠ w.heap.size->(w.drew.alloc (.cells arr' te)).heap[j]? = w.heap[j]?:=fun j hj=>by
   rw[Yu,if_neg (by simpa using hj)];rfl
  have hblk:(w.drew.alloc (.cells arr' te)).heap[w.heap.size]? = some (.cells arr' te (0,0)):=by rw[Yu,if_pos (by simp)]
  have hrel:Rel P B ⟨ow',g.pl⟩ e a (w.drew.alloc (.cells arr' te)):=h.fly rfl (fun j hj hm=>⟨by simp[ow',hm 1,Nat.ne_of_lt hj],hheap j (Nat.ne_of_lt hj)⟩) ⟨rfl,rfl,rfl,by show w.heap.size<=(w.heap.push _).size;simp,Nat.le_succ _⟩ (fun j hj=>by
   show j<(w.heap.push _).size
   rw[Array.size_push];by_cases hjN:j=w.heap.size
   ·omega
   ·have:g.ow j ≠ .none:=fun h0=>hj (by simp[ow',h0,hjN])
    have:=h.lt j this;omega)
  refine⟨_,_,⟨ow',g.pl⟩,hrun,rfl,hrel,rfl,some ⟨w.heap.size,0,none⟩,n+ys.length,gc,rfl,by show (xs++ys).length=_;simp[e2],hge,.inr ⟨w.heap.size,0,arr',te,rfl,by show ow' w.heap.size=.fl 0;simp[ow'],hblk,by omega,?_⟩⟩
  obtain⟨t2,hr2⟩:∃t2:Nat->Nat,∀j (hj:j<ys.length),RepC P I.sh F g.Z w (fun i=>g.ow i=.fl 1/\t2 i=j) (fun k=>news[j * I.sh.size+k]?) (ys[j]'hj):=by
   rcases aMA ys.length with h0 | h0
   ·exact⟨fun _=>0,fun j hj=>by omega⟩
   ·exact n4 h0
  refine⟨fun j=>if g.ow j=.fl 1 then n+t2 j else t1 j,fun j hj=>?_⟩
  have hj':j<(xs++ys).length:=hj
  have hcell:∀k,Qd (w.drew.alloc (.cells arr' te)) w.heap.size (0+j * I.sh.size) k=arr'[j * I.sh.size+k]?:=fun k=>by
   simp only[Qd,World.cell?,hblk,aMf];rfl
  by_cases hjn:j<xs.length
  ·have hgx:(xs++ys)[j]'hj=xs[j]'hjn:=List.getElem_append_left hjn
   rw[hgx];refine RepC.congr (fun k hk=>?_) ((hr j hjn).frame (w':=w.drew.alloc (.cells arr' te)) kz (fun m hm=>⟨k0 m hm.1,hN m (by rw[hm.1];simp),by simp[hm.1,hm.2]⟩) (fun m hm=>hheap m (hN m ?_)))
   ·have U:(j+1) * I.sh.size<=n * I.sh.size:=aLq _ (by omega)
    rw[aMq,aMF] at U;rw[hcell,harr2 _ (by omega)]
   ·rcases hm with hm | hm
    ·rw[hm.1];simp
    ·rw[show g.ow m=.fz from hm];simp
  ·have hjl:j - xs.length<ys.length:=by simp at hj';omega
   have hgx:(xs++ys)[j]'hj=ys[j - xs.length]'hjl:=List.getElem_append_right (by omega)
   rw[hgx];refine RepC.congr (fun k hk=>?_) ((hr2 _ hjl).frame (w':=w.drew.alloc (.cells arr' te)) kz (fun m hm=>⟨k1 m hm.1,hN m (by rw[hm.1];simp),by simp[hm.1,hm.2,e2];omega⟩) (fun m hm=>hheap m (hN m ?_)))
   ·have U:(j - xs.length+1) * I.sh.size<=ys.length * I.sh.size:=aLq _ (by omega)
    rw[aMq,aMF] at U;have hsplit:j * I.sh.size=n * I.sh.size+(j - xs.length) * I.sh.size:=by rw[<-aMq];congr 1;omega
    rw[hcell,show j * I.sh.size+k=n * I.sh.size+((j - xs.length) * I.sh.size+k) by omega]
    exact harr3 _ (by omega)
   ·rcases hm with hm | hm
    ·rw[hm.1];simp
    ·rw[show g.ow m=.fz from hm];simp
end Go.Dx
namespace Go.Dx
variable {P:Program} {B:Base} {g:Gh} {e:Env} {a:Act} {w:World} {C:Ctx}
theorem QsX {s:Sh} {F:Fl} {Z:Nat->Prop} {c:Nat->Option Value} {x:s.den} (hw:Qq s .z F=true) (h:RepC P s .z Z w QP c x) {S:Nat->Prop}:RepC P s F Z w S c x:=by
 obtain⟨T,I,J⟩:=RepC.weak hw h;exact J.mono (fun i hi=>hi.elim id (fun h=>(I i h).elim)) (fun i hi=>hi.1.elim)
theorem step_append (hT:QR P C) (h:Rel P B g e a w) {frz:Fz} {o:Oper} {x y:Operand} {at_:Array TypeId} (ho:o.op=.call { callee:=.builtin .append,args:=#[x,y],argTypes:=at_ }) {f:Eff} {e':Env} (J:Qn C frz e o=some f) (hf:f.gives e'):QD P B a w o e':=by
 obtain⟨g0,_,hcl,h0⟩:=h.clean;clear h;simp only[Qn,ho,Qgb,aLa] at J;obtain⟨t0,hat0,t1,hat1,ti,hti,J⟩:=J;split at J
 ·rename_i te s htd hsh
  obtain⟨hund,tj',htj',hsh'⟩:=QfE hT hti htd;replace J:=aLa.1 J;obtain⟨tj,htj,J⟩:=J;rw[htj] at htj';simp only[aLb] at htj';subst htj';rw[hsh] at hsh';simp only[Sh.list.injEq] at hsh';subst hsh';cases hc:Nat.beq t1 t0&&tj.td.zok with
  | false=>rw[hc] at J;cases J
  | true=>
   rw[hc,aLB] at J;simp only[aLg] at hc;obtain⟨htt,hzok⟩:=hc;have htt:=aLw htt
   subst htt;replace J:=aLa.1 J;obtain⟨⟨e1,y1⟩,htake,J⟩:=J;replace J:=aLa.1 J;obtain⟨xs,hxs,J⟩:=J;obtain⟨Tx,hx,hxt,_⟩:=QC h0 x;obtain⟨g1,hfl1,h1,hr1⟩:=Qee h0 0 (fun i=>hcl i 0) hx hxt htake
   have hsx:=ZK hxs
   obtain⟨ysh,yfl,yx⟩:=y1;simp only[aMy] at hsx;obtain⟨rfl,hsx⟩:=hsx;have hsx:=eq_of_heq hsx
   subst hsx;simp only at J hr1;split at J
   ·rename_i f0
    replace J:=aLa.1 J;obtain⟨⟨e2,fy,ys⟩,I,J⟩:=J;simp only at J;cases hw:Qq tj.sh f0 (f0.meet fy)&&Qq tj.sh fy (f0.meet fy)&&okS tj.sh (f0.meet fy) with
    | false=>rw[hw] at J;cases J
    | true=>
     rw[hw,aLB] at J;simp only[aLb] at J;subst J;obtain⟨hlim,rfl⟩:=hf;simp only[aLg] at hw;obtain⟨⟨hw1,hw2⟩,hok⟩:=hw;generalize f0.meet fy=F at hw1 hw2 hok ⊢;have hlim:List.length yx+List.length ys<=LIM:=by simpa using hlim
     obtain⟨Ty,hy,hyt,_⟩:=QC h1 y;have hno1:∀i,g1.ow i ≠ .fl 1:=fun i=>by
      rcases hfl1.ow i with h2 | ⟨h2,_⟩
      ·rw[h2];exact hcl i 1
      ·rw[h2];simp
     have key:∃g2,g2.pl=g1.pl/\Rel P B g2 e2 a w/\RepV P (.list tj.sh) (.o f0) g2.Z w (g2.S (.fl 0)) (a.eval x) yx/\∃A2 c2,a.eval y=.slice A2 (List.length ys) c2/\
       (0<List.length ys->∃b2 U,A2=some ⟨b2,U,none⟩/\∃t2:Nat->Nat,∀j (hj:j<List.length ys),RepC P tj.sh F g2.Z w (fun i=>g2.ow i=.fl 1/\t2 i=j) (Qd w b2 (U+j * tj.sh.size)) (ys[j]'hj)):=by
      have shared:∀{u:Dv} {ff:Fl},e1.val (e1.opd y)=some u->∀zs,asS ⟨u.sh,u.x⟩ (.list tj.sh)=some zs->(u.fl=.z\/u.fl=.o .z)->fy=.z->ys=zs->e2=e1->∃g2,g2.pl=g1.pl/\Rel P B g2 e2 a w/\RepV P (.list tj.sh) (.o f0) g2.Z w (g2.S (.fl 0)) (a.eval x) yx/\∃A2 c2,a.eval y=.slice A2 (List.length ys) c2/\
       (0<List.length ys->∃b2 U,A2=some ⟨b2,U,none⟩/\∃t2:Nat->Nat,∀j (hj:j<List.length ys),RepC P tj.sh F g2.Z w (fun i=>g2.ow i=.fl 1/\t2 i=j) (Qd w b2 (U+j * tj.sh.size)) (ys[j]'hj)):=by
       rintro ⟨ush,ufl,ux⟩ ff hv zs hzs hufl rfl rfl rfl;have hsz:=ZK hzs
       simp only[aMy] at hsz;obtain⟨rfl,hsz⟩:=hsz;have hsz:=eq_of_heq hsz
       subst hsz;simp only at hufl;obtain⟨S2,r2,_⟩:=QgA h1 hy hv (by rcases hufl with hh | hh<;>rw[hh]<;>simp)
       refine⟨g1,rfl,h1,hr1,?_⟩;have hc1:(a.eval y).cells = #[a.eval y]:=r2.1
       rcases hufl with rfl | rfl
       ·obtain⟨A,n,cap,q1,q2,q3,q4⟩:=r2.2
        simp only[Qg,hc1] at q1;simp at q1;have q2:List.length ux=n:=q2
        refine⟨A,cap,by rw[q1,q2],fun hn=>?_⟩
        obtain⟨b,off,hA,_,hr⟩:=q4 (by rw[<-q2];exact hn)
        exact⟨b,off,hA,fun _=>0,fun j hj=>QsX hw2 (hr j hj)⟩
       ·obtain⟨A,n,cap,q1,q2,q3,q4⟩:=r2.2
        simp only[Qg,hc1] at q1;simp at q1;have q2:List.length ux=n:=q2
        refine⟨A,cap,by rw[q1,q2],fun hn=>?_⟩
        rcases q4 with ⟨_,q5,_⟩ | ⟨b,off,arr,e3,hA,_,_,_,t3,hr⟩
        ·omega
        ·exact⟨b,off,hA,fun _=>0,fun j hj=>QsX hw2 (RepC.shared (hr j hj))⟩
      split at I
      ·rename_i hyd
       simp only[aLb,aLe] at I;obtain⟨rfl,rfl,rfl⟩:=I;rw[hyd] at hy;exact⟨g1,rfl,h1,hr1,none,0,hy,fun hn=>by simp at hn⟩
      ·replace I:=aLa.1 I;obtain⟨u,hu,I⟩:=I
       replace I:=aLa.1 I;obtain⟨zs,hzs,I⟩:=I;split at I
       ·rename_i huf
        simp only[aLb,aLe] at I;obtain⟨rfl,rfl,rfl⟩:=I;exact shared (ff:=.z) hu zs hzs (.inl huf) rfl rfl rfl
       ·rename_i huf
        simp only[aLb,aLe] at I;obtain⟨rfl,rfl,rfl⟩:=I;exact shared (ff:=.z) hu zs hzs (.inr huf) rfl rfl rfl
       ·replace I:=aLa.1 I;obtain⟨⟨e3,y3⟩,htake2,I⟩:=I
        replace I:=aLa.1 I;obtain⟨ws,hws,I⟩:=I;split at I
        ·rename_i gg hgg
         simp only[aLb,aLe] at I;obtain⟨rfl,rfl,rfl⟩:=I;obtain⟨g2,hfl2,h2,hr2⟩:=Qee h1 1 hno1 hy hyt htake2;have hsz:=ZK hws
         obtain⟨ush,ufl,ux⟩:=y3;simp only[aMy] at hsz;obtain⟨rfl,hsz⟩:=hsz;have hsz:=eq_of_heq hsz
         subst hsz;simp only at hgg hr2;subst hgg;have hr1':RepV P (.list tj.sh) (.o f0) g2.Z w (g2.S (.fl 0)) (a.eval x) yx:=hr1.frame (fun i hi=>by
          rcases hfl2.ow i with h3 | ⟨_,h4⟩
          ·exact h3.trans hi
          ·rw[show g1.ow i=.fz from hi] at h4;simp at h4) (fun i hi=>by
          rcases hfl2.ow i with h3 | ⟨_,h4⟩
          ·exact h3.trans hi
          ·rw[show g1.ow i=.fl 0 from hi] at h4;simp at h4) (fun _ _=>rfl)
         obtain⟨g3,hpl3,how3,h3,hr3⟩:=Qhj h2 (f':=.o F) (by simpa [Qq] using hw2) hr2
         refine⟨g3,hpl3.trans hfl2.pl,h3,hr1'.frame (fun i hi=>?_) (fun i hi=>?_) (fun _ _=>rfl),?_⟩
         ·rcases how3 i with h4 | ⟨h4,_⟩
          ·exact h4.trans hi
          ·rw[show g2.ow i=.fz from hi] at h4;cases h4
         ·rcases how3 i with h4 | ⟨h4,_⟩
          ·exact h4.trans hi
          ·rw[show g2.ow i=.fl 0 from hi] at h4;simp at h4
         ·have hc1:(a.eval y).cells = #[a.eval y]:=hr3.1
          obtain⟨A,n,cap,q1,q2,q3,q4⟩:=hr3.2;simp only[Qg,hc1] at q1;simp at q1;have q2:List.length ux=n:=q2
          refine⟨A,cap,by rw[q1,q2],fun hn=>?_⟩
          rcases q4 with ⟨_,q5,_⟩ | ⟨b,off,arr,e4,hA,_,_,_,t3,hr⟩
          ·omega
          ·exact⟨b,off,hA,t3,fun j hj=>(hr j hj).mono (fun _ h=>h) (fun m hm=>⟨hm.1,hm.2.2⟩)⟩
        ·cases I
       ·cases I
     obtain⟨g2,hpl2,h2,hr2,A2,c2,hyv,helem⟩:=key;obtain⟨g3,hpl3,how3,h3,hr3⟩:=Qhj h2 (f':=.o F) (by simpa [Qq] using hw1) hr2
     have helem3:0<List.length ys->∃b2 U,A2=some ⟨b2,U,none⟩/\∃t2:Nat->Nat,∀j (hj:j<List.length ys),RepC P tj.sh F g3.Z w (fun i=>g3.ow i=.fl 1/\t2 i=j) (Qd w b2 (U+j * tj.sh.size)) (ys[j]'hj):=by
      intro hn;obtain⟨b2,U,hA,t2,hr⟩:=helem hn;refine⟨b2,U,hA,t2,fun j hj=>(hr j hj).mono (fun i hi=>?_) (fun i hi=>⟨?_,hi.2⟩)⟩
      ·rcases how3 i with h4 | ⟨h4,_⟩
       ·exact h4.trans hi
       ·rw[show g2.ow i=.fz from hi] at h4;cases h4
      ·rcases how3 i with h4 | ⟨h4,_⟩
       ·exact h4.trans hi.1
       ·rw[hi.1] at h4;simp at h4
     obtain⟨v',w',g4,hrun,hpl4,h4,hr4⟩:=QqR (ty:=o.type) hT h3 hti htd htj hzok hok hat0 hat1 hr3 (c2:=c2) helem3 hlim;rw[<-hyv] at hrun;obtain⟨g5,_,_,h5⟩:=h4.dst 0 o.dst (d:=.v (.list tj.sh) (.o F) (yx++ys)) hr4;exact .value (v:=v') (by simp[execOp,ho,resolve,invoke,builtin,hrun]) ⟨g5,h5⟩
   ·cases J
 ·cases J
end Go.Dx
namespace Go.Dx
variable {P:Program} {B:Base} {g:Gh} {e:Env} {a:Act} {w:World} {C:Ctx}
theorem QfQ {α:Type} (i j:Nat) (x:α) (l:List (Nat×α)):assoc i ((j,x)::l)=if j=i then some x else assoc i l:=by
 simp only[assoc]
 simp_all
theorem QpU {place:Nat->Option (Nat×Nat)} (hdis:∀i j o s U s',i ≠ j->place i=some (o,s)->place j=some (U,s')->o+s<=U\/U+s'<=o) :
  ∀(parts:List (Nat×Value)) (cells:Array Value),(∀p,p ∈ parts->∃o s,place p.1=some (o,s)/\p.2.cells.size=s/\o+s<=cells.size)->Qdb parts=true->
  ∃r,Instr.fill place cells parts=some r/\r.size=cells.size/\∀i o s,place i=some (o,s)->∀k,k<s->o+s<=cells.size->r[o+k]? = match assoc i parts with | some v=>v.cells[k]? | none=>cells[o+k]?:=by
 intro parts;induction parts with
 | nil=>intro cells _ _;exact⟨cells,rfl,rfl,fun i o s _ k _ _=>by simp[assoc]⟩
 | cons p rest ih=>
  intro cells hp ho;obtain⟨i0,v0⟩:=p;simp[Qdb,aLg] at ho;obtain⟨o0,s0,h0,h1,h2⟩:=hp (i0,v0) aLm;simp only at h0 h1 h2;obtain⟨f1,f2⟩:=Great.foldl_set o0 v0.cells.toList 0 cells;generalize hc1:(v0.cells.toList.zipIdx 0).foldl (fun cs (x:Value×Nat)=>cs.setIfInBounds (o0+x.2) x.1) cells=I at f1 f2
  obtain⟨r,hr,hsz,J⟩:=ih I (fun q hq=>by
   obtain⟨o,s,q1,q2,q3⟩:=hp q (aLp _ hq);exact⟨o,s,q1,q2,by rw[f1];exact q3⟩) ho.2
  refine⟨r,?_,hsz.trans f1,fun i o s hi k hk hle=>?_⟩
  ·unfold Instr.fill
   simp only[h0];rw[if_neg (by simp;omega),<-hr,<-hc1]
   rw[<-Array.foldl_toList,Array.toList_zipIdx]
  ·rw[J i o s hi k hk (by rw[f1];exact hle),QfQ]
   grind
theorem QhW {α β:Type} (f:α->β) (i:Nat):∀(l:List (Nat×α)),assoc i (l.map fun p=>(p.1,f p.2))=(assoc i l).map f
 | []=>rfl
 | (j,x)::l=>by
  rw[aMJ,QfQ,QfQ,QhW f i l]
  grind
theorem QkB {α β:Type} (f:α->β):∀(l:List (Nat×α)),Qdb (l.map fun p=>(p.1,f p.2))=Qdb l
 | []=>rfl
 | (j,x)::l=>by
  simp only[aMJ,Qdb,QhW,QkB f l]
  simp_all
theorem Qka {α:Type}:∀{l:List (Nat×α)} {p:Nat×α},Qdb l=true->p ∈ l->assoc p.1 l=some p.2
 | (j,y)::l,p,ho,h=>by
  simp[Qdb] at ho;rcases List.mem_cons.1 h with h | h
  ·subst h;rw[QfQ,if_pos rfl]
  ·have:=Qka ho.2 h
   rw[QfQ,if_neg,this]
   grind
def Qdj (a:Act) (parts:List (Nat×Operand)) (s:Sh) (i:Nat):Value:=match assoc i parts with | some o=>a.eval o | none=>zeroV s
structure Fly (g g':Gh) (i:Nat):Prop where
 pl:g'.pl=g.pl
 ow:∀j,g'.ow j=g.ow j\/((∃m,i<=m/\g'.ow j=.fl m)/\((∃n,g.ow j=.s n)\/∃n,g.ow j=.b n))
theorem Fly.keep {g g':Gh} {i:Nat} (h:Fly g g' i) {j:Nat} {t:Tag} (hj:g.ow j=t) (h1:∀n,t ≠ .s n) (h2:∀n,t ≠ .b n):g'.ow j=t:=by
 rcases h.ow j with h3 | ⟨_,h3⟩
 ·simp_all
 simp_all
theorem Fly.rep {g g':Gh} {i:Nat} (h:Fly g g' i) {s:Sh} {f:Fl} {v:Value} {x:s.den} {k:Nat} (I:RepV P s f g.Z w (g.S (.fl k)) v x):RepV P s f g'.Z w (g'.S (.fl k)) v x:=
 I.frame (fun j hj=>h.keep hj (by simp) (by simp)) (fun j hj=>h.keep hj (by simp) (by simp)) (fun _ _=>rfl)
theorem Fly.trans {g g' I:Gh} {i:Nat} (h:Fly g g' i) (k:Fly g' I (i+1)):Fly g I i:=by
 refine⟨k.pl.trans h.pl,fun j=>?_⟩
 rcases k.ow j with h1 | ⟨⟨m,hm,h1⟩,h2⟩
 ·rcases h.ow j with h3 | ⟨⟨m,hm,h3⟩,h4⟩
  ·simp_all
  simp_all
 ·rcases h.ow j with h3 | ⟨⟨U,J,h3⟩,h4⟩
  ·grind
  simp_all
theorem Flight.fly {g g':Gh} {k:Nat} (h:Flight g g' k):Fly g g' k:=⟨h.pl,fun j=>(h.ow j).imp id fun h=>⟨⟨k,aMb _,h.1⟩,h.2⟩⟩
theorem QnB (h:Rel P B g e a w) {i:Nat} (J:∀j,g.ow j ≠ .fl i) {parts:List (Nat×Operand)} {s:Sh} {q:Env×Dv} (I:(match assoc i parts with | some o=>e.take o.slot s (e.opd o) | none=>some (e,⟨s,Fl.full s,s.dflt⟩))=some q) {x:s.den} (hx:asS ⟨q.2.sh,q.2.x⟩ s=some x) :
  ∃g',Flight g g' i/\Rel P B g' q.1 a w/\RepV P s q.2.fl g'.Z w (g'.S (.fl i)) (Qdj a parts s i) x:=by
 unfold Qdj;split at I
 ·rename_i o ho
  obtain⟨e1,y⟩:=q;obtain⟨T,hd,ht,_⟩:=QC h o;obtain⟨g1,hfl,hrel,hrep⟩:=Qee h i J hd ht I;have U:=ZK hx
  grind
 ·rename_i ho
  simp at I;subst I;have U:=ZK hx
  simp at U;subst U;exact⟨g,Flight.refl g i,h,by simpa [ho] using Qok s⟩
theorem Qvq {parts:List (Nat×Operand)} {s:Sh}:∀(n i:Nat) {e e':Env} {g:Gh} {l:List (Fl×s.den)},Rel P B g e a w->(∀j m,i<=m->g.ow j ≠ .fl m)->Qey e s parts i n=some (e',l)->
  ∃g',Fly g g' i/\Rel P B g' e' a w/\l.length=n/\∀j (hj:j<l.length),RepV P s (l[j]'hj).1 g'.Z w (g'.S (.fl (i+j))) (Qdj a parts s (i+j)) (l[j]'hj).2:=by
 intro n;induction n with
 | zero=>
  intro i e e' g l h _ I;obtain⟨rfl,rfl⟩:=I;exact⟨g,(Flight.refl g i).fly,h,rfl,fun j hj=>by simp at hj⟩
 | succ n ih=>
  intro i e e' g l h hno I;simp only[Qey,aLa,aLd] at I;obtain⟨q,hq,x,hx,⟨e2,l2⟩,hl2,I⟩:=I;simp at I;obtain⟨rfl,rfl⟩:=I;obtain⟨g1,J,h1,hr1⟩:=QnB h (fun j=>hno j i (aMb _)) hq hx
  obtain⟨g2,U,h2,hlen,hr2⟩:=ih (i+1) h1 (fun j m hm=>by
   intro hj;rcases J.ow j with h3 | ⟨h3,h4⟩
   ·grind
   ·have:=h3.symm.trans hj
    simp[Tag.fl.injEq] at this;omega) hl2
  refine⟨g2,J.fly.trans U,h2,by simp[hlen],fun j hj=>?_⟩
  cases j with
  | zero=>exact U.rep hr1
  | succ j=>
   grind
theorem Qu6 {s:Sh} {F:Fl} (h:Rel P B g e a w) {vs:Nat->Value} {l:List (Fl×s.den)} (hw:∀u,u ∈ l->Qq s u.1 F=true) (hr:∀j (hj:j<l.length),RepV P s (l[j]'hj).1 g.Z w (g.S (.fl j)) (vs j) (l[j]'hj).2) :
  ∀p,p<=l.length->∃g',g'.pl=g.pl/\Rel P B g' e a w/\(∀j,g'.ow j=g.ow j\/(∃m,m<p/\g.ow j=.fl m/\g'.ow j=.fz))/\∀j (hj:j<p) (J:j<l.length),RepV P s F g'.Z w (g'.S (.fl j)) (vs j) (l[j]'J).2:=by
 intro p;induction p with
 | zero=>grind
 | succ p ih=>
  intro hp;obtain⟨g1,hpl,h1,how,hr1⟩:=ih (by omega)
  have hz:∀j,g.ow j=.fz->g1.ow j=.fz:=fun j hj=>by
   grind
  have hpp:RepV P s (l[p]'(by omega)).1 g1.Z w (g1.S (.fl p)) (vs p) (l[p]'(by omega)).2:=(hr p (by omega)).frame hz (fun j hj=>by
   rcases how j with h2 | ⟨m,hm,h2,_⟩
   ·exact h2.trans hj
   ·rw[show g.ow j=.fl p from hj] at h2;simp only[Tag.fl.injEq] at h2;omega) (fun _ _=>rfl)
  obtain⟨g2,U,I,h2,hr2⟩:=Qhj h1 (hw _ (aLl _)) hpp;refine⟨g2,U.trans hpl,h2,fun j=>?_,fun j hj J=>?_⟩
  ·grind
  ·by_cases hjp:j=p
   ·subst hjp;exact hr2
   ·refine (hr1 j (by omega) J).frame (fun m hm=>?_) (fun m hm=>?_) (fun _ _=>rfl)
    ·rcases I m with h3 | ⟨h3,h4⟩
     ·exact h3.trans hm
     ·exact h4
    ·rcases I m with h3 | ⟨h3,h4⟩
     ·exact h3.trans hm
     ·rw[show g1.ow m=.fl j from hm] at h3;simp at h3;exact absurd h3 hjp
theorem QnU {s:Sh} {v:Value} (h:Ys s v):v.cells.size=s.size:=by
 cases s with
 | prod a b=>obtain⟨cs,rfl,I⟩:=h;exact I
 | _=>rw[show v.cells = #[v] from h];rfl
theorem Qms (hT:QR P C) (h:Rel P B g e a w) {frz:Fz} {o:Oper} {t:TypeId} {n:Nat} {ps:Array (Nat×Operand)} (ho:o.op=.buildSlice t n ps) {f:Eff} {e':Env} (J:Qn C frz e o=some f) (hf:f.gives e'):QD P B a w o e':=by
 obtain⟨g0,_,hcl,h0⟩:=h.clean;clear h;simp only[Qn,ho,aLa] at J;obtain⟨ti,hti,J⟩:=J;split at J
 ·rename_i te s htd hsh
  obtain⟨hund,tj',U,hsh'⟩:=QfE hT hti htd;replace J:=aLa.1 J;obtain⟨I,htj,J⟩:=J;rw[htj] at U;simp only[aLb] at U;subst U;rw[hsh] at hsh';simp only[Sh.list.injEq] at hsh';subst hsh';cases hc:I.td.zok&&Qdb ps.toList&&ps.toList.all (fun p=>Nat.blt p.1 n)&&Nat.ble (n * I.sh.size) 16777216 with
  | false=>rw[hc] at J;cases J
  | true=>
   rw[hc,aLB] at J;simp only[aLg,List.all_eq_true] at hc;obtain⟨⟨⟨hzok,honce⟩,hall⟩,hble⟩:=hc;have hble:=Nat.le_of_ble_eq_true hble
   replace J:=aLa.1 J;obtain⟨⟨e1,l⟩,hel,J⟩:=J;simp only at J;generalize List.foldr (fun u f=>Fl.meet u.1 f) (Fl.full I.sh) l=F at J
   cases hw:l.all (fun u=>Qq I.sh u.1 F) with
   | false=>rw[hw] at J;cases J
   | true=>
    rw[hw,aLB] at J;simp only[aLb] at J;subst J;obtain rfl:e'=_:=hf;simp only[List.all_eq_true] at hw;obtain⟨g1,hf1,h1,hlen,hr1⟩:=Qvq (s:=I.sh) n 0 h0 (fun j m _=>hcl j m) hel
    simp only[aMf] at hr1;obtain⟨g2,hpl2,h2,how2,hr2⟩:=Qu6 h1 hw hr1 l.length (aMb _);obtain⟨i,hi,hisz,hby,hby0,hzz⟩:=(hT te I htj).info;have hzero:i.zero=some (zeroV I.sh):=by
     revert hzz hzok;cases I.td<;>simp[TD.zok]
    have hpos:=Sh.size_pos I.sh
    have hfill:=QpU (place:=fun i=>some (i * I.sh.size,I.sh.size)) (fun i j o s o' s' hij h1 h2=>by
      simp only[aLb,aLe] at h1 h2;obtain⟨rfl,rfl⟩:=h1;obtain⟨rfl,rfl⟩:=h2;rcases Nat.lt_or_gt_of_ne hij with h3 | h3
      ·left
       have:(i+1) * I.sh.size<=j * I.sh.size:=aLq _ h3
       rwa [aMq,aMF] at this
      ·right
       have:(j+1) * I.sh.size<=i * I.sh.size:=aLq _ h3
       rwa [aMq,aMF] at this)
     (ps.toList.map fun p=>(p.1,a.eval p.2)) (madeCells (zeroV I.sh).cells (n * I.sh.size)) (fun p hp=>by
      obtain⟨p0,hp0,rfl⟩:=List.mem_map.1 hp;have hlt:p0.1<n:=QdB (hall p0 hp0)
      refine⟨_,_,rfl,?_,?_⟩
      ·have:=(hr2 p0.1 (by omega) (by omega)).1
       rw[show Qdj a ps.toList I.sh p0.1=a.eval p0.2 by unfold Qdj;rw[Qka honce hp0]] at this
       exact QnU this
      ·rw[size_madeCells]
       have:(p0.1+1) * I.sh.size<=n * I.sh.size:=aLq _ hlt
       rwa [aMq,aMF] at this) (by rw[QkB];exact honce)
    obtain⟨r,hr,hrsz,hget⟩:=hfill;rw[size_madeCells] at hrsz;have hcell:∀j,j<n->∀k,k<I.sh.size->r[j * I.sh.size+k]? = Qg (Qdj a ps.toList I.sh j) k:=by
     intro j hj k hk;rw[hget j _ _ rfl k hk (by
      rw[size_madeCells];have:(j+1) * I.sh.size<=n * I.sh.size:=aLq _ hj
      rwa [aMq,aMF] at this),QhW]
     unfold Qdj;cases assoc j ps.toList with
     | some o=>rfl
     | none=>simp only[Option.map_none];rw[Qqr hj hk,QgG]
    have hrun:(Instr.buildSlice t n (ps.map fun (i,x)=>(i,a.eval x))).run P w=.ok (.slice (some ⟨w.heap.size,0,none⟩) n n) (w.alloc (.cells r te)):=by
     have hsmall:¬(n * I.sh.size > 2 ^ 24):=by omega
     have hfl:Instr.fill (fun i=>some (i * I.sh.size,I.sh.size)) (madeCells (zeroV I.sh).cells (n * I.sh.size)) (ps.map fun (i,x)=>(i,a.eval x)).toList=some r:=by
      rw[Array.toList_map];exact hr
     by_cases hn0:n * I.sh.size=0
     ·have h3:Instr.fill (fun i=>some (i * I.sh.size,I.sh.size)) ((Array.range (n * I.sh.size)).map ((#[]:Array Value)[· % (#[]:Array Value).size]!)) (ps.map fun (i,x)=>(i,a.eval x)).toList=some r:=by
       rw[<-hfl];congr 1;simp[madeCells,hn0]
      simp only[hn0] at h3;simp[Instr.buildSlice,run_underlying hund,sizeOf,typeInfo,run_program,hi,hisz,hn0,newRow];simp at h3;rw[h3];simp
     ·unfold madeCells at hfl
      simp[Instr.buildSlice,run_underlying hund,sizeOf,typeInfo,zeroValue,run_program,hi,hzero,hisz,hsmall,hn0,newRow];simp at hfl;rw[hfl];simp
    obtain⟨g3,hpl3,h3,hN,hold,hblk,hheap⟩:=h2.newList r te 0;let ow':Nat->Tag:=fun j=>match g3.ow j with | .fl _=>.fl 0 | t=>t
    have kfl:∀j m,g3.ow j=.fl m->ow' j=.fl 0:=fun j m hj=>by simp[ow',hj]
    have kno:∀j,(∀m,g3.ow j ≠ .fl m)->ow' j=g3.ow j:=fun j hj=>by
     show (match g3.ow j with | .fl _=>Tag.fl 0 | t=>t)=_
     cases hq:g3.ow j<;>first | rfl | exact absurd hq (hj _)
    have h4:Rel P B ⟨ow',g3.pl⟩ e1 a (w.alloc (.cells r te)):=h3.fly rfl (fun j _ hm=>⟨kno j hm,rfl⟩) (Streams.refl _) (fun j hj=>h3.lt j fun h0=>hj (by show ow' j=.none;rw[kno j (by rw[h0];simp)];exact h0))
    have hlt2:∀j,g2.ow j ≠ .none->j<w.heap.size:=h2.lt
    have hrep:RepV P (.list I.sh) (.o F) (Gh.Z ⟨ow',g3.pl⟩) (w.alloc (.cells r te)) (Gh.S ⟨ow',g3.pl⟩ (.fl 0)) (.slice (some ⟨w.heap.size,0,none⟩) n n) (l.map (·.2)):=by
     refine⟨rfl,_,n,n,rfl,by show (l.map _).length=n;simp[hlen],aMb _,.inr ⟨w.heap.size,0,r,te,rfl,kfl _ _ hN,hblk,by omega,fun j=>(match g2.ow j with | .fl m=>m | _=>0),fun j hj=>?_⟩⟩
     have hjl:j<l.length:=by simpa using hj
     have hx:(l.map (·.2))[j]'hj=(l[j]'hjl).2:=by simp
     rw[hx];refine RepC.congr (fun k hk=>?_) ((hr2 j hjl hjl).2.frame (w':=w.alloc (.cells r te)) (fun m hm=>?_) (fun m hm=>?_) (fun m hm=>hheap m (hlt2 m ?_)))
     ·rw[<-hcell j (by omega) k hk]
      simp only[Qd,World.cell?,hblk,aMf];rfl
     ·have hm:g2.ow m=.fz:=hm
      have h5:g3.ow m=.fz:=(hold m (hlt2 m (by rw[hm];simp))).trans hm
      show ow' m=.fz
      rw[kno m (by rw[h5];simp)];exact h5
     ·have hm:g2.ow m=.fl j:=hm
      have h5:m<w.heap.size:=hlt2 m (by rw[hm];simp)
      exact⟨kfl m j ((hold m h5).trans hm),Nat.ne_of_lt h5,by simp[hm]⟩
     ·rcases hm with hm | hm
      ·rw[show g2.ow m=.fl j from hm];simp
      ·rw[show g2.ow m=.fz from hm];simp
    obtain⟨g5,_,_,h5⟩:=h4.dst 0 o.dst (d:=.v (.list I.sh) (.o F) (List.map (fun (x:Fl×I.sh.den)=>x.2) l)) (v:=.slice (some ⟨w.heap.size,0,none⟩) n n) hrep
    exact .value (v:=.slice (some ⟨w.heap.size,0,none⟩) n n) (by simp only[execOp,ho,Sem.run_bind,hrun,Result.andThen_ok];rfl) ⟨g5,h5⟩
 ·cases J
theorem Qv5 (w:World):∀(n:Nat) {I:Nat} {fs:List (Nat×TypeId)} {s:Sh} {u:Nat×TypeId} {ti:TI},ZX C I fs s->fs[n]? = some u->C.ty u.2=some ti->∀k,k<ti.sh.size->(YP s)[u.1 - I+k]? = (YP ti.sh)[k]?:=by
 intro n;induction n with
 | zero=>
  intro I fs s u ti J hu ht k hk
  match fs,J with
  | [(o,t)],J=>
   obtain⟨rfl,ti',U,rfl⟩:=J
   grind
  | (o,t)::f'::l,J=>
   obtain⟨a',b',rfl,rfl,⟨ti',U,rfl⟩,J⟩:=J;simp at hu;subst hu;rw[ht] at U;simp at U;subst U;simp[YP,Nat.sub_self,aMf];rw[aLu (by rw[ZQ];exact hk)]
 | succ n ih=>
  intro I fs s u ti J hu ht k hk
  match fs,J with
  | [(o,t)],J=>simp_all
  | (o,t)::f'::l,J=>
   obtain⟨a',b',rfl,rfl,⟨ti',U,rfl⟩,J⟩:=J;obtain⟨_,_,h1,_⟩:=Qbs w n J hu;rw[<-ih J hu ht k hk];simp[YP];rw[aLv (by rw[ZQ];omega),ZQ]
   grind
theorem QjS (J:QR P C):∀(fields:List Field) {I:Nat} {s:Sh},ZX C I (fields.map fun f=>(f.offset,f.type)) s->
  ∃places,fields.mapM (fun f=>(P.info? f.type).map fun i=>(f.offset,i.size))=some places/\places.length=fields.length/\
   ∀(i:Nat) (u:Nat×TypeId) (ti:TI),(fields.map fun f=>(f.offset,f.type))[i]? = some u->C.ty u.2=some ti->places[i]? = some (u.1,ti.sh.size)
 | [],I,s,h=>h.elim
 | [f],I,s,h=>by
  obtain⟨h1,ti,U,h2⟩:=h;obtain⟨i,hi,hsz,_⟩:=(J _ _ U).info;refine⟨[(f.offset,i.size)],by simp[hi],rfl,fun j u ti' hu ht'=>?_⟩
  grind
 | f::f'::l,I,s,h=>by
  obtain⟨a',b',rfl,h1,⟨ti,U,h2⟩,hs⟩:=h;obtain⟨i,hi,hsz,_⟩:=(J _ _ U).info;obtain⟨places,p1,p2,p3⟩:=QjS J (f'::l) hs;refine⟨(f.offset,i.size)::places,by rw[List.mapM_cons,p1];simp[hi],by simp[p2],fun j u ti' hu ht'=>?_⟩
  grind
theorem Qj6 (w:World):∀(i j:Nat) {J:Nat} {fs:List (Nat×TypeId)} {s:Sh} {u u':Nat×TypeId} {ti:TI},ZX C J fs s->i<j->fs[i]? = some u->fs[j]? = some u'->C.ty u.2=some ti->u.1+ti.sh.size<=u'.1:=by
 intro i;induction i with
 | zero=>
  intro j J fs s u u' ti I hij hu hu' ht
  match fs,I with
  | [(o,t)],I=>grind
  | (o,t)::f'::l,I=>
   obtain⟨a',b',rfl,rfl,⟨ti',U,rfl⟩,I⟩:=I;simp at hu;subst hu;rw[ht] at U;simp at U;subst U;cases j with
   | zero=>omega
   | succ j=>
    obtain⟨_,_,h1,_⟩:=Qbs w j I hu';exact h1
 | succ i ih=>
  intro j J fs s u u' ti I hij hu hu' ht
  match fs,I with
  | [(o,t)],I=>simp_all
  | (o,t)::f'::l,I=>
   obtain⟨a',b',rfl,rfl,_,I⟩:=I
   grind
theorem Qrf (x y:Dv) (l:List Dv):QiO (x::y::l)=(QiO (y::l)).map fun b=>⟨.prod x.sh b.sh,Fl.mk x.fl b.fl,(x.x,b.x)⟩:=rfl
theorem Qvy {parts:List (Nat×Operand)}:∀(fs:List (Nat×TypeId)) (i:Nat) {off:Nat} {s:Sh} {e e':Env} {g:Gh} {l:List Dv} {y:Dv} {c:Nat->Option Value},ZX C off fs s->Rel P B g e a w->(∀j m,i<=m->g.ow j ≠ .fl m)->
  Yk C e parts i fs=some (e',l)->QiO l=some y->(∀n u ti,fs[n]? = some u->C.ty u.2=some ti->∀k,k<ti.sh.size->c (u.1 - off+k)=Qg (Qdj a parts ti.sh (i+n)) k)->
  ∃g',Fly g g' i/\Rel P B g' e' a w/\y.sh=s/\l ≠ []/\RepC P y.sh y.fl g'.Z w (fun j=>∃m,i<=m/\g'.ow j=.fl m) c y.x:=by
 intro fs;induction fs with
 | nil=>intro i off s e e' g l y c U;exact U.elim
 | cons f fs ih=>
  intro i off s e e' g l y c U h hno hl hy hc;obtain⟨o,t⟩:=f;simp only[Yk,aLa,aLd] at hl;obtain⟨ti,hti,q,hq,x,hx,⟨e2,l2⟩,J,hl⟩:=hl;simp only[aLe] at hl;obtain⟨rfl,rfl⟩:=hl;obtain⟨g1,hf1,h1,hr1⟩:=QnB h (fun j=>hno j i (aMb _)) hq hx
  match fs,U,J with
  | [],U,J=>
   simp only[Yk,aLb,aLe] at J;obtain⟨rfl,rfl⟩:=J;obtain⟨rfl,ti',I,rfl⟩:=U;rw[hti] at I;simp only[aLb] at I;subst I;simp only[QiO,aLb] at hy;subst hy;refine⟨g1,hf1.fly,h1,rfl,by simp,?_⟩
   refine RepC.congr (fun k hk=>?_) (hr1.2.mono (fun _ h=>h) (fun m hm=>⟨i,aMb _,hm⟩))
   have:=hc 0 (o,t) ti rfl hti k hk
   simpa using this
  | f'::fs,U,J=>
   obtain⟨a',b',rfl,rfl,⟨ti',I,rfl⟩,U⟩:=U;rw[hti] at I;simp only[aLb] at I;subst I;have hno1:∀j m,i+1<=m->g1.ow j ≠ .fl m:=by
    intro j m hm hj;rcases hf1.ow j with h3 | ⟨h3,h4⟩
    ·exact hno j m (by omega) (h3.symm.trans hj)
    ·have:=h3.symm.trans hj
     simp only[Tag.fl.injEq] at this;omega
   have hl2ne:∃z zs,l2=z::zs:=by
    obtain⟨o',t'⟩:=f';simp only[Yk,aLa,aLd] at J
    grind
   obtain⟨z,zs,rfl⟩:=hl2ne;rw[Qrf,aLd] at hy;obtain⟨yb,hyb,rfl⟩:=hy;obtain⟨g2,hf2,h2,hsh,_,hr2⟩:=ih (i+1) (c:=fun k=>c (ti.sh.size+k)) U h1 hno1 J hyb (fun n u ti2 hu ht2 k hk=>by
    obtain⟨_,_,h5,_⟩:=Qbs w n U hu;have:=hc (n+1) u ti2 (by rw[List.getElem?_cons_succ];exact hu) ht2 k hk
    rw[show i+1+n=i+(n+1) by omega,<-this]
    show c _=c _
    congr 1;omega)
   refine⟨g2,hf1.fly.trans hf2,h2,by show Sh.prod ti.sh yb.sh=_;rw[hsh],by simp,fun j=>decide (g2.ow j=.fl i),?_,?_⟩
   ·refine RepC.flagx ?_ (Fl.fst_mk _ _).symm
    refine RepC.congr (fun k hk=>?_) ((hf2.rep hr1).2.mono (fun _ h=>h) (fun m hm=>⟨⟨i,aMb _,hm⟩,by simpa using hm⟩))
    have:=hc 0 (o,t) ti rfl hti k hk
    simpa using this
   ·refine RepC.flagx ?_ (Fl.snd_mk _ _).symm
    grind
theorem Qsf (hT:QR P C) (h:Rel P B g e a w) {frz:Fz} {o:Oper} {t:TypeId} {ps:Array (Nat×Operand)} (ho:o.op=.build t ps) {f:Eff} {e':Env} (U:Qn C frz e o=some f) (hf:f.gives e'):QD P B a w o e':=by
 obtain⟨g0,_,hcl,h0⟩:=h.clean;clear h;simp only[Qn,ho,aLa] at U;obtain⟨ti,hti,U⟩:=U;split at U
 ·rename_i fs htd
  have hund:=(hT t ti hti).und
  rw[htd] at hund;obtain⟨⟨fields,u1,u2,u3⟩,h4,h5,_⟩:=hund;cases hc:Qdb ps.toList&&ps.toList.all (fun p=>Nat.blt p.1 fs.length) with
  | false=>rw[hc] at U;cases U
  | true=>
   rw[hc,aLB] at U;simp only[aLg,List.all_eq_true] at hc;obtain⟨honce,hall⟩:=hc;replace U:=aLa.1 U;obtain⟨⟨e1,l⟩,hel,U⟩:=U;replace U:=aLa.1 U;obtain⟨y,hy,U⟩:=U;simp only[aLb] at U;subst U;obtain rfl:e'=_:=hf;obtain⟨i,hi,hisz,hby,hby0,hzz⟩:=(hT t ti hti).info;have hzero:i.zero=some (zeroV ti.sh):=by rw[htd] at hzz;exact hzz
   obtain⟨places,p1,p2,p3⟩:=QjS hT fields.toList (by rw[u2];exact h4)
   rw[u2] at p3;have hplen:places.length=fs.length:=by rw[p2,<-u2];simp
   have hzc:(zeroV ti.sh).cells.size=ti.sh.size:=by rw[QcY];simp[ZQ]
   have huti:∀(n:Nat) (u:Nat×TypeId),fs[n]? = some u->∃I,C.ty u.2=some I/\u.1+I.sh.size<=ti.sh.size/\places[n]? = some (u.1,I.sh.size):=by
    intro n u hu;obtain⟨I,J,_,h6,_⟩:=Qbs w n h4 hu;exact⟨I,J,by omega,p3 n u I hu J⟩
   have hback:∀(n o s:Nat),places[n]? = some (o,s)->∃(u:Nat×TypeId) (I:TI),fs[n]? = some u/\C.ty u.2=some I/\o=u.1/\s=I.sh.size:=by
    grind
   have hform:∀(n:Nat) (u:Nat×TypeId) (I:TI),fs[n]? = some u->C.ty u.2=some I->Ys I.sh (Qdj a ps.toList I.sh n):=by
    have gen:∀(fs:List (Nat×TypeId)) (i:Nat) {e e':Env} {g:Gh} {l:List Dv},Rel P B g e a w->(∀j m,i<=m->g.ow j ≠ .fl m)->Yk C e ps.toList i fs=some (e',l)->
      ∀(n:Nat) (u:Nat×TypeId) (I:TI),fs[n]? = some u->C.ty u.2=some I->Ys I.sh (Qdj a ps.toList I.sh (i+n)):=by
     intro fs;induction fs with
     | nil=>intro i e e' g l _ _ _ n u I hu;simp at hu
     | cons f fs ih=>
      intro i e e' g l h hno hl n u I hu J;obtain⟨o,t⟩:=f;simp only[Yk,aLa,aLd] at hl;obtain⟨ti,hti,q,hq,x,hx,⟨e2,l2⟩,hl2,hl⟩:=hl;obtain⟨g1,hf1,h1,hr1⟩:=QnB h (fun j=>hno j i (aMb _)) hq hx
      cases n with
      | zero=>
       simp only[aLt,aLb] at hu;subst hu;rw[hti] at J;simp only[aLb] at J;subst J;exact hr1.1
      | succ n=>
       rw[List.getElem?_cons_succ] at hu;have:=ih (i+1) h1 (fun j m hm hj=>by
        rcases hf1.ow j with h3 | ⟨h3,h4⟩
        ·exact hno j m (by omega) (h3.symm.trans hj)
        ·have:=h3.symm.trans hj
         simp only[Tag.fl.injEq] at this;omega) hl2 n u I hu J
       rwa [show i+1+n=i+(n+1) by omega] at this
    intro n u I hu J;have:=gen fs 0 h0 (fun j m _=>hcl j m) hel n u I hu J
    rwa [aMf] at this
   have hfill:=QpU (place:=fun n=>places[n]?) (fun i j o s o' s' hij h1 h2=>by
     obtain⟨u,I,k1,k2,rfl,rfl⟩:=hback i o s h1;obtain⟨u',tj',k3,k4,rfl,rfl⟩:=hback j o' s' h2;rcases Nat.lt_or_gt_of_ne hij with h3 | h3
     ·exact .inl (Qj6 w i j h4 h3 k1 k3 k2)
     ·exact .inr (Qj6 w j i h4 h3 k3 k1 k4))
    (ps.toList.map fun p=>(p.1,a.eval p.2)) (zeroV ti.sh).cells (fun p hp=>by
     obtain⟨p0,hp0,rfl⟩:=List.mem_map.1 hp;have hlt:p0.1<fs.length:=QdB (hall p0 hp0)
     obtain⟨I,J,h6,h7⟩:=huti p0.1 _ (aLf hlt);refine⟨_,_,h7,?_,by rw[hzc];exact h6⟩
     have:=hform p0.1 _ I (aLf hlt) J
     rw[show Qdj a ps.toList I.sh p0.1=a.eval p0.2 by unfold Qdj;rw[Qka honce hp0]] at this
     exact QnU this) (by rw[QkB];exact honce)
   obtain⟨r,hr,hrsz,hget⟩:=hfill;have hcell:∀(n:Nat) (u:Nat×TypeId) (I:TI),fs[n]? = some u->C.ty u.2=some I->∀k,k<I.sh.size->r[u.1 - 0+k]? = Qg (Qdj a ps.toList I.sh (0+n)) k:=by
    intro n u I hu J k hk;obtain⟨tj',htj',h6,h7⟩:=huti n u hu;rw[J] at htj';simp only[aLb] at htj';subst htj';rw[Nat.sub_zero,aMf,hget n _ _ h7 k hk (by rw[hzc];exact h6),QhW]
    unfold Qdj;cases assoc n ps.toList with
    | some o=>rfl
    | none=>
     simp only[Option.map_none];rw[QgG,<-Qv5 w n h4 hu J k hk,Nat.sub_zero,<-QgG];rfl
   obtain⟨g1,hf1,h1,hsh,_,hrep⟩:=Qvy fs 0 (c:=fun k=>r[k]?) h4 h0 (fun j m _=>hcl j m) hel hy hcell
   have hrun:(Instr.build t (ps.map fun (i,x)=>(i,a.eval x))).run P w=.ok (.agg r) w:=by
    refine run_build w t _ r ?_;simp only[Program.built,hi,u1,hzero,p1];rw[Array.toList_map];have:(fun (x:Nat)=>places.toArray[x]?)=fun (n:Nat)=>places[n]?:=by funext n;simp
    rw[this];exact hr
   let ow':Nat->Tag:=fun j=>match g1.ow j with | .fl _=>.fl 0 | t=>t
   have kfl:∀j m,g1.ow j=.fl m->ow' j=.fl 0:=fun j m hj=>by simp[ow',hj]
   have kno:∀j,(∀m,g1.ow j ≠ .fl m)->ow' j=g1.ow j:=fun j hj=>by
    show (match g1.ow j with | .fl _=>Tag.fl 0 | t=>t)=_
    cases hq:g1.ow j<;>first | rfl | exact absurd hq (hj _)
   have h6:Rel P B ⟨ow',g1.pl⟩ e1 a w:=h1.fly rfl (fun j _ hm=>⟨kno j hm,rfl⟩) (Streams.refl _) (fun j hj=>h1.lt j fun h0=>hj (by show ow' j=.none;rw[kno j (by rw[h0];simp)];exact h0))
   have hpr:=h4.prod h5
   have hrv:RepV P y.sh y.fl (Gh.Z ⟨ow',g1.pl⟩) w (Gh.S ⟨ow',g1.pl⟩ (.fl 0)) (.agg r) y.x:=by
    refine⟨?_,?_⟩
    ·have hrsz2:r.size=ti.sh.size:=hrsz.trans hzc
     rw[hsh];revert hpr hrsz2;cases ti.sh<;>simp[QY,Ys,Sh.size]
    ·exact hrep.mono (fun j hj=>by
      have hj:g1.ow j=.fz:=hj
      show ow' j=.fz
      rw[kno j (by rw[hj];simp)];exact hj) (fun j hj=>by obtain⟨m,_,hj⟩:=hj;exact kfl j m hj)
   obtain⟨g5,_,_,h7⟩:=h6.dst 0 o.dst (d:=.v y.sh y.fl y.x) hrv;exact .value (v:=.agg r) (by simp only[execOp,ho,Sem.run_bind,hrun,Result.andThen_ok];rfl) ⟨g5,h7⟩
 ·cases U
end Go.Dx
namespace Go.Dx
variable {P:Program} {B:Base} {g:Gh} {e:Env} {a:Act} {w:World} {C:Ctx}
theorem QuH {s:Sh} {f:Fl} (hw:Qq s (Fl.full s) f=true) {Z S:Nat->Prop} {w:World} {c:Nat->Option Value} (I:∀k,k<s.size->c k=(YP s)[k]?):RepC P s f Z w S c s.dflt:=by
 obtain⟨T,J,U⟩:=RepC.weak hw (Qjx s QP c I);exact U.mono (fun i hi=>hi.elim id (fun h=>(J i h).elim)) (fun i hi=>hi.1.elim)
theorem Qoe (s:Sh):(zeroV s).cells.size=s.size:=by rw[QcY];simp[ZQ]
theorem QjT {s:Sh} {n:Nat} (j k:Nat) (hj:j<n) (hk:k<s.size):(Builtin.zeroCells (zeroV s).cells n).toList[j * s.size+k]? = (YP s)[k]?:=by
 have J:j * s.size+k<n * s.size:=by
  have:(j+1) * s.size<=n * s.size:=aLq _ hj
  grind
 have hm:(j * s.size+k) % s.size=k:=by rw[Nat.add_comm,Nat.add_mul_mod_self_right,Nat.mod_eq_of_lt hk]
 have I:k<(YP s).length:=by rw[ZQ];exact hk
 have U:=ZQ s
 unfold Builtin.zeroCells;rw[QcY]
 simp_all
theorem QoO (P:Program) {s:Sh} {n:Nat}:∀u ∈ (Builtin.zeroCells (zeroV s).cells n).toList,u.oneCell'=true:=by
 intro u hu;obtain⟨i,hi,rfl⟩:=List.getElem_of_mem hu;have J:i<n * s.size:=by simpa [QfT,Qoe] using hi
 have I:=Sh.size_pos s
 have hj:i / s.size<n:=Nat.div_lt_of_lt_mul (by rw[Nat.mul_comm];exact J)
 have hk:=Nat.mod_lt i I
 have:=QjT (i / s.size) (i % s.size) hj hk
 rw[Nat.mul_comm (i / s.size),Nat.div_add_mod,aLf hi] at this;obtain⟨v,hv,h1⟩:=cells_one (P:=P) (Z:=QP) (w:={ (default:World) with heap:=#[] }) (Qhq s) (Qjx s QP _ (fun k _=>rfl)) (i % s.size) hk
 simp_all
theorem Qru {s:Sh} {l h:Int} {X:List s.den} (h0:0<=l) (h1:l<=h) (h2:h<=(X.length:Int)):(clr l h X).length=X.length:=by
 show (List.take l.toNat X++(List.replicate (h - l).toNat s.dflt++List.drop h.toNat X)).length=_
 grind
theorem Qwm {s:Sh} {l h:Int} {X:List s.den} (h0:0<=l) (h1:l<=h) (h2:h<=(X.length:Int)) (j:Nat) (hj:j<(clr l h X).length) (I:j<X.length) :
  (clr l h X)[j]'hj=if l.toNat<=j/\j<h.toNat then s.dflt else X[j]'I:=by
 have J:(clr l h X)[j]? = if l.toNat<=j/\j<h.toNat then some s.dflt else X[j]?:=by
  show (List.take l.toNat X++(List.replicate (h - l).toNat s.dflt++List.drop h.toNat X))[j]? = _
  grind
 grind
theorem QrV (hT:QR P C) (h:Rel P B g e a w) {frz:Fz} {o:Oper} {x:Operand} {at_:Array TypeId} (ho:o.op=.call { callee:=.builtin .clear,args:=#[x],argTypes:=at_ }) {f:Eff} {e':Env} (U:Qn C frz e o=some f) (hf:f.gives e'):QD P B a w o e':=by
 simp only[Qn,ho,Qhk,aLa] at U;obtain⟨t0,hat0,ti,hti,U⟩:=U;split at U
 ·rename_i te s t ver l hh htd hsh hox
  obtain⟨hund,tj',htj',hsh'⟩:=QfE hT hti htd;replace U:=aLa.1 U;obtain⟨I,htj,U⟩:=U;rw[htj] at htj';simp only[aLb] at htj';subst htj';rw[hsh] at hsh';simp only[Sh.list.injEq] at hsh';subst hsh';cases hc:I.td.zok&&Nat.beq (e.s t).ver ver with
  | false=>rw[hc] at U;cases U
  | true=>
   rw[hc,aLB] at U;simp only[aLg] at hc;obtain⟨hzok,hver⟩:=hc;have hver:=aLw hver
   split at U
   ·rename_i S f0 X hdt
    replace U:=aLa.1 U;obtain⟨Y,hY,U⟩:=U;have hsx:=ZK hY
    simp only[aMy] at hsx;obtain⟨rfl,hsx⟩:=hsx;have hsx:=eq_of_heq hsx
    subst hsx;cases hcc:Qq I.sh (Fl.full I.sh) f0&&okS I.sh f0 with
    | false=>rw[hcc] at U;cases U
    | true=>
     rw[hcc,aLB] at U;simp only[aLb] at U;subst U;obtain rfl:e'=_:=hf;simp only[aLg] at hcc;obtain⟨hweak,hok⟩:=hcc;obtain⟨i,hi,hisz,hby,hby0,hzz⟩:=(hT te I htj).info;have hzero:i.zero=some (zeroV I.sh):=by
      revert hzz hzok;cases I.td<;>simp[TD.zok]
     have hpos:=Sh.size_pos I.sh
     obtain⟨Tx,hx,_,_⟩:=QC h x;rw[hox] at hx;have hx:Qbq g e a w (.s t) ver [.sub l hh] (a.eval x):=hx
     have hd:(e.root (.s t)).d=.v (.list I.sh) (.o f0) X:=hdt
     obtain⟨hp,hbor⟩:=hx.2 hver _ _ _ hd;obtain⟨⟨p0,p1,p2⟩,_⟩:=hp;obtain⟨hform,J⟩:=hbor rfl (.list I.sh) rfl;have J:=J 0 (Sh.size_pos _)
     have hsl:=h.sl t
     rw[show (e.s t).d=.v (.list I.sh) (.o f0) X from hdt] at hsl
     have hsl:RepV P (.list I.sh) (.o f0) g.Z w (g.S (.s t)) (a.tmps.getD t undef) X:=hsl
     obtain⟨A,n,cap,e1,e2,e3,e4⟩:=hsl.2;have e2:X.length=n:=e2
     simp only[Qm,Ql,e1,QdX,if_pos] at J;have hc1:(a.eval x).cells = #[a.eval x]:=hform
     simp only[Qg,hc1] at J;simp only[List.getElem?_toArray,aLt,aLb] at J;have key:∃w',(Builtin.clear_ at_ o.type #[a.eval x]).run P w=.ok (.tuple #[]) w'/\Streams w w'/\w'.heap.size=w.heap.size/\(∀j,g.ow j ≠ .s t->w'.heap[j]? = w.heap[j]?)/\
       RepC P (.list I.sh) (.o f0) g.Z w' (g.S (.s t)) (Qg (a.tmps.getD t undef)) (clr l hh X):=by
      rcases aMA (hh - l).toNat with h0 | h0
      ·refine⟨w,?_,Streams.refl w,rfl,fun _ _=>rfl,?_⟩
       ·rw[J,h0]
        split
        ·cases A<;>simp[Builtin.clear_,hat0,run_underlying hund]
        ·cases A<;>simp[Builtin.clear_,hat0,run_underlying hund]
       ·have:clr l hh X=X:=by
         show List.take l.toNat X++(List.replicate (hh - l).toNat I.sh.dflt++List.drop hh.toNat X)=X
         rw[h0,show hh.toNat=l.toNat by omega];simp
        rw[this];exact hsl.2
      ·have hcap:¬cap=l.toNat:=by omega
       rw[if_neg hcap] at J;rcases e4 with ⟨rfl,hn0,_⟩ | ⟨b,off,arr,ty,rfl,hS,hblk,hsz,t1,hr⟩
       ·omega
       ·have hlen:(Builtin.zeroCells (zeroV I.sh).cells (hh - l).toNat).toList.length=(hh - l).toNat * I.sh.size:=by simp[QfT,Qoe]
        have hmul:l.toNat * I.sh.size+(hh - l).toNat * I.sh.size=hh.toNat * I.sh.size:=by rw[<-aMq];congr 1;omega
        have hmul2:hh.toNat * I.sh.size<=cap * I.sh.size:=aLq _ (by omega)
        have hst:=run_storeCells_at (P:=P) b (off+l.toNat * I.sh.size) ty (Builtin.zeroCells (zeroV I.sh).cells (hh - l).toNat).toList 0 arr w hblk (by rw[hlen];omega) (QoO P)
        simp only[Nat.add_zero] at hst;generalize harr:(arr.toList.take (off+l.toNat * I.sh.size)++(Builtin.zeroCells (zeroV I.sh).cells (hh - l).toNat).toList++arr.toList.drop (off+l.toNat * I.sh.size+(Builtin.zeroCells (zeroV I.sh).cells (hh - l).toNat).toList.length)).toArray=arr' at hst;have harr1:arr'.size=arr.size:=by subst harr;simp only[List.size_toArray,aLi,aLn,aLz,hlen,aMo];omega
        have harr2:∀k,k<off+l.toNat * I.sh.size->arr'[k]? = arr[k]?:=by
         intro k hk;subst harr;simp only[List.getElem?_toArray];rw[aMm,aLu (by simp only[aLn,aMo];omega),List.getElem?_take,if_pos hk];simp
        have harr3:∀k,k<(hh - l).toNat * I.sh.size->arr'[off+l.toNat * I.sh.size+k]? = (Builtin.zeroCells (zeroV I.sh).cells (hh - l).toNat).toList[k]?:=by
         intro k hk;subst harr;simp only[List.getElem?_toArray];rw[aMm,aLv (by simp only[aLn,aMo];omega),aLu (by simp only[aLn,aMo,hlen];omega)]
         simp only[aLn,aMo];congr 1;omega
        have harr4:∀k,off+hh.toNat * I.sh.size<=k->arr'[k]? = arr[k]?:=by
         intro k hk;subst harr;simp only[List.getElem?_toArray];rw[aLv (by simp only[aLi,aLn,aMo,hlen];omega),List.getElem?_drop]
         simp only[aLi,aLn,aMo,hlen];rw[Array.getElem?_toList];congr 1;omega
        have hblk':=setRow_heap w b arr arr' ty (0,0) hblk
        have hother:∀j,j ≠ b->(w.setRow b arr').heap[j]? = w.heap[j]?:=fun j hj=>setRow_other w b j arr' hj
        have hSb:g.ow b=.s t:=hS
        refine⟨w.setRow b arr',?_,⟨rfl,rfl,rfl,by simp,aMb _⟩,by simp,fun j hj=>hother j (fun hjb=>hj (hjb ▸ hSb)),some ⟨b,off,none⟩,n,cap,e1,?_,e3,.inr ⟨b,off,arr',ty,rfl,hS,hblk',by omega,t1,fun j hj=>?_⟩⟩
        ·rw[J]
         obtain⟨m,hm⟩:∃m,(hh - l).toNat=m+1:=⟨(hh - l).toNat - 1,by omega⟩
         rw[hm] at hst ⊢;simp[Builtin.clear_,hat0,run_underlying hund,zeroValue,run_program,typeInfo,hi,hzero,QbZ,hst]
        ·show (clr l hh X).length=n
         rw[Qru p0 p1 p2,e2]
        ·have hjY:j<X.length:=by rw[<-Qru p0 p1 p2];exact hj
         rw[Qwm p0 p1 p2 j hj hjY];have hj1:(j+1) * I.sh.size=j * I.sh.size+I.sh.size:=by rw[aMq,aMF]
         have hcl:∀k,Qd (w.setRow b arr') b (off+j * I.sh.size) k=arr'[off+j * I.sh.size+k]?:=fun k=>by simp only[Qd,World.cell?,hblk'];rfl
         have hcl0:∀k,Qd w b (off+j * I.sh.size) k=arr[off+j * I.sh.size+k]?:=fun k=>by simp only[Qd,World.cell?,hblk];rfl
         by_cases hin:l.toNat<=j/\j<hh.toNat
         ·rw[if_pos hin]
          refine QuH hweak (fun k hk=>?_)
          have hs1:j * I.sh.size=l.toNat * I.sh.size+(j - l.toNat) * I.sh.size:=by rw[<-aMq];congr 1;omega
          have hs2:(j - l.toNat+1) * I.sh.size<=(hh - l).toNat * I.sh.size:=aLq _ (by omega)
          rw[aMq,aMF] at hs2;rw[hcl,show off+j * I.sh.size+k=off+l.toNat * I.sh.size+((j - l.toNat) * I.sh.size+k) by omega,harr3 _ (by omega)]
          exact QjT _ _ (by omega) hk
         ·rw[if_neg hin]
          refine RepC.congr (fun k hk=>?_) ((hr j hjY).frame (w':=w.setRow b arr') (fun _ h=>h) (fun _ h=>h) (fun m hm=>hother m ?_))
          ·rw[hcl]
           by_cases hjl:j<l.toNat
           ·have:(j+1) * I.sh.size<=l.toNat * I.sh.size:=aLq _ hjl
            rw[harr2 _ (by omega)]
            exact (hcl0 k).symm
           ·have:hh.toNat * I.sh.size<=j * I.sh.size:=aLq _ (by omega)
            rw[harr4 _ (by omega)]
            exact (hcl0 k).symm
          ·rcases hm with hm | hm
           ·exact hm.2.1
           ·rintro rfl;rw[show g.ow m=.fz from hm] at hSb;cases hSb
     obtain⟨w',hrun,hst,hsz,hkeep,hrep⟩:=key;have hzk:∀j tg,g.ow j=tg->tg ≠ .s t->g.ow j=tg/\w'.heap[j]? = w.heap[j]?:=fun j tg hj hne=>⟨hj,hkeep j (by rw[hj];exact hne)⟩
     have h3:Rel P B g (e.turn (.s t) false (.v (.list I.sh) (.o f0) (clr l hh X))) a w':=by
      refine h.step (fun i=>i=t) (fun _=>False) (by rw[Ql2];exact h.lens) h.defers
       (fun i hi=>⟨by show (e.turn (.s t) false _).root (.s i)=_;rw[Q2 hd,if_neg (by simpa using fun hh=>hi hh.symm)];rfl,rfl⟩) (fun i _=>⟨by show (e.turn (.s t) false _).root (.b i)=_;rw[Q2 hd,if_neg (by simp)];rfl,rfl⟩)
       (fun i hi=>by subst hi;show (e.root (.s i)).ver<((e.turn (.s i) false _).root (.s i)).ver;rw[Q2 hd,if_pos rfl];exact aMp _)
       (fun _ hi=>hi.elim) (fun i hi=>by subst hi;exact QiL hd rfl) (fun _ hi=>hi.elim) (fun i hi=>by subst hi;exact QhH hd (fun _ k _=>rfl)) (fun _ hi=>hi.elim)
       (fun j hj=>hzk j _ hj (by simp)) (fun i j hi hj=>hzk j _ hj (by simpa using hi)) (fun i j _ hj=>hzk j _ hj (by simp)) (fun i j _ hj=>hzk j _ hj (by simp))
       hst (fun i hi hm=>?_) (fun i h1 h2 h3=>h.nn i h1 h2 h3) (fun i hi=>by rw[hsz];exact h.lt i hi) (fun q _ hq=>hq.elim) (fun hk i hi=>?_) (fun _ _ hi=>hi.elim)
      ·by_cases hf:B.fz0 i
       ·exact (hzk i _ (h.fz i hf) (by simp)).2
       ·exact (hzk i _ (h.nn i hi hm hf) (by simp)).2
      ·subst hi
       show Qs P g _ a w' (.s i) ((e.turn (.s i) false _).root (.s i)).d _
       rw[Q2 hd,if_pos rfl];exact⟨hsl.1,hrep⟩
     obtain⟨g4,_,_,h4⟩:=h3.dst 0 o.dst (d:=.dead) (v:=.tuple #[]) trivial;exact .value (v:=.tuple #[]) (w':=w') (by simp[execOp,ho,resolve,invoke,builtin,hrun]) ⟨g4,h4⟩
   ·cases U
 ·cases U
end Go.Dx
namespace Go.Dx
variable {P:Program} {B:Base} {g:Gh} {e:Env} {a:Act} {w:World} {C:Ctx}
def Zo (ow:Nat->Tag):Nat->Prop:=fun i=>ow i=.fz
def So (ow:Nat->Tag) (t:Tag):Nat->Prop:=fun i=>ow i=t
def Qnh (P:Program) (ow:Nat->Tag) (w:World) (i:Nat):(p:PS)->Value->p.sh.den->Prop
 | .v s f,v,x=>RepV P s f (Zo ow) w (So ow (.fl i)) v x
 | .rp s false,v,x=>∃b o,v=.pointer (some ⟨b,o,none⟩)/\ow b=.fz/\RepC P s .z (Zo ow) w QP (Qd w b o) x
 | .rp s true,v,x=>∃hb ho b o,v=.pointer (some ⟨hb,ho,none⟩)/\ow hb=.fz/\Qd w hb ho 0=some (.pointer (some ⟨b,o,none⟩))/\ow b=.fz/\RepC P s .z (Zo ow) w QP (Qd w b o) x
 | .io s f _,v,x=>∃hb o arr ty,v=.pointer (some ⟨hb,o,none⟩)/\ow hb=.c i/\w.heap[hb]? = some (.cells arr ty (0,0))/\o+s.size<=arr.size/\RepC P s f (Zo ow) w (So ow (.fl i)) (Qd w hb o) x
 | .mu s f _,v,x=>RepV P s f (Zo ow) w (So ow (.fl i)) v x
def QaH (P:Program) (ow:Nat->Tag) (w:World):Nat->(ps:List PS)->List Value->TupI (ps.map PS.sh)->Prop
 | _,[],vs,_=>vs=[]
 | i,p::ps,v::vs,t=>Qnh P ow w i p v t.1/\QaH P ow w (i+1) ps vs t.2
 | _,_::_,[],_=>False
def Zp (P:Program) (ow':Nat->Tag) (w w':World):Nat->List PS->List Value->List ((s:Sh)×s.den)->Prop
 | i,.io s _ f'::ps,v::vs,y::ys=>(∃hb o arr arr' ty,v=.pointer (some ⟨hb,o,none⟩)/\w.heap[hb]? = some (.cells arr ty (0,0))/\w'.heap[hb]? = some (.cells arr' ty (0,0))/\arr'.size=arr.size/\
   (∀k,(k<o\/o+s.size<=k)->arr'[k]? = arr[k]?)/\ow' hb=.c i/\y.1=s/\RepC P y.1 f' (Zo ow') w' (So ow' (.b i)) (Qd w' hb o) y.2)/\Zp P ow' w w' (i+1) ps vs ys
 | i,.mu s _ f'::ps,v::vs,y::ys=>(y.1=s/\RepV P y.1 f' (Zo ow') w' (So ow' (.b i)) v y.2)/\Zp P ow' w w' (i+1) ps vs ys
 | _,.io .. :: _,_,_=>False
 | _,.mu .. :: _,_,_=>False
 | i,_::ps,_::vs,ys=>Zp P ow' w w' (i+1) ps vs ys
 | _,_::_,[],_=>False
 | _,[],vs,ys=>vs=[]/\ys=[]
def Qpm (P:Program) (ow':Nat->Tag) (w':World) (outs:List (Sh×Fl)) (v:Value) (ys:List ((s:Sh)×s.den)):Prop:=
 ys.map (·.1)=outs.map (·.1)/\match outs,ys with
 | [(_,f)],y::_=>RepV P y.1 f (Zo ow') w' (So ow' (.fl 0)) v y.2
 | outs,ys=>∃vs:Array Value,v=.tuple vs/\vs.size=outs.length/\∀(k:Nat) (o:Sh×Fl) (y:(s:Sh)×s.den) (u:Value),outs[k]? = some o->ys[k]? = some y->vs[k]? = some u->RepV P y.1 o.2 (Zo ow') w' (So ow' (.fl k)) u y.2
structure Qhu (P:Program) (K:Callee) (ow:Nat->Tag) (w:World) (vs:List Value) (ys:TupO (K.outs.map (·.1)++QaO K.ins)) (ow':Nat->Tag) (w':World) (vr:Value):Prop where
 st:StrD K.dm w w'
 frame:∀j,j<w.heap.size->(ow j=.none\/ow j=.fz)->w'.heap[j]? = w.heap[j]?/\ow' j=ow j
 lt:∀j,ow' j ≠ .none->j<w'.heap.size
 res:Qpm P ow' w' K.outs vr ((scat _ ys).take K.outs.length)
 ios:Zp P ow' w w' 0 K.ins vs ((scat _ ys).drop K.outs.length)
def GOk (W0:World) (ow:Nat->Tag) (w:World):Prop:=∀i,i<W0.heap.size->ow i=.fz/\w.heap[i]? = W0.heap[i]?
def Contract (P:Program) (W0:World) (j:FuncId) (K:Callee):Prop:=
 Enters P j/\∀(w:World) (ow:Nat->Tag) (vs:List Value) (xs:TupI (K.ins.map PS.sh)) (ys:TupO (K.outs.map (·.1)++QaO K.ins)),(∀i,ow i ≠ .none->i<w.heap.size)->GOk W0 ow w->QaH P ow w 0 K.ins vs xs->K.F xs=some ys->
  Calls P j vs.toArray w (fun e w'=>∃vr ow',e=.returned vr/\Qhu P K ow w vs ys ow' w' vr)
def Qsh (P:Program) (Z:Nat->Prop) (w:World):(I:List Sh)->List Value->TupI I->Prop
 | [],vs,_=>vs=[]
 | s::I,v::vs,t=>RepV P s .z Z w QP v t.1/\Qsh P Z w I vs t.2
 | _::_,[],_=>False
def Qsg (P:Program) (W0:World) (j:FuncId) (N:NewP):Prop:=
 Enters P j/\∀(w:World) (Z:Nat->Prop) (vs:List Value) (xs:TupI N.ins) (y:N.out.den),(∀i,Z i->i<w.heap.size)->(∀i,i<W0.heap.size->Z i/\w.heap[i]? = W0.heap[i]?)->Qsh P Z w N.ins vs xs->N.F xs=some y->
  Calls P j vs.toArray w (fun e w'=>∃hb arr ty,e=.returned (.pointer (some ⟨hb,0,none⟩))/\Streams w w'/\(∀i,i<w.heap.size->w'.heap[i]? = w.heap[i]?)/\w.heap.size<=hb/\w'.heap[hb]? = some (.cells arr ty (0,0))/\N.out.size<=arr.size/\RepC P N.out .z Z w' QP (Qd w' hb 0) y)
structure Qae (P:Program) (W0:World) (d:Bool) (C:Ctx):Prop where
 fn:∀j K,assoc j C.fns=some K->Contract P W0 j K
 np:∀j N,assoc j C.nps=some N->Qsg P W0 j N
 dm:d=true->∀j K,assoc j C.fns=some K->K.dm=true
theorem Qd6 {s:Sh}:∀{f:Fl} {Z Z':Nat->Prop} {w:World} {S:Nat->Prop} {c:Nat->Option Value} {x:s.den},QO s f=true->RepC P s f Z w S c x->RepC P s f Z' w S c x:=by
 induction s with
 | int k=>intro f Z Z' w S c x _ r;exact r
 | bool=>intro f Z Z' w S c x _ r;exact r
 | str=>intro f Z Z' w S c x _ r;exact r
 | list s U=>
  intro f Z Z' w S c x h r;cases f with
  | o g=>
   obtain⟨A,n,cap,h1,h2,h3,h4⟩:=r;refine⟨A,n,cap,h1,h2,h3,h4.imp id ?_⟩;rintro ⟨b,off,arr,e,h5,h6,h7,h8,t,h9⟩;exact⟨b,off,arr,e,h5,h6,h7,h8,t,fun j hj=>U h (h9 j hj)⟩
  | z=>simp[QO] at h
  | x=>assumption
  | p a b=>assumption
  | h f0 i0=>simp[QO] at h
 | prod a b I J=>
  intro f Z Z' w S c x h r;simp[QO,aLg] at h;obtain⟨t,ra,rb⟩:=r;exact⟨t,I h.1 ra,J h.2 rb⟩
 | fn1 a r rf _ _=>intro f Z Z' w S c x h;simp[QO] at h
 | fn2 a b r _ _ _=>intro f Z Z' w S c x h;simp[QO] at h
theorem Qjs {o:Oper} {f:Operand} {c:Call} (ho:o.op=.call c) (U:c.callee=.value f) {j:FuncId} (hE:Enters P j) {caps:Array Value} (hf:a.eval f=.func (.func j) #[] caps) :
  (execOp a.eval o).run P w=.ok (.enter j (c.args.map a.eval++caps)) w:=by
 obtain⟨fn,h1,h2,h3⟩:=hE;have I:¬fn.body=none:=by cases hb:fn.body<;>simp[hb] at h2 ⊢
 have J:¬fn.name = "runtime.NumGoroutine":=by simpa using h3
 simp[execOp,ho,resolve,U,hf,Deferred.ofValue,invoke,callFunc,h1,I,J]
end Go.Dx
namespace Go.Dx
variable {P:Program} {B:Base} {g:Gh} {e:Env} {a:Act} {w:World} {C:Ctx}
theorem RepC.inHeap {s:Sh}:∀{f:Fl} {Z:Nat->Prop} {w:World} {S:Nat->Prop} {c:Nat->Option Value} {x:s.den},RepC P s f Z w S c x->RepC P s f Z w (fun i=>S i/\i<w.heap.size) c x:=by
 induction s with
 | int k=>intro f Z w S c x r;exact r
 | bool=>intro f Z w S c x r;exact r
 | str=>intro f Z w S c x r;exact r
 | list s ih=>
  intro f Z w S c x r;cases f with
  | o g=>
   obtain⟨A,n,cap,h1,h2,h3,h4⟩:=r;refine⟨A,n,cap,h1,h2,h3,h4.imp id ?_⟩;rintro ⟨b,off,arr,e,h5,h6,h7,h8,t,h9⟩;exact⟨b,off,arr,e,h5,⟨h6,(Array.getElem?_eq_some_iff.1 h7).1⟩,h7,h8,t,fun j hj=>(ih (h9 j hj)).mono (fun _ h=>h) (fun i hi=>⟨⟨hi.1.1,hi.2⟩,hi.1.2⟩)⟩
  | z=>exact r
  | x=>exact r
  | p a b=>exact r
  | h g i0=>
   obtain⟨A,n,cap,h1,h2,h3,b,off,arr,e,h5,h6,h7,h8,t,h9⟩:=r;exact⟨A,n,cap,h1,h2,h3,b,off,arr,e,h5,⟨h6,(Array.getElem?_eq_some_iff.1 h7).1⟩,h7,h8,t,fun j hj I=>(ih (h9 j hj I)).mono (fun _ h=>h) (fun i hi=>⟨⟨hi.1.1,hi.2⟩,hi.1.2⟩)⟩
 | prod a b J U=>
  intro f Z w S c x r;obtain⟨t,ra,rb⟩:=r;exact⟨t,(J ra).mono (fun _ h=>h) (fun i hi=>⟨⟨hi.1.1,hi.2⟩,hi.1.2⟩),(U rb).mono (fun _ h=>h) (fun i hi=>⟨⟨hi.1.1,hi.2⟩,hi.1.2⟩)⟩
 | fn1 a r rf _ _=>intro f Z w S c x r;exact r
 | fn2 a b r _ _ _=>intro f Z w S c x r;exact r
theorem QnC (h:Rel P B g e a w) {T:Tag} {d:Desc} {v:Value} {y:(s:Sh)×s.den} (hd:Qs P g e a w T d v) (hv:e.rd d=some y) :
  ∃S:Nat->Prop,(∀i,S i->i<w.heap.size)/\RepV P y.1 .z (fun i=>g.Z i\/S i) w QP v y.2:=by
 obtain⟨S,f,ho,I,_⟩:=QbC h hd hv;refine⟨fun i=>S i/\i<w.heap.size,fun i hi=>hi.2,I.1,RepC.freeze ho (RepC.inHeap I.2)⟩
theorem QD.call {o:Oper} {e':Env} {j:FuncId} {args:Array Value} (J:(execOp a.eval o).run P w=.ok (.enter j args) w) {R:Ending->World->Prop} (U:Calls P j args w R)
  (h:∀I w',R I w'->∃vr,I=.returned vr/\∃g',Rel P B g' e' (a.put o.dst vr) w'):QD P B a w o e':=by
 intro K Q hK;unfold Oper.wp;rw[J];refine U.mono fun I w' hR=>?_
 grind
theorem Rel.back (h:Rel P B g e a w) {w':World} {Z':Nat->Prop} {R:(Nat->Prop)->World->(Nat->Prop)->Value->Prop} {en:Ending} (hp:QmI Z' w R en w') (dst:Option Tmp) {s:Sh} {f:Fl} {x:s.den} (hf:QO s f=true)
  (hR:∀J own vr,R J w' own vr->Ys s vr/\RepC P s f J w' own (Qg vr) x):∃vr,en=.returned vr/\∃g',Rel P B g' (e.dst dst (.v s f x)) (a.put dst vr) w':=by
 obtain⟨vr,rfl,hst,U,own,J,I,_,_,hRR⟩:=hp;obtain⟨hform,hrep⟩:=hR _ _ _ hRR;have hno:∀i,own i->w.heap.size<=i:=fun i hi=>(I i hi).1
 have hrel:Rel P B (g.re own (.fl 0)) e a w':=h.fly rfl (fun j hj _=>⟨Gh.re_out fun ho=>by have:=hno j ho;omega,U j hj⟩) hst (fun j hj=>by
  by_cases ho:own j
  ·exact (I j ho).2.1
  ·rw[Gh.re_out ho] at hj
   have:=h.lt j hj;have:=hst.size;omega)
 obtain⟨g',_,_,h'⟩:=hrel.dst 0 dst (d:=.v s f x) ⟨hform,(Qd6 hf hrep).mono (fun _ h=>h) (fun i hi=>Gh.re_in hi)⟩
 exact⟨vr,rfl,g',h'⟩
theorem Qdv {d:(s:Sh)×s.den} {s:Sh} {y:s.den} (h:asS d s=some y):∃I:d.1=s,I ▸ d.2=y:=by
 have:=ZK h
 grind
theorem Qst (h:Rel P B g e a w) {o:Oper} {c:Call} {fo:Operand} (ho:o.op=.call c) (hc:c.callee=.value fo) {f:Eff} {e':Env} (I:QfS e o.dst (e.opd fo) c.args.toList=some f) (hf:f.gives e'):QD P B a w o e':=by
 obtain⟨Tf,hfo,_,_⟩:=QC h fo;have hargs:∀{l:List Operand},c.args.toList=l->c.args.map a.eval=(l.map a.eval).toArray:=fun hl=>by
  apply Array.ext';simp[<-hl]
 unfold QfS at I;split at I
 ·rename_i a1 r rf ff gf x heq U
  cases hx:ff.isx with
  | true=>simp[hx] at I
  | false=>
   rw[hx,aLC] at I;replace I:=aLa.1 I;obtain⟨u,hu,I⟩:=I;replace I:=aLa.1 I;obtain⟨y,hy,I⟩:=I;cases hff:QO r rf with
   | false=>simp[hff] at I
   | true=>
    rw[hff,aLB] at I;simp only[aLb] at I;subst I;obtain⟨z,hz,hz'⟩:=hf;simp only[aLb] at hz';subst hz';rw[heq] at hfo;obtain⟨v,⟨hv1,hv2⟩,hcall⟩:=hfo.2 (QmR hx);have hvv:a.eval fo=v:=by
     have h1:(a.eval fo).cells = #[a.eval fo]:=hfo.1
     simp only[Qg,h1] at hv1;simpa using hv1
    obtain⟨Tx,hxo,_,_⟩:=QC h x;obtain⟨S,hS,J⟩:=QnC h hxo hu;obtain⟨hsh,hyy⟩:=Qdv hy;obtain⟨us,ux⟩:=u;simp only at hsh;subst hsh;simp only at hyy;subst hyy;obtain⟨j,cap,hvf,hE,hcl⟩:=hcall (fun i=>g.Z i\/S i) w ⟨fun i hi=>.inl hi,fun _ _=>rfl,fun i hi=>hi.elim (fun hi=>h.lt i (by rw[show g.ow i=.fz from hi];simp)) (hS i)⟩ _ _ _ J.1 J.2 hz
    refine .call (Qjs (f:=fo) ho hc hE (caps:=cap) (by rw[hvv,hvf])) (by rw[hargs U];simpa using hcl) (fun en w' hR=>h.back hR o.dst hff (fun Z'' own vr hh=>hh))
 ·rename_i a1 b1 r ff gf x x' heq U
  cases hx:ff.isx with
  | true=>simp[hx] at I
  | false=>
   rw[hx,aLC] at I;replace I:=aLa.1 I;obtain⟨u,hu,I⟩:=I;replace I:=aLa.1 I;obtain⟨y,hy,I⟩:=I;replace I:=aLa.1 I;obtain⟨u',hu',I⟩:=I;replace I:=aLa.1 I;obtain⟨y',hy',I⟩:=I;cases hff:QO r .z with
   | false=>simp[hff] at I
   | true=>
    rw[hff,aLB] at I;simp only[aLb] at I;subst I;obtain⟨z,hz,hz'⟩:=hf;simp only[aLb] at hz';subst hz';rw[heq] at hfo;obtain⟨v,⟨hv1,hv2⟩,hcall⟩:=hfo.2 (QmR hx);have hvv:a.eval fo=v:=by
     have h1:(a.eval fo).cells = #[a.eval fo]:=hfo.1
     simp only[Qg,h1] at hv1;simpa using hv1
    obtain⟨Tx,hxo,_,_⟩:=QC h x;obtain⟨Tx',hxo',_,_⟩:=QC h x';obtain⟨S,hS,J⟩:=QnC h hxo hu;obtain⟨S',hS',hrep'⟩:=QnC h hxo' hu';obtain⟨hsh,hyy⟩:=Qdv hy;obtain⟨hsh',hyy'⟩:=Qdv hy';obtain⟨us,ux⟩:=u;simp only at hsh;subst hsh;simp only at hyy;subst hyy;obtain⟨us',ux'⟩:=u';simp only at hsh';subst hsh';simp only at hyy';subst hyy';have r1:=J.2.mono (Z':=fun i=>g.Z i\/S i\/S' i) (fun i hi=>hi.imp id .inl) (fun _ h=>h)
    have r2:=hrep'.2.mono (Z':=fun i=>g.Z i\/S i\/S' i) (fun i hi=>hi.imp id .inr) (fun _ h=>h)
    obtain⟨j,cap,hvf,hE,hcl⟩:=hcall (fun i=>g.Z i\/S i\/S' i) w ⟨fun i hi=>.inl hi,fun _ _=>rfl,fun i hi=>hi.elim (fun hi=>h.lt i (by rw[show g.ow i=.fz from hi];simp)) (fun hi=>hi.elim (hS i) (hS' i))⟩ _ _ _ _ _ J.1 r1 hrep'.1 r2 hz
    refine .call (Qjs (f:=fo) ho hc hE (caps:=cap) (by rw[hvv,hvf])) (by rw[hargs U];simpa using hcl) (fun en w' hR=>h.back hR o.dst hff (fun Z'' own vr hh=>hh))
 ·cases I
end Go.Dx
namespace Go.Dx
variable {P:Program} {B:Base} {g:Gh} {e:Env} {a:Act} {w:World} {C:Ctx}
theorem QsS:∀(p:List Step) {S:Sh} {F:Fl} {X:S.den} {y:Dv},QK p=true->getP S F X p=some y->QG S X p:=by
 intro p;induction p with
 | nil=>intro S F X y _ _;simp[QG]
 | cons st p U=>intro S F X y I J;cases S<;>cases st<;>first | (simp[getP] at J;done) | (simp[QK] at I;done) | exact U I J
theorem QkR (h:Rel P B g e a w) (k:Nat) {r:Root} {l:Option Dv} {p:List Step} (hl:∀y,l=some y->∃S F X,(e.root r).d=.v S F X/\getP S F X p=some y) {e':Env} {y:Dv} (ho:e.out r l p=some (e',y)) :
  ∃S F X F' g',QK p=true/\l=some y/\(e.root r).d=.v S F X/\getP S F X p=some y/\setF S F p .x=some F'/\e'=e.flag r (.v S F' X)/\
   Flight g g' k/\Rel P B g' e' a w/\RepC P y.sh y.fl g'.Z w (g'.S (.fl k)) (Qm w S (Ql g a w r) p) y.x:=by
 unfold Env.out at ho;cases hn:QK p with
 | false=>simp_all
 | true=>
  rw[hn,aLB] at ho;obtain⟨y0,hl0,ho⟩:=aLa.1 ho;obtain⟨S,F,X,hdr,hg⟩:=hl y0 hl0;rw[hdr] at ho;simp at ho;obtain⟨F',U,rfl,rfl⟩:=ho;have hroot:=h.root r hdr
  obtain⟨T0,hT0,hrep,hrest⟩:=RepC.take _ hroot (QsS p hn hg) U hg;have I:∀j,T0 j->g.ow j=tagR r:=fun j hj=>by have:=hT0 j hj;cases r<;>exact this
  have J:∀t,t ≠ tagR r->∀j,g.ow j=t->(g.re T0 (.fl k)).ow j=t:=fun t J j hj=>(Gh.re_out fun hT=>J (hj.symm.trans (I j hT))).trans hj
  refine⟨S,F,X,F',g.re T0 (.fl k),rfl,hl0,hdr,hg,U,rfl,⟨rfl,fun j=>?_⟩,?_,?_⟩
  ·by_cases hj:T0 j
   ·refine .inr ⟨Gh.re_in hj,?_⟩
    have:=I j hj
    cases r with
    | s i=>exact .inl ⟨i,this⟩
    | b i=>exact .inr ⟨i,this⟩
   ·exact .inl (Gh.re_out hj)
  ·refine h.flag r hdr (fun q=>Qky _ q U) rfl (fun j=>?_) ?_
   ·by_cases hj:T0 j
    ·exact .inr ⟨I j hj,.inr ⟨k,Gh.re_in hj⟩⟩
    ·exact .inl (Gh.re_out hj)
   ·refine hrest.mono (fun j hj=>J .fz (by cases r<;>simp[tagR]) j hj) (fun j hj=>?_)
    refine (Gh.re_out hj.2).trans ?_;have:=hj.1;cases r<;>exact this
  ·exact hrep.mono (fun j hj=>J .fz (by cases r<;>simp[tagR]) j hj) (fun j hj=>Gh.re_in hj)
theorem Qsq {r:Root} {p:List Step} {y:Dv} (h:e.lookU r p=some y):∃S F X,(e.root r).d=.v S F X/\getP S F X p=some y:=by
 unfold Env.lookU at h
 grind
theorem QvN (h:Rel P B g e a w) (k:Nat) {r:Root} {ver:Nat} {p:List Step} {e':Env} {y:Dv} (ho:e.out r (e.lookL r ver p) p=some (e',y)) :
  ∃S F X F' g',QK p=true/\(e.root r).stamp p=ver/\(e.root r).d=.v S F X/\getP S F X p=some y/\setF S F p .x=some F'/\e'=e.flag r (.v S F' X)/\
   Flight g g' k/\Rel P B g' e' a w/\RepC P y.sh y.fl g'.Z w (g'.S (.fl k)) (Qm w S (Ql g a w r) p) y.x:=by
 obtain⟨S,F,X,F',g',h1,h2,h3⟩:=QkR h k (fun y I=>(Qjr I).2) ho
 exact⟨S,F,X,F',g',h1,(Qjr h2).1,h3⟩
theorem QpB (h:Rel P B g e a w) {k:Nat} {s:Sh} {f f':Fl} {c:Nat->Option Value} {x:s.den} (hw:Qq s f f'=true) (hr:RepC P s f g.Z w (g.S (.fl k)) c x) :
  ∃g',g'.pl=g.pl/\(∀j,g'.ow j=g.ow j\/(g.ow j=.fl k/\g'.ow j=.fz))/\Rel P B g' e a w/\RepC P s f' g'.Z w (g'.S (.fl k)) c x:=by
 obtain⟨T,U,J⟩:=RepC.weak hw hr;have I:∀j t,t ≠ .fl k->g.ow j=t->(g.re T .fz).ow j=t:=fun j t ht hj=>(Gh.re_out fun h=>ht (hj.symm.trans (U j h))).trans hj
 refine⟨g.re T .fz,rfl,fun j=>?_,?_,?_⟩
 ·by_cases hj:T j
  ·exact .inr ⟨U j hj,Gh.re_in hj⟩
  ·exact .inl (Gh.re_out hj)
 ·exact h.step (fun _=>False) (fun _=>False) h.lens h.defers (fun _ _=>⟨rfl,rfl⟩) (fun _ _=>⟨rfl,rfl⟩) (fun _ h=>h.elim) (fun _ h=>h.elim) (fun _ h=>h.elim) (fun _ h=>h.elim) (fun _ h=>h.elim) (fun _ h=>h.elim)
   (fun i hi=>⟨I i _ (by simp) hi,rfl⟩) (fun i j _ hj=>⟨I j _ (by simp) hj,rfl⟩) (fun i j _ hj=>⟨I j _ (by simp) hj,rfl⟩) (fun i j _ hj=>⟨I j _ (by simp) hj,rfl⟩)
   (Streams.refl _) (fun _ _ _=>rfl) (fun i h1 h2 h3=>I i _ (by simp) (h.nn i h1 h2 h3)) (fun i hi=>h.lt i fun h0=>hi (I i _ (by simp) h0)) (fun _ _ h=>h.elim) (fun _ _ h=>h.elim) (fun _ _ h=>h.elim)
 ·exact J.mono (fun i hi=>hi.elim (fun h=>I i _ (by simp) h) (fun h=>Gh.re_in h)) (fun i hi=>(Gh.re_out hi.2).trans hi.1)
def Wand (P:Program) (w:World) (Z I:Nat->Prop) (S:Sh) (F:Fl) (X:S.den) (p:List Step) (c:Nat->Option Value) (U:Nat->Option Value):Prop:=
 ∀(Z':Nat->Prop) (w':World) (J:Nat->Prop) (n:Dv) (r:Fl×S.den) (inl:Bool),(∀i,Z i->Z' i)->(∀i,I i\/Z i->w'.heap[i]? = w.heap[i]?)->(∀i,J i->¬I i)->setP S F X p inl n=some r->
  RepC P n.sh n.fl Z' w' J U n.x->RepC P S r.1 Z' w' (fun i=>I i\/J i) c r.2
theorem Wand.mono {Z I J:Nat->Prop} {S:Sh} {F:Fl} {X:S.den} {p:List Step} {c U:Nat->Option Value} (h:Wand P w Z J S F X p c U) (hz:∀i,Z i->I i):Wand P w I J S F X p c U:=
 fun Z' w' T' n r inl h1 h2 h3 h4 h5=>h Z' w' T' n r inl (fun i hi=>h1 i (hz i hi)) (fun i hi=>h2 i (hi.imp id (hz i))) h3 h4 h5
theorem RepC.hole {Z:Nat->Prop} {w:World}:∀(p:List Step) {S:Sh} {F:Fl} {Sg:Nat->Prop} {c:Nat->Option Value} {X:S.den} {y:Dv},
  RepC P S F Z w Sg c X->QG S X p->ownP S F p=true->getP S F X p=some y->
  ∃I:Nat->Prop,(∀i,I i->Sg i)/\RepC P y.sh y.fl Z w (fun i=>Sg i/\¬I i) (Qm w S c p) y.x/\Wand P w Z I S F X p c (Qm w S c p):=by
 intro p;induction p with
 | nil=>
  intro S F Sg c X y hr _ _ hy;simp only[getP,aLb] at hy;subst hy;refine⟨fun _=>False,fun _ h=>h.elim,by simp only[Qm];exact hr.mono (fun _ h=>h) (fun i h=>⟨h,id⟩),?_⟩
  intro Z' w' U n r inl _ _ _ hs hn;simp only[Qm] at hn;simp only[setP,aLa] at hs;obtain⟨u,hu,hs⟩:=hs;have hu:=ZK hu
  obtain⟨nsh,nfl,nx⟩:=n;simp only[aMy] at hu;obtain⟨rfl,hu⟩:=hu;have hu:=eq_of_heq hu
  grind
 | cons st p ih=>
  intro S F Sg c X y hr hp ho hy;cases S with
  | prod a b=>
   obtain⟨t,ra,rb⟩:=hr;cases st with
   | fst=>
    obtain⟨I,h1,h2,h3⟩:=ih ra hp ho hy;refine⟨fun i=>I i\/(Sg i/\t i=false),fun i hi=>hi.elim (fun h=>(h1 i h).1) (·.1),h2.mono (fun _ h=>h) (fun i hi=>⟨hi.1.1,fun hh=>hh.elim hi.2 (fun hh=>by rw[hi.1.2] at hh;cases hh.2)⟩),?_⟩
    intro Z' w' U n r inl hz hw hd hs hn;simp only[setP,aLd] at hs;obtain⟨z,J,rfl⟩:=hs;have hA:=h3 Z' w' U n z inl hz (fun i hi=>hw i (hi.imp .inl id)) (fun i hi hT=>hd i hi (.inl hT)) J hn
    refine⟨fun i=>@decide (I i\/U i) (Classical.propDecidable _),?_,?_⟩
    ·rw[Fl.fst_mk];exact hA.mono (fun _ h=>h) (fun i hi=>⟨hi.imp .inl id,by simpa using hi⟩)
    ·rw[Fl.snd_mk]
     refine rb.frame hz (fun i hi=>⟨.inl (.inr hi),?_⟩) (fun i hi=>hw i (hi.imp .inr id))
     have:¬(I i\/U i):=by
      rintro (h | h)
      ·have:=(h1 i h).2;rw[hi.2] at this;cases this
      ·exact hd i h (.inr hi)
     simpa using this
   | snd=>
    obtain⟨I,h1,h2,h3⟩:=ih rb hp ho hy;refine⟨fun i=>I i\/(Sg i/\t i=true),fun i hi=>hi.elim (fun h=>(h1 i h).1) (·.1),h2.mono (fun _ h=>h) (fun i hi=>⟨hi.1.1,fun hh=>hh.elim hi.2 (fun hh=>by rw[hi.1.2] at hh;cases hh.2)⟩),?_⟩
    intro Z' w' U n r inl hz hw hd hs hn;simp only[setP,aLd] at hs;obtain⟨z,J,rfl⟩:=hs;have hA:=h3 Z' w' U n z inl hz (fun i hi=>hw i (hi.imp .inl id)) (fun i hi hT=>hd i hi (.inl hT)) J hn
    refine⟨fun i=>!@decide (I i\/U i) (Classical.propDecidable _),?_,?_⟩
    ·rw[Fl.fst_mk]
     refine ra.frame hz (fun i hi=>⟨.inl (.inr hi),?_⟩) (fun i hi=>hw i (hi.imp .inr id))
     have:¬(I i\/U i):=by
      rintro (h | h)
      ·have:=(h1 i h).2;rw[hi.2] at this;cases this
      ·exact hd i h (.inr hi)
     simpa using this
    ·rw[Fl.snd_mk];exact hA.mono (fun _ h=>h) (fun i hi=>⟨hi.imp .inl id,by simpa using hi⟩)
   | idx i=>simp[ownP] at ho
   | sub l h=>simp[ownP] at ho
  | list s=>
   cases st with
   | fst=>simp[ownP] at ho
   | snd=>simp[ownP] at ho
   | sub l h=>simp[ownP] at ho
   | idx i=>
    cases F with
    | o g=>
     obtain⟨hin,hp⟩:=hp;obtain⟨A,m,cap,e1,e2,e3,e4⟩:=hr;rcases e4 with ⟨rfl,h,h'⟩ | ⟨b,off,arr,e,rfl,hS,hw0,hsz,t,hel⟩
     ·omega
     ·have hi':i.toNat<List.length X:=by omega
      have hg:List.getD X i.toNat s.dflt=X[i.toNat]'hi':=by rw[aLk,aLf hi'];rfl
      have hc:Qga w s i (c 0)=Qd w b (off+i.toNat * s.size):=by rw[e1];rfl
      have he:=hel i.toNat hi'
      rw[<-hg] at he;obtain⟨I,h1,h2,h3⟩:=ih he hp ho hy;refine⟨fun j=>I j\/(Sg j/\(j=b\/t j ≠ i.toNat)),fun j hj=>hj.elim (fun h=>(h1 j h).1) (·.1),?_,?_⟩
      ·simp only[Qm,hc]
       exact h2.mono (fun _ h=>h) (fun j hj=>⟨hj.1.1,fun hh=>hh.elim hj.2 (fun hh=>hh.2.elim hj.1.2.1 (fun h=>h hj.1.2.2))⟩)
      ·intro Z' w' U n r inl hz hw hd hs hn
       simp only[setP,aLd] at hs;obtain⟨z,J,rfl⟩:=hs;simp only[Qm,hc] at hn;have hA:=h3 Z' w' U n z true hz (fun j hj=>hw j (hj.imp .inl id)) (fun j hj hT=>hd j hj (.inl hT)) J hn
       have hb:w'.heap[b]? = w.heap[b]?:=hw b (.inl (.inr ⟨hS,.inl rfl⟩))
       refine⟨_,m,cap,e1,by simpa using e2,e3,.inr ⟨b,off,arr,e,rfl,.inl (.inr ⟨hS,.inl rfl⟩),hb.trans hw0,hsz,fun j=>@ite _ (U j) (Classical.propDecidable _) i.toNat (t j),fun j hj=>?_⟩⟩
       have hj':j<List.length X:=by simpa using hj
       by_cases hji:i.toNat=j
       ·subst hji
        simp only[List.getElem_set_self];rw[Zm hb];refine (QnQ _ J hA).mono (fun _ h=>h) (fun k hk=>?_)
        grind
       ·simp only[List.getElem_set_ne hji]
        rw[Zm hb];refine (hel j hj').frame hz (fun k hk=>?_) (fun k hk=>hw k (hk.imp (fun hk=>.inr ⟨hk.1,.inr (fun hh=>hji (hh.symm.trans hk.2.2))⟩) id))
        have hnT:¬U k:=fun hT=>hd k hT (.inr ⟨hk.1,.inr (fun hh=>hji (hh.symm.trans hk.2.2))⟩)
        exact⟨.inl (.inr ⟨hk.1,.inr (fun hh=>hji (hh.symm.trans hk.2.2))⟩),hk.2.1,by simp[hnT,hk.2.2]⟩
    | z=>simp[ownP] at ho
    | x=>simp[ownP] at ho
    | p a b=>simp[ownP] at ho
    | h f0 i0=>simp[ownP] at ho
  | int k=>cases st<;>simp[ownP] at ho
  | bool=>cases st<;>simp[ownP] at ho
  | str=>cases st<;>simp[ownP] at ho
  | fn1 a r rf=>cases st<;>simp[ownP] at ho
  | fn2 a b r=>cases st<;>simp[ownP] at ho
def Fr (i m:Nat):Prop:=(i<=m/\m<PK)\/PK+i<=m
structure Gave (g g':Gh) (i:Nat):Prop where
 pl:g'.pl=g.pl
 ow:∀j,g'.ow j=g.ow j\/((g'.ow j=.fl i\/g'.ow j=.fl (PK+i)\/g'.ow j=.fz)/\((∃n,g.ow j=.s n)\/∃n,g.ow j=.b n))
theorem Gave.refl (g:Gh) (i:Nat):Gave g g i:=⟨rfl,fun _=>.inl rfl⟩
theorem Gave.of {g g1 g2:Gh} {i:Nat} (h:Flight g g1 i) (U:∀j,g.ow j ≠ .fl i) (I:g2.pl=g1.pl) (J:∀j,g2.ow j=g1.ow j\/(g1.ow j=.fl i/\(g2.ow j=.fz\/g2.ow j=.fl (PK+i)))):Gave g g2 i:=by
 refine⟨I.trans h.pl,fun j=>?_⟩
 rcases J j with h1 | ⟨h1,h2⟩
 ·rcases h.ow j with h3 | ⟨h3,h4⟩
  ·simp_all
  simp_all
 ·rcases h.ow j with h3 | ⟨h3,h4⟩
  ·simp_all
  grind
def Y6 (e e':Env):Prop:=∀t,(∀S F X,(e.s t).d ≠ .v S F X)->e'.s t=e.s t
theorem Y6.refl (e:Env):Y6 e e:=fun _ _=>rfl
theorem Qj5 {r:Root} {S:Sh} {F F':Fl} {X:S.den} (hd:(e.root r).d=.v S F X):Y6 e (e.flag r (.v S F' X)):=by
 intro t I;show (e.flag r _).root (.s t)=e.root (.s t)
 rw[Zv hd];split
 ·rename_i J;subst J;exact absurd hd (I S F X)
 rfl
theorem QpY {r:Root} {l:Option Dv} {p:List Step} {e':Env} {y:Dv} (ho:e.out r l p=some (e',y)):Y6 e e':=by
 unfold Env.out at ho;cases I:QK p with
 | false=>simp_all
 | true=>
  rw[I] at ho;obtain⟨J,U,ho⟩:=aLa.1 ho;split at ho
  ·rename_i S F X hdr
   simp at ho;obtain⟨F',_,rfl,_⟩:=ho;exact Qj5 hdr
  simp_all
theorem Qtt {o:Operand} {want:Sh} {e':Env} {y:Dv} (h:e.take o.slot want (e.opd o)=some (e',y)):Y6 e e':=by
 cases hd:e.opd o with
 | v s f x=>
  rw[hd] at h;simp only[Env.take] at h;cases I:f.isz with
  | true=>simp only[I,aLB,aLb,aLe] at h;obtain⟨rfl,_⟩:=h;exact .refl e
  | false=>
   rw[I,aLC] at h;cases o with
   | tmp t=>
    obtain⟨rfl,_⟩:=h;intro u hu;have J:t ≠ u:=by rintro rfl;exact hu _ _ _ hd
    simp only[Env.setS,Env.s,upd,ZY];rw[if_neg (fun h=>J h.1)]
   | const v=>simp[Operand.slot] at h
   | func v=>simp[Operand.slot] at h
   | global v=>simp[Operand.slot] at h
 | bor r ver p=>
  rw[hd] at h;simp only[Env.take,aLa] at h;obtain⟨U,hl,h⟩:=h;cases I:U.fl.isz with
  | true=>simp only[I,aLB,aLb,aLe] at h;obtain⟨rfl,_⟩:=h;exact .refl e
  | false=>
   rw[I,aLC] at h;cases hx:U.fl.isx with
   | true=>rw[hx,aLB] at h;cases h
   | false=>
    rw[hx,aLC] at h;split at h
    ·rename_i S F X hdr
     simp only[aLd,aLe] at h;obtain⟨F',_,rfl,_⟩:=h;exact Qj5 hdr
    ·cases h
 | nil=>
  rw[hd] at h;simp only[Env.take] at h;split at h
  ·simp only[aLb,aLe] at h;obtain⟨rfl,_⟩:=h;exact .refl e
  ·cases h
 | dead=>rw[hd] at h;simp[Env.take] at h
 | und=>rw[hd] at h;simp[Env.take] at h
 | loc r ver p=>rw[hd] at h;simp[Env.take] at h
 | rp s x=>rw[hd] at h;simp[Env.take] at h
 | rpp s x=>rw[hd] at h;simp[Env.take] at h
 | clos j c=>rw[hd] at h;simp[Env.take] at h
 | tup l=>rw[hd] at h;simp[Env.take] at h
end Go.Dx
namespace Go.Dx
variable {P:Program} {B:Base} {g:Gh} {e:Env} {a:Act} {w:World} {C:Ctx}
def Qcv (e e':Env):Prop:=∀r S F X,(e.root r).d=.v S F X->(∃F',(e'.root r).d=.v S F' X)\/((e'.root r).d=.dead/\∃t,r=.s t)
theorem Qcv.refl (e:Env):Qcv e e:=fun n S F X h=>.inl ⟨F,h⟩
theorem Y6.trans {e e' I:Env} (h:Y6 e e') (k:Y6 e' I):Y6 e I:=fun t J=>(k t (by rw[h t J];exact J)).trans (h t J)
theorem Qcv.trans {e e' I:Env} (h:Qcv e e') (k:Qcv e' I) (l:Y6 e' I):Qcv e I:=by
 intro r S F X hd;rcases h r S F X hd with ⟨F',J⟩ | ⟨J,t,rfl⟩
 ·exact k r S F' X J
 ·right
  refine⟨?_,t,rfl⟩;rw[show I.root (.s t)=e'.root (.s t) from l t (fun S F X hh=>by rw[show (e'.s t).d=.dead from J] at hh;cases hh)]
  grind
theorem QjD {r:Root} {S:Sh} {F F':Fl} {X:S.den} (hd:(e.root r).d=.v S F X):Qcv e (e.flag r (.v S F' X)):=by
 intro n I J U h2;left;rw[Zv hd]
 grind
theorem Qof {r:Root} {l:Option Dv} {p:List Step} {e':Env} {y:Dv} (ho:e.out r l p=some (e',y)):Qcv e e':=by
 unfold Env.out at ho;cases I:QK p with
 | false=>simp_all
 | true=>
  rw[I] at ho;obtain⟨J,U,ho⟩:=aLa.1 ho;split at ho
  ·rename_i S F X hdr
   simp at ho;obtain⟨F',_,rfl,_⟩:=ho;exact QjD hdr
  simp_all
theorem Qsr {o:Option Nat} {d:Desc} {want:Sh} {e':Env} {y:Dv} (h:e.take o want d=some (e',y)):Qcv e e':=by
 cases d with
 | v s f x=>
  simp only[Env.take] at h;cases I:f.isz with
  | true=>simp only[I,aLB,aLb,aLe] at h;obtain⟨rfl,_⟩:=h;exact .refl e
  | false=>
   rw[I,aLC] at h;cases o with
   | some t=>
    simp only[aLb,aLe] at h;obtain⟨rfl,_⟩:=h;intro r S F X hd;cases r with
    | b n=>exact .inl ⟨F,hd⟩
    | s u=>
     have hu:=Env.lt_of_v (e:=e) (i:=u) hd
     by_cases J:t=u
     ·subst J
      right;refine⟨?_,t,rfl⟩;show ((e.setS t .dead).s t).d=.dead
      rw[QfV hu,if_pos rfl]
     ·left
      refine⟨F,?_⟩;show ((e.setS t .dead).s u).d=_
      simp only[Env.setS,Env.s,upd,ZY];rw[if_neg (fun h=>J h.1)]
      exact hd
   | none=>simp at h
 | bor r ver p=>
  simp only[Env.take,aLa] at h;obtain⟨U,hl,h⟩:=h;cases I:U.fl.isz with
  | true=>simp only[I,aLB,aLb,aLe] at h;obtain⟨rfl,_⟩:=h;exact .refl e
  | false=>
   rw[I,aLC] at h;cases hx:U.fl.isx with
   | true=>rw[hx,aLB] at h;cases h
   | false=>
    rw[hx,aLC] at h;split at h
    ·rename_i S F X hdr
     simp only[aLd,aLe] at h;obtain⟨F',_,rfl,_⟩:=h;exact QjD hdr
    ·cases h
 | nil=>
  simp only[Env.take] at h;split at h
  ·simp only[aLb,aLe] at h;obtain⟨rfl,_⟩:=h;exact .refl e
  ·cases h
 | dead=>simp[Env.take] at h
 | und=>simp[Env.take] at h
 | loc r ver p=>simp[Env.take] at h
 | rp s x=>simp[Env.take] at h
 | rpp s x=>simp[Env.take] at h
 | clos j c=>simp[Env.take] at h
 | tup l=>simp[Env.take] at h
theorem Qlw:∀p:List Step,p=Qcw p++Qft p
 | []=>rfl
 | .fst::r=>congrArg (Step.fst :: ·) (Qlw r)
 | .snd::r=>congrArg (Step.snd :: ·) (Qlw r)
 | .idx _::_=>rfl
 | .sub _ _::_=>rfl
theorem Qq8:∀(p:List Step) {S:Sh} {F:Fl},ownP S F p=true->Qh S F p=true:=by
 intro p;induction p with
 | nil=>intro S F _;simp[Qh]
 | cons st p I=>
  intro S F h;cases S with
  | prod a b=>cases st<;>first | (simp[ownP] at h;done) | exact I h
  | list s=>
   cases st with
   | fst=>assumption
   | snd=>assumption
   | sub l J=>simp[ownP] at h
   | idx i=>
    cases F with
    | o f=>simp[Qh];exact I h
    | z=>simp[ownP] at h
    | x=>assumption
    | p a b=>assumption
    | h f0 i0=>simp[ownP] at h
  | int k=>cases st<;>simp[ownP] at h
  | bool=>cases st<;>simp[ownP] at h
  | str=>cases st<;>simp[ownP] at h
  | fn1 a r rf=>cases st<;>simp[ownP] at h
  | fn2 a b r=>cases st<;>simp[ownP] at h
theorem Qq3:∀(p:List Step) {S:Sh} {F:Fl} {X:S.den} {q:List Step} {y:Dv},QK p=true->getP S F X p=some y->ownP S F (p++q)=ownP y.sh y.fl q:=by
 intro p;induction p with
 | nil=>intro S F X q y _ h;simp[getP] at h;subst h;rfl
 | cons st p J=>
  intro S F X q y I h;cases S<;>cases st<;>first | (simp[getP] at h;done) | (simp[QK] at I;done) | exact J I h
def QhJ (P:Program) (g:Gh) (e:Env) (a:Act) (w:World) (i:Nat) (p:PS) (v:Value):Option ((s:Sh)×s.den)->List WB->Prop
 | none,I=>I=[]/\((∃s,p=.v s .z)\/∃s q,p=.rp s q)
 | some x,I=>x.1=p.sh/\match p with
  | .v s f=>I=[]/\RepV P x.1 f g.Z w (g.S (.fl i)) v x.2
  | .rp _ _=>False
  | .io s f f'=>∃n q S F X hb ho mid,I=[⟨.b n,q,s,f',true,mid,[]⟩]/\QK q=true/\getS S q=some s/\(e.root (.b n)).d=.v S F X/\g.pl n=.cells hb ho/\v=.pointer (some ⟨hb,ho+offs S q,none⟩)/\
    RepC P x.1 f g.Z w (g.S (.fl i)) (Qd w hb (ho+offs S q)) x.2
  | .mu s f f'=>RepV P x.1 f g.Z w (g.S (.fl i)) v x.2/\∃r q S X J mid rest,I=[⟨r,q,s,f',false,mid,rest⟩]/\QK q=true/\getS S q=some mid.sh/\((∃F,(e.root r).d=.v S F X)\/((e.root r).d=.dead/\∃t,r=.s t))/\
    (∀j,J j->g.ow j=.fl (PK+i))/\Wand P w g.Z J mid.sh mid.fl mid.x rest (fun k=>Ql g a w r (offs S q+k)) (Qm w mid.sh (fun k=>Ql g a w r (offs S q+k)) rest)/\
    getS mid.sh rest=some s/\∀k,k<s.size->Qg v k=Qm w mid.sh (fun k=>Ql g a w r (offs S q+k)) rest k
theorem QvD (h:Rel P B g e a w) {i:Nat} (hi:i<PK) (hno:∀j m,Fr i m->g.ow j ≠ .fl m) {r:Root} {l:Option Dv} {q rest:List Step} {e1:Env} {mid y:Dv} {v:Value} {s:Sh} {f f':Fl}
  (hl:∀y,l=some y->∃S F X,(e.root r).d=.v S F X/\getP S F X q=some y) (I:e.out r l q=some (e1,mid)) (hown:ownP mid.sh mid.fl rest=true) (hget:getP mid.sh mid.fl mid.x rest=some y) (hpath:QG mid.sh mid.x rest) (hsh:y.sh=s) (hw:Qq y.sh y.fl f=true)
  (hform:Ys s v) (hcells:∀S F X,(e.root r).d=.v S F X->∀k,k<s.size->Qg v k=Qm w mid.sh (Qm w S (Ql g a w r) q) rest k) :
  ∃g1,Gave g g1 i/\Rel P B g1 e1 a w/\Y6 e e1/\Qcv e e1/\QhJ P g1 e1 a w i (.mu s f f') v (some ⟨y.sh,y.x⟩) [⟨r,q,s,f',false,mid,rest⟩]:=by
 obtain⟨S,F,X,F',g1,hn,hver,hdr,hg,hF',rfl,hfl,h1,hr1⟩:=QkR h i hl I;obtain⟨T1,ht1,hsub,J⟩:=RepC.hole rest hr1 hpath hown hget;have hne:∀j t,t ≠ .fl i->g1.ow j=t->(g1.re T1 (.fl (PK+i))).ow j=t:=fun j t ht hj=>(Gh.re_out fun hT=>ht (hj.symm.trans (ht1 j hT))).trans hj
 have h2:Rel P B (g1.re T1 (.fl (PK+i))) (e.flag r (.v S F' X)) a w:=h1.fly rfl (fun j _ hm=>⟨Gh.re_out (fun hT=>hm i (ht1 j hT)),rfl⟩) (Streams.refl _) (fun j hj=>by
  refine h1.lt j fun h0=>hj ?_
  exact hne j _ (by simp) h0)
 subst hsh;have U:=hsub.mono (Z':=(g1.re T1 (.fl (PK+i))).Z) (S':=(g1.re T1 (.fl (PK+i))).S (.fl i)) (fun j hj=>hne j _ (by simp) hj) (fun j hj=>(Gh.re_out hj.2).trans hj.1)
 obtain⟨k1,k2,k3,k4⟩:=YO w q (c:=Ql g a w r) hn (ZE q hg);have hcv:=hcells S F X hdr
 rw[k1] at hcv U J;have hsub3:=RepC.congr hcv U
 obtain⟨g3,hpl3,how3,h3,hr3⟩:=QpB h2 hw hsub3;have hrc:Ql g3 a w r=Ql g a w r:=by rw[ZN (g:=g) (hpl3.trans hfl.pl)]
 have how4:∀j,g3.ow j=g1.ow j\/(g1.ow j=.fl i/\(g3.ow j=.fz\/g3.ow j=.fl (PK+i))):=fun j=>by
  by_cases hT:T1 j
  ·rcases how3 j with h4 | ⟨h4,_⟩
   ·rw[Gh.re_in hT] at h4;exact .inr ⟨ht1 j hT,.inr h4⟩
   grind
  ·rcases how3 j with h4 | ⟨h4,h5⟩
   ·rw[Gh.re_out hT] at h4;exact .inl h4
   grind
 have hz3:∀j,g1.ow j=.fz->g3.ow j=.fz:=fun j hj=>by
  grind
 refine⟨g3,.of hfl (fun j=>hno j i (.inl ⟨aMb _,hi⟩)) hpl3 how4,h3,QpY I,Qof I,rfl,⟨hform,hr3⟩,r,q,S,X,T1,mid,rest,rfl,hn,ZE q hg,.inl ⟨F',?_⟩,fun j hj=>?_,?_,ZE rest hget,?_⟩
 ·rw[Zv hdr,if_pos rfl]
 ·rcases how3 j with h4 | ⟨h4,_⟩
  ·exact h4.trans (Gh.re_in hj)
  ·rw[Gh.re_in hj] at h4;simp only[Tag.fl.injEq] at h4;omega
 ·rw[hrc];exact J.mono hz3
 ·rw[hrc];exact hcv
theorem Qwd (h:Rel P B g e a w) {i:Nat} (hi:i<PK) (hnoF:∀j m,Fr i m->g.ow j ≠ .fl m) {p:PS} {o:Operand} {e1:Env} {x:Option ((s:Sh)×s.den)} {wbs:List WB} (I:argA e p o=some (e1,x,wbs)) :
  ∃g1,Gave g g1 i/\Rel P B g1 e1 a w/\Y6 e e1/\Qcv e e1/\QhJ P g1 e1 a w i p (a.eval o) x wbs:=by
 have hno:∀j,g.ow j ≠ .fl i:=fun j=>hnoF j i (.inl ⟨aMb _,hi⟩)
 obtain⟨T,hd,ht,_⟩:=QC h o;have tk:∀{s:Sh} {f:Fl} (d:Desc),e.opd o=d->p=.v s f->((e.take o.slot s d).bind fun (q:Env×Dv)=>bif decide (q.2.sh=s)&&Qq q.2.sh q.2.fl f then some (q.1,some (⟨q.2.sh,q.2.x⟩:(s:Sh)×s.den),([]:List WB)) else none)=some (e1,x,wbs)->
   ∃g1,Gave g g1 i/\Rel P B g1 e1 a w/\Y6 e e1/\Qcv e e1/\QhJ P g1 e1 a w i p (a.eval o) x wbs:=by
  intro s f d hdd hp hq2;clear I;subst hdd hp;replace hq2:=aLa.1 hq2;obtain⟨⟨e2,y⟩,htake,I⟩:=hq2;cases U:decide (y.sh=s)&&Qq y.sh y.fl f with
  | false=>simp[U] at I
  | true=>
   simp only[U,aLB,aLb,aLe] at I;obtain⟨rfl,rfl,rfl⟩:=I;simp only[aLg,aLF] at U;obtain⟨hsh,hw⟩:=U;obtain⟨g1,hfl,h1,hr1⟩:=Qee h i hno hd ht htake;obtain⟨g2,hpl2,how2,h2,hr2⟩:=Qhj h1 hw hr1;exact⟨g2,.of hfl hno hpl2 (fun j=>(how2 j).imp id (fun h=>⟨h.1,.inl h.2⟩)),h2,Qtt htake,Qsr htake,hsh,rfl,hr2⟩
 unfold argA at I;split at I
 ·
  rename_i s s' f v hxd;by_cases hs:s'=s
  ·subst hs
   simp only[aMc,aLB] at I;cases hz:f.isz with
   | true=>
    simp only[hz,aLB,aLb,aLe] at I;obtain⟨rfl,rfl,rfl⟩:=I;rw[hxd] at hd;obtain rfl:=Qac hz;exact⟨g,.refl g i,h,.refl e,.refl e,rfl,rfl,RepV.shared hd⟩
   | false=>
    rw[hz,aLC] at I;cases hok:okS s' f with
    | false=>simp[hok] at I
    | true=>
     simp only[hok,aLB,aLd,aLe] at I;obtain⟨t,hts,rfl,rfl,rfl⟩:=I;obtain⟨h1,h2,rfl⟩:=ht t hts;rw[hxd] at h1;obtain⟨g',hpl,hk,hrel⟩:=QmZ (p:=[]) (y:=⟨s',f,v⟩) (F':=.z) h (.s t) h1 (by simp only[getP]) hok (by simp only[setF])
     have hsl:=hrel.sl t
     rw[show ((e.flag (.s t) (.v s' .z v)).s t).d=.v s' .z v by show ((e.flag (.s t) (.v s' .z v)).root (.s t)).d=_;rw[Zv (r:=.s t) h1,if_pos rfl],h2] at hsl
     refine⟨g',⟨hpl,fun j=>?_⟩,hrel,Qj5 (r:=.s t) h1,QjD (r:=.s t) h1,rfl,rfl,RepV.shared hsl⟩
     rcases hk j with h3 | ⟨h3,h4⟩
     ·exact .inl h3
     ·exact .inr ⟨.inr (.inr h4),.inl ⟨t,h3⟩⟩
  ·simp[hs] at I
 ·cases I
 ·simp only[aLb,aLe] at I
  obtain⟨rfl,rfl,rfl⟩:=I;exact⟨g,.refl g i,h,.refl e,.refl e,rfl,.inl ⟨_,rfl⟩⟩
 ·rename_i d hd' hne
  exact tk _ rfl rfl I
 ·simp only[aLb,aLe] at I
  obtain⟨rfl,rfl,rfl⟩:=I;exact⟨g,.refl g i,h,.refl e,.refl e,rfl,.inr ⟨_,_,rfl⟩⟩
 ·
  rename_i s f f' r ver q hxd;obtain⟨⟨e2,y⟩,J,I⟩:=aLa.1 I;cases U:decide (y.sh=s)&&Qq y.sh y.fl f with
  | false=>simp[U] at I
  | true=>
   simp only[U,aLB,aLb,aLe] at I;obtain⟨rfl,rfl,rfl⟩:=I;simp only[aLg,aLF] at U;obtain⟨hsh,hw⟩:=U;obtain⟨S,F,X,F',g1,hn,hver,hdr,hg,hF',rfl,hfl,h1,hr1⟩:=QvN h i J;rw[hxd] at hd;have hd:Qah g e a w r ver q (a.eval o):=hd
   obtain⟨_,hpl⟩:=(hd.2.2 hver).2 S F X hdr;obtain⟨b,off,hA,hpt⟩:=hpl (J3 q hn (ZE q hg));obtain⟨k1,k2,k3,k4⟩:=YO w q (c:=Ql g a w r) hn (ZE q hg);cases r with
   | s t=>rw[show QU g (.s t)=none from rfl,k3] at hA;cases hA
   | b n=>
    cases hpn:g.pl n with
    | hdr u=>rw[show QU g (.b n)=none by simp[QU,hpn],k3] at hA;cases hA
    | cells hb ho=>
     rw[show QU g (.b n)=some (hb,ho) by simp[QU,hpn],k2] at hA
     simp only[aLb,aLe] at hA;obtain⟨rfl,rfl⟩:=hA;have hcell:Qm w S (Ql g a w (.b n)) q=Qd w hb (ho+offs S q):=by
      rw[k1,Qet g a w (show QU g (.b n)=some (hb,ho) by simp[QU,hpn])]
      funext k;simp[Qd,aMh]
     rw[hcell] at hr1;obtain⟨g2,hpl2,how2,h2,hr2⟩:=QpB h1 hw hr1;refine⟨g2,.of hfl hno hpl2 (fun j=>(how2 j).imp id (fun h=>⟨h.1,.inl h.2⟩)),h2,QpY J,Qof J,hsh,n,q,S,F',X,hb,ho,y,rfl,hn,hsh ▸ ZE q hg,?_,by rw[hpl2,hfl.pl];exact hpn,hpt,hr2⟩
     show ((e.flag (.b n) _).root (.b n)).d=_
     rw[Zv hdr,if_pos rfl]
 ·cases I
 ·
  rename_i s f f' r ver q hxd;obtain⟨⟨e2,mid,y⟩,J,I⟩:=aLa.1 I;cases U:decide (y.sh=s)&&Qq y.sh y.fl f with
  | false=>simp[U] at I
  | true=>
   simp only[U,aLB,aLb,aLe] at I;obtain⟨rfl,rfl,rfl⟩:=I;simp only[aLg,aLF] at U;obtain⟨hsh,hw⟩:=U;unfold Env.outM at J;obtain⟨⟨e3,mid'⟩,hout1,h2⟩:=aLa.1 J;cases hown:ownP mid'.sh mid'.fl (Qft q) with
   | false=>simp[hown] at h2
   | true=>
    simp only[hown,aLB,aLd,aLe] at h2;obtain⟨y',hget,rfl,rfl,rfl⟩:=h2;have hlU:∀y,((e.look r ver q).bind fun _=>e.lookU r (Qcw q))=some y->∃S F X,(e.root r).d=.v S F X/\getP S F X (Qcw q)=some y:=fun y hy=>by
     obtain⟨_,_,hy⟩:=aLa.1 hy;exact Qsq hy
    obtain⟨S,F,X,F',g1,hn,hl0,hdr,hg,_⟩:=QkR h i hlU hout1;obtain⟨y0,hlk,_⟩:=aLa.1 hl0;have hver:=(h.look hlk).1
    rw[hxd] at hd;have hd:Qbq g e a w r ver q (a.eval o):=hd
    obtain⟨hpath,hcl⟩:=hd.2 hver S F X hdr;have hq':=Qlw q
    have hget':getP S F X q=some y':=by rw[hq',Qeu,hg];exact hget
    rw[hq'] at hpath;obtain⟨_,hpath⟩:=QjN _ hg hpath;have hng:Qh S F q=true:=Qq8 q (by rw[hq',Qq3 _ hn hg];exact hown)
    obtain⟨hform,hcells⟩:=hcl hng _ (ZE q hget');subst hsh;refine QvD h hi hnoF hlU hout1 hown hget hpath rfl hw hform (fun S2 F2 X2 hd2 k hk=>?_)
    obtain⟨rfl,rfl,hX⟩:=ZR (hdr.symm.trans hd2);rw[hcells k hk,hq',Qe0 _ (ZE _ hg),<-hq']
 ·rename_i s f f' s' fl v hxd
  obtain⟨t,hts,I⟩:=aLa.1 I;obtain⟨⟨e2,y⟩,J,I⟩:=aLa.1 I;cases U:decide (y.sh=s)&&Qq y.sh y.fl f with
  | false=>simp[U] at I
  | true=>
   simp only[U,aLB,aLb,aLe] at I;obtain⟨rfl,rfl,rfl⟩:=I;simp only[aLg,aLF] at U;obtain⟨hsh,hw⟩:=U;have hlk:∀y,e.look (.s t) (e.s t).hv []=some y->∃S F X,(e.root (.s t)).d=.v S F X/\getP S F X []=some y:=fun y hy=>(h.look hy).2
   obtain⟨S,F,X,F',g1,hn,hver,hdr,hg,_⟩:=QkR h i hlk J;obtain⟨q1,q2,rfl⟩:=ht t hts;rw[hxd] at hd q1;have hdr':=hdr
   rw[show (e.root (.s t)).d=_ from q1] at hdr'
   obtain⟨rfl,rfl,hX⟩:=ZR hdr';subst hX;simp only[getP,aLb] at hg;subst hg;have hd:RepV P s' fl g.Z w (g.S (.s t)) (a.eval o) v:=hd
   subst hsh;refine QvD h hi hnoF hlk J (by simp only[ownP]) (by simp only[getP]) (by simp only[QG]) rfl hw hd.1 (fun S2 F2 X2 hd2 k hk=>?_)
   simp only[Qm,Ql,q2]
 ·cases I
theorem QhJ.step {g g':Gh} {e e':Env} {i:Nat} {p:PS} {v:Value} {x:Option ((s:Sh)×s.den)} {U:List WB} (h:QhJ P g e a w i p v x U)
  (hpl:g'.pl=g.pl) (J:∀j,g.ow j=.fl i->g'.ow j=.fl i) (hpk:∀j,g.ow j=.fl (PK+i)->g'.ow j=.fl (PK+i)) (I:∀j,g.ow j=.fz->g'.ow j=.fz) (hk:Qcv e e') (hl:Y6 e e'):QhJ P g' e' a w i p v x U:=by
 cases x with
 | none=>exact h
 | some x=>
  refine⟨h.1,?_⟩;have h2:=h.2
  cases p with
  | v s f=>exact⟨h2.1,h2.2.frame I J (fun _ _=>rfl)⟩
  | rp s q=>simp_all
  | io s f f'=>
   obtain⟨n,q,S,F,X,hb,ho,mid,h3,h4,h5,h6,h7,h8,h9⟩:=h2;rcases hk _ S F X h6 with ⟨F',h6'⟩ | ⟨_,t,ht⟩
   ·exact⟨n,q,S,F',X,hb,ho,mid,h3,h4,h5,h6',by rw[hpl];exact h7,h8,h9.frame I J (fun _ _=>rfl)⟩
   grind
  | mu s f f'=>
   obtain⟨h3,r,q,S,X,T1,mid,rest,h4,h5,h6,h7,h8,h9,h10,h11⟩:=h2;have hrc:Ql g' a w r=Ql g a w r:=ZN hpl _ _ _
   refine⟨h3.frame I J (fun _ _=>rfl),r,q,S,X,T1,mid,rest,h4,h5,h6,?_,fun j hj=>hpk j (h8 j hj),by rw[hrc];exact h9.mono I,h10,by rw[hrc];exact h11⟩
   rcases h7 with ⟨F,h7⟩ | h7
   ·exact hk _ S F X h7
   ·obtain⟨h7,t,rfl⟩:=h7
    refine .inr ⟨?_,t,rfl⟩;rw[show e'.root (.s t)=e.root (.s t) from hl t (fun S F X hh=>by rw[show (e.s t).d=.dead from h7] at hh;cases hh)];exact h7
def QdQ (P:Program) (g:Gh) (e:Env) (a:Act) (w:World):Nat->List PS->List Operand->List (Option ((s:Sh)×s.den))->List WB->Prop
 | i,p::ps,o::os,x::xs,I=>∃J U,I=J++U/\QhJ P g e a w i p (a.eval o) x J/\QdQ P g e a w (i+1) ps os xs U
 | _,[],[],[],I=>I=[]
 | _,_,_,_,_=>False
theorem QdQ.step {g g':Gh} {e e':Env} (U:g'.pl=g.pl) (J:∀j m,g.ow j=.fl m->g'.ow j=.fl m) (hfz:∀j,g.ow j=.fz->g'.ow j=.fz) (hk:Qcv e e') (hl:Y6 e e') :
  ∀(ps:List PS) (i:Nat) {os:List Operand} {xs:List (Option ((s:Sh)×s.den))} {I:List WB},QdQ P g e a w i ps os xs I->QdQ P g' e' a w i ps os xs I:=by
 intro ps;induction ps with
 | nil=>intro i os xs I h;cases os<;>cases xs<;>first | exact h | exact h.elim
 | cons p ps ih=>
  intro i os xs I h;cases os with
  | nil=>assumption
  | cons o os=>
   cases xs with
   | nil=>assumption
   | cons x xs=>
    obtain⟨w1,w2,h1,h2,h3⟩:=h;exact⟨w1,w2,h1,h2.step U (fun j=>J j i) (fun j=>J j (PK+i)) hfz hk hl,ih (i+1) h3⟩
structure Gives (g g':Gh) (i:Nat):Prop where
 pl:g'.pl=g.pl
 ow:∀j,g'.ow j=g.ow j\/(((∃m,Fr i m/\g'.ow j=.fl m)\/g'.ow j=.fz)/\((∃n,g.ow j=.s n)\/∃n,g.ow j=.b n))
theorem Gives.keep {g g':Gh} {i:Nat} (h:Gives g g' i) {j:Nat} {t:Tag} (hj:g.ow j=t) (h1:∀n,t ≠ .s n) (h2:∀n,t ≠ .b n):g'.ow j=t:=by
 rcases h.ow j with h3 | ⟨_,h3⟩
 ·simp_all
 simp_all
theorem Fr.succ {i m:Nat} (h:Fr (i+1) m):Fr i m:=by unfold Fr at *;omega
theorem Qvw:∀(ps:List PS) (os:List Operand) (i:Nat) {e e1:Env} {g:Gh} {xs:List (Option ((s:Sh)×s.den))} {U:List WB},i+ps.length<=PK->Rel P B g e a w->(∀j m,Fr i m->g.ow j ≠ .fl m)->Qci e ps os=some (e1,xs,U)->
  ∃g1,Gives g g1 i/\Rel P B g1 e1 a w/\Y6 e e1/\Qcv e e1/\QdQ P g1 e1 a w i ps os xs U:=by
 intro ps;induction ps with
 | nil=>
  intro os i e e1 g xs U _ h hno J;cases os with
  | nil=>
   simp only[Qci,aLb,aLe] at J;obtain⟨rfl,rfl,rfl⟩:=J;exact⟨g,⟨rfl,fun _=>.inl rfl⟩,h,.refl e,.refl e,rfl⟩
  | cons o os=>simp[Qci] at J
 | cons p ps ih=>
  intro os i e e1 g xs U hlen h hno J;simp only[aLh] at hlen;have hi:i<PK:=by omega
  cases os with
  | nil=>simp[Qci] at J
  | cons o os=>
   simp only[Qci,aLa,aLd] at J;obtain⟨⟨e2,x,w1⟩,hA,⟨e3,xs',w2⟩,hR,J⟩:=J;simp only[aLe] at J;obtain⟨rfl,rfl,rfl⟩:=J;obtain⟨g1,hg1,h1,kl1,kb1,go1⟩:=Qwd h hi hno hA;obtain⟨g2,I,h2,kl2,kb2,go2⟩:=ih os (i+1) (by omega) h1 (fun j m hm hj=>by
    rcases hg1.ow j with h3 | ⟨h3,_⟩
    ·exact hno j m hm.succ (h3.symm.trans hj)
    ·rcases h3 with h3 | h3 | h3
     ·have:=h3.symm.trans hj
      simp only[Tag.fl.injEq] at this;unfold Fr at hm;omega
     ·have:=h3.symm.trans hj
      simp only[Tag.fl.injEq] at this;unfold Fr at hm;omega
     ·rw[h3] at hj;cases hj) hR
   refine⟨g2,⟨I.pl.trans hg1.pl,fun j=>?_⟩,h2,kl1.trans kl2,kb1.trans kb2 kl2,w1,w2,rfl,go1.step I.pl (fun j hj=>I.keep hj (by simp) (by simp)) (fun j hj=>I.keep hj (by simp) (by simp)) (fun j hj=>I.keep hj (by simp) (by simp)) kb2 kl2,go2⟩
   rcases I.ow j with h3 | ⟨h3,h4⟩
   ·rcases hg1.ow j with h5 | ⟨h5,h6⟩
    ·exact .inl (h3.trans h5)
    ·refine .inr ⟨?_,h6⟩
     rcases h5 with h | h | h
     ·exact .inl ⟨i,.inl ⟨aMb _,hi⟩,h3.trans h⟩
     ·exact .inl ⟨PK+i,.inr (aMb _),h3.trans h⟩
     ·exact .inr (h3.trans h)
   ·rcases hg1.ow j with h5 | ⟨h5,h6⟩
    ·exact .inr ⟨h3.elim (fun ⟨m,hm,h⟩=>.inl ⟨m,hm.succ,h⟩) .inr,by rw[<-h5];exact h4⟩
    ·exact .inr ⟨h3.elim (fun ⟨m,hm,h⟩=>.inl ⟨m,hm.succ,h⟩) .inr,h6⟩
end Go.Dx
namespace Go.Dx
variable {P:Program} {B:Base} {g:Gh} {e:Env} {a:Act} {w:World} {C:Ctx}
theorem Qr8 {Z:Nat->Prop} {w:World}:∀(p:List Step) {S:Sh} {F:Fl} {Sg:Nat->Prop} {c:Nat->Option Value} {X:S.den} {base:Option (Nat×Nat)} {b off:Nat},
  RepC P S F Z w Sg c X->QG S X p->Qh S F p=true->Qi S base w c p=some (b,off)->Sg b\/Z b\/∃o,base=some (b,o):=by
 intro p;induction p with
 | nil=>intro S F Sg c X base b off _ _ _ I;simp only[Qi] at I;exact .inr (.inr ⟨off,I⟩)
 | cons st p ih=>
  intro S F Sg c X base b off hr J U I;cases S with
  | prod x y=>
   obtain⟨t,ra,rb⟩:=hr;cases st with
   | fst=>exact (ih ra J U I).imp (·.1) id
   | snd=>
    rcases ih rb J U I with h | h | ⟨o,h⟩
    ·exact .inl h.1
    ·exact .inr (.inl h)
    ·obtain⟨u,hu,hu'⟩:=aLd.1 h
     grind
   | idx i=>simp[Qi] at I
   | sub l h=>simp[Qi] at I
  | list s=>
   cases st with
   | fst=>simp[Qi] at I
   | snd=>simp[Qi] at I
   | sub l h=>
    rcases ih (base:=none) (QkK hr J.1.1 J.1.2.1 J.1.2.2) J.2 U I with h | h | ⟨o,h⟩
    ·exact .inl h
    ·exact .inr (.inl h)
    ·cases h
   | idx i=>
    have he:=Qfb hr J.1.1 J.1.2
    simp only[Qh,aLg] at U;simp only[Qi] at I;have hin:=J.1
    cases F with
    | z=>
     obtain⟨A,n,cap,e1,e2,e3,e4⟩:=hr;obtain⟨b0,off0,rfl,hb,_⟩:=e4 (by omega)
     rw[e1] at I he;rcases ih he J.2 U.2 I with h | h | ⟨o,h⟩
     ·exact .inl h
     ·exact .inr (.inl h)
     simp_all
    | o gg=>
     obtain⟨A,n,cap,e1,e2,e3,e4⟩:=hr;rcases e4 with ⟨rfl,h,h'⟩ | ⟨b0,off0,arr,e,rfl,hS,_⟩
     ·omega
     ·rw[e1] at I he
      rcases ih he J.2 U.2 I with h | h | ⟨o,h⟩
      ·exact .inl h
      ·exact .inr (.inl h)
      ·simp only[aLb,aLe] at h;exact .inl (h.1 ▸ hS)
    | x=>simp at U
    | p a b=>simp at U
    | h f0 i0=>
     obtain⟨A,n,cap,e1,e2,e3,b0,off0,arr,e,rfl,hS,_⟩:=hr;rw[e1] at I he;rcases ih he J.2 U.2 I with h | h | ⟨o,h⟩
     ·exact .inl h
     ·exact .inr (.inl h)
     ·simp only[aLb,aLe] at h;exact .inl (h.1 ▸ hS)
  | int k=>cases st<;>simp[Qi] at I
  | bool=>cases st<;>simp[Qi] at I
  | str=>cases st<;>simp[Qi] at I
  | fn1 a r rf=>cases st<;>simp[Qi] at I
  | fn2 a b r=>cases st<;>simp[Qi] at I
def Lent (g:Gh) (L:List Root):Nat->Prop:=fun i=>∃r,r ∈ L/\(g.ow i=tagR r\/∃n,r=.b n/\g.ow i=.c n)
def Zl (g:Gh) (L:List Root):Nat->Prop:=fun i=>g.Z i\/Lent g L i
theorem Lent.mono {L I:List Root} (h:∀r,r ∈ L->r ∈ I) {i:Nat} (hi:Lent g L i):Lent g I i:=let ⟨r,J,h2⟩:=hi;⟨r,h r J,h2⟩
theorem Zl.mono {L I:List Root} (h:∀r,r ∈ L->r ∈ I) {i:Nat} (hi:Zl g L i):Zl g I i:=hi.imp id (Lent.mono h)
theorem Zl.lt (h:Rel P B g e a w) {L:List Root} {i:Nat} (hi:Zl g L i):i<w.heap.size:=by
 refine h.lt i ?_;rcases hi with hi | ⟨r,_,hi | ⟨n,_,hi⟩⟩
 ·rw[show g.ow i=.fz from hi];simp
 ·rw[hi];cases r<;>simp[tagR]
 simp_all
theorem Qqn (h:Rel P B g e a w) {r:Root} {ver:Nat} {p:List Step} {v:Value} {y:Dv} (hd:Qah g e a w r ver p v) (hl:e.lookL r ver p=some y) (I:okS y.sh y.fl=true) :
  ∃b o,v=.pointer (some ⟨b,o,none⟩)/\Zl g [r] b/\RepC P y.sh .z (Zl g [r]) w QP (Qd w b o) y.x:=by
 obtain⟨b,o,hpt,hver,S,F,X,hdr,hg,hp,hA,hc,U⟩:=Ql4 h hd hl (Yo I);refine⟨b,o,hpt,?_,?_⟩
 ·have J:=h.root r hdr
  rcases Qr8 p J hp (Qez p hg (Yo I)) hA with h1 | h1 | ⟨o',h1⟩
  ·exact .inr ⟨r,by simp,.inl (by cases r<;>exact h1)⟩
  ·exact .inl h1
  ·cases r with
   | s t=>simp[QU] at h1
   | b n=>
    simp[QU] at h1;split at h1
    ·rename_i hb ho hpl
     simp at h1;have hbl:=h.bl n
     rw[show (e.b n).d=.v S F X from hdr] at hbl
     exact .inr ⟨.b n,by simp,.inr ⟨n,rfl,by rw[<-h1.1];exact (hbl.2 _ _ hpl).1⟩⟩
    simp_all
 ·exact (RepC.freeze I U).mono (fun i hi=>hi.elim .inl (fun hi=>.inr ⟨r,by simp,.inl hi⟩)) (fun _ h=>h)
noncomputable def Qda (Z:Nat->Prop):Nat->Tag:=fun i=>@ite _ (Z i) (Classical.propDecidable _) .fz .none
theorem YT {Z:Nat->Prop} {i:Nat} (h:Z i):Qda Z i=.fz:=by simp[Qda,h]
theorem QjF (Z:Nat->Prop) (i:Nat):Qda Z i=.none\/Qda Z i=.fz:=by unfold Qda;split<;>simp
theorem Qkb {Z:Nat->Prop} {i:Nat} (h:Qda Z i=.fz):Z i:=by
 by_cases I:Z i
 ·grind
 ·simp[Qda,I] at h
theorem Qn0 {s:Sh} {l:List Sh} {d:(s:Sh)×s.den} {I:List ((s:Sh)×s.den)} {t:TupI (s::l)} (h:gatI (s::l) (d::I)=some t):asS d s=some t.1/\gatI l I=some t.2:=by
 simp[gatI,aLa] at h
 grind
theorem QrE (h:Rel P B g e a w):∀(cs:List PS) (i:Nat) {caps:List Desc} {vs:List Value} {l:List ((s:Sh)×s.den)} {t:TupI (cs.map PS.sh)} {Z':Nat->Prop} {w':World},Qeg e cs caps=some l->gatI (cs.map PS.sh) l=some t->
  vs.length=caps.length->(∀(i:Nat) (d:Desc) (u:Value),caps[i]? = some d->vs[i]? = some u->Z7 d=true/\Yl P g e a w .none d u)->After (Zl g (caps.flatMap capR)) Z' w w'->QaH P (Qda Z') w' i cs vs t:=by
 intro cs;induction cs with
 | nil=>
  intro i caps vs l t Z' w' hl ht hlen hd ha;cases caps with
  | nil=>exact aMk hlen
  | cons d ds=>simp[Qeg] at hl
 | cons p cs ih=>
  intro i caps vs l t Z' w' hl ht hlen hd ha;cases caps with
  | nil=>simp[Qeg] at hl
  | cons d ds=>
   cases vs with
   | nil=>simp at hlen
   | cons u us=>
    simp only[Qeg,aLa,aLd] at hl;obtain⟨x,J,l',hl',rfl⟩:=hl;obtain⟨hx1,ht'⟩:=Qn0 ht;refine⟨?_,ih (i+1) hl' ht' (by simpa using hlen) (fun k d' u' hk hu=>hd (k+1) d' u' (by simpa using hk) (by simpa using hu))
     ⟨fun j hj=>ha.zz j (Zl.mono (fun r hr=>by simp only[List.flatMap_cons,aMi];exact .inr hr) hj),fun j hj=>ha.heap j (Zl.mono (fun r hr=>by simp only[List.flatMap_cons,aMi];exact .inr hr) hj),ha.lt⟩⟩
    obtain⟨hsc,U⟩:=hd 0 d u rfl rfl;obtain⟨hs,I⟩:=Qdv hx1;generalize t.1=t1 at I hx1;have hZ:∀j,g.Z j->Z' j/\w'.heap[j]? = w.heap[j]?:=fun j hj=>⟨ha.zz j (.inl hj),ha.heap j (.inl hj)⟩
    unfold capV at J;split at J
    ·rename_i s s' f xx
     cases hc:decide (s'=s)&&f.isz with
     | false=>simp[hc] at J
     | true=>
      simp only[hc,aLB,aLb] at J;subst J;simp only[aLg,aLF] at hc;obtain⟨rfl,hz⟩:=hc;obtain rfl:=Qac hz;have I:xx=t1:=I
      subst I;have U:RepV P s' .z g.Z w (g.S .none) u xx:=U
      exact⟨U.1,(RepC.shared U.2).frame (fun j hj=>YT (hZ j hj).1) (fun _ h=>h.elim) (fun j hj=>(hZ j (hj.resolve_left id)).2)⟩
    ·rename_i s s' xx
     by_cases hss:s'=s
     ·subst hss
      simp only[aMc,aLB,aLb] at J;subst J;have I:xx=t1:=I
      subst I;obtain⟨b,o,h1,h2,h3⟩:=U;exact⟨b,o,h1,YT (hZ b h2).1,by rw[Zm (hZ b h2).2];exact h3.frame (fun j hj=>YT (hZ j hj).1) (fun _ h=>h) (fun j hj=>(hZ j (hj.resolve_left id)).2)⟩
     ·simp[hss] at J
    ·rename_i s s' xx
     by_cases hss:s'=s
     ·subst hss
      simp only[aMc,aLB,aLb] at J;subst J;have I:xx=t1:=I
      subst I;obtain⟨hb,ho,b,o,h1,h2,h3,h4,h5⟩:=U;exact⟨hb,ho,b,o,h1,YT (hZ hb h2).1,by rw[Zm (hZ hb h2).2];exact h3,YT (hZ b h4).1,by rw[Zm (hZ b h4).2];exact h5.frame (fun j hj=>YT (hZ j hj).1) (fun _ h=>h) (fun j hj=>(hZ j (hj.resolve_left id)).2)⟩
     ·simp[hss] at J
    ·rename_i s r ver q
     obtain⟨y,hy,J⟩:=aLa.1 J;cases hc:decide (y.sh=s)&&okS y.sh y.fl with
     | false=>simp[hc] at J
     | true=>
      simp only[hc,aLB,aLb] at J;subst J;simp only[aLg,aLF] at hc;obtain⟨hsh,hok⟩:=hc;obtain⟨ysh,yfl,yx⟩:=y;simp only at hsh hok;subst hsh;have I:yx=t1:=I
      subst I;obtain⟨b,o,h1,h2,h3⟩:=Qqn h U hy hok;have hZ':∀j,Zl g [r] j->Z' j/\w'.heap[j]? = w.heap[j]?:=fun j hj=>by
       have:Zl g ((Desc.loc r ver q::ds).flatMap capR) j:=Zl.mono (fun r' hr=>by simp only[aLs] at hr;subst hr;simp[capR]) hj
       exact⟨ha.zz j this,ha.heap j this⟩
      exact⟨b,o,h1,YT (hZ' b h2).1,by rw[Zm (hZ' b h2).2];exact h3.frame (fun j hj=>YT (hZ' j hj).1) (fun _ h=>h) (fun j hj=>(hZ' j (hj.resolve_left id)).2)⟩
    ·cases J
end Go.Dx
namespace Go.Dx
variable {P:Program} {B:Base} {g:Gh} {e:Env} {a:Act} {w:World} {C:Ctx}
theorem Qpu (s:Sh):∀(l:List Sh) (y:TupO (s::l)),∃ys,scat (s::l) y=⟨s,fstO s l y⟩::ys
 | [],y=>⟨[],rfl⟩
 | b::l,y=>⟨_,rfl⟩
theorem Qp0 {K:Callee} (hdm:K.dm=true) {s':Sh} {f':Fl} {rf:Fl} (ho:K.outs=[(s',f')]) {Z':Nat->Prop} {w' J:World} (hlt:∀i,Z' i->i<w'.heap.size) {vs:List Value} {ys:TupO (K.outs.map (·.1)++QaO K.ins)} {ow':Nat->Tag} {vr:Value} (hp:Qhu P K (Qda Z') w' vs ys ow' J vr)
  {y:s'.den} (hy:∃l,scat _ ys=⟨s',y⟩::l) (hw:Qq s' f' rf=true):QmI Z' w' (fun Z'' J own vr=>Ys s' vr/\RepC P s' rf Z'' J own (Qg vr) y) (.returned vr) J:=by
 obtain⟨l,hl⟩:=hy;have I:=hp.res
 rw[hl,ho] at I;have I:RepV P s' f' (Zo ow') J (So ow' (.fl 0)) vr y:=I.2
 obtain⟨T,hT,hrep⟩:=RepC.weak hw I.2;have hfr:∀i,i<w'.heap.size->J.heap[i]? = w'.heap[i]?/\ow' i=Qda Z' i:=fun i hi=>hp.frame i hi (QjF Z' i)
 have U:∀i,ow' i=.fl 0->w'.heap.size<=i/\i<J.heap.size:=fun i hi=>⟨by
  rcases aMg i w'.heap.size with h | h
  ·have:=(hfr i h).2
   rw[hi] at this;rcases QjF Z' i with h2 | h2<;>rw[h2] at this<;>cases this
  ·exact h,hp.lt i (by rw[hi];simp)⟩
 refine⟨vr,rfl,(hp.st.weak fun _=>hdm).full,fun i hi=>(hfr i hi).1,fun i=>ow' i=.fl 0/\¬T i,fun i=>Zo ow' i\/T i,fun i hi=>⟨(U i hi.1).1,(U i hi.1).2,?_⟩,fun i hi=>?_,fun i hi=>?_,I.1,hrep⟩
 ·rintro (h | h)
  ·have hi1:ow' i=.fl 0:=hi.1
   rw[show ow' i=.fz from h] at hi1;cases hi1
  simp_all
 ·left
  show ow' i=.fz
  rw[(hfr i (hlt i hi)).2];exact YT hi
 ·rcases hi with hi | hi
  ·rcases aMg i w'.heap.size with h | h
   ·left
    have:=(hfr i h).2
    rw[show ow' i=.fz from hi] at this
    exact Qkb this.symm
   ·exact .inr ⟨h,hp.lt i (by rw[show ow' i=.fz from hi];simp)⟩
  ·exact .inr (U i (hT i hi))
theorem Qv4 (hC:Qae P B.g0 B.dm C) (h:Rel P B g e a w) {j:FuncId} {caps:List Desc} {want:Sh} {f:want.den} (I:JY C e j caps want=some f) {T:Tag} {v:Value} (hd:Qs P g e a w T (.clos j caps) v) :
  RepV P want .z (Zl g (caps.flatMap capR)) w QP v f:=by
 obtain⟨vs,hv,hlen,hcap⟩:=hd;cases want with
 | fn1 aa r rf=>
  simp only[JY,aLa] at I;obtain⟨K,hK,I⟩:=I;split at I
  ·rename_i a' cs s' f' F
   cases hc:noIo cs&&decide (a'=aa)&&decide (s'=r)&&Qq s' f' rf with
   | false=>simp[hc] at I
   | true=>
    rw[hc,aLB] at I;simp only[aLg,aLF] at hc;obtain⟨⟨⟨_,rfl⟩,rfl⟩,hw⟩:=hc;replace I:=aLa.1 I;obtain⟨l,hl,I⟩:=I;replace I:=aLa.1 I;obtain⟨t,ht,I⟩:=I;simp only[aLb] at I;subst I;refine⟨by rw[hv];rfl,fun _=>⟨v,⟨by rw[hv];rfl,by rw[hv];rfl⟩,fun Z' w' ha va xa y hfa hra J=>?_⟩⟩
    replace J:=aLa.1 J;obtain⟨x',hx',J⟩:=J;replace J:=aLa.1 J;obtain⟨ys,hys,J⟩:=J;obtain⟨_,U⟩:=Qdv hx';have U:xa=x':=U
    subst U;obtain⟨_,hyy⟩:=Qdv J;obtain⟨hE,hcall⟩:=hC.fn j _ hK;refine⟨j,vs.toArray,hv,hE,?_⟩;have hpar:QaH P (Qda Z') w' 0 (.v a' .z::cs) (va::vs) (xa,t):=
     ⟨⟨hfa,hra.mono (fun i hi=>YT hi) (fun _ h=>h.elim)⟩,QrE h cs 1 hl ht hlen hcap ha⟩
    have:=hcall w' (Qda Z') (va::vs) (xa,t) ys (fun i hi=>by
     rcases QjF Z' i with h2 | h2
     ·exact absurd h2 hi
     ·exact ha.lt i (Qkb h2)) (fun i hi=>⟨YT (ha.zz i (.inl (h.gok i hi).1)),(ha.heap i (.inl (h.gok i hi).1)).trans (h.gok i hi).2⟩) hpar hys
    have harr:(va::vs).toArray = #[va]++vs.toArray:=by simp
    rw[harr] at this;refine this.mono fun en w'' ⟨vr,ow',he,hp⟩=>?_
    subst he;refine Qp0 rfl rfl ha.lt hp ?_ hw;obtain⟨rest,hr⟩:=Qpu s' (QaO cs) ys;exact⟨rest,hyy ▸ hr⟩
  ·cases I
 | fn2 aa bb r=>
  simp only[JY,aLa] at I;obtain⟨K,hK,I⟩:=I;split at I
  ·rename_i a' b' cs s' f' F
   cases hc:noIo cs&&decide (a'=aa)&&decide (b'=bb)&&decide (s'=r)&&Qq s' f' .z with
   | false=>simp[hc] at I
   | true=>
    rw[hc,aLB] at I;simp only[aLg,aLF] at hc;obtain⟨⟨⟨⟨_,rfl⟩,rfl⟩,rfl⟩,hw⟩:=hc;replace I:=aLa.1 I;obtain⟨l,hl,I⟩:=I;replace I:=aLa.1 I;obtain⟨t,ht,I⟩:=I;simp only[aLb] at I;subst I;refine⟨by rw[hv];rfl,fun _=>⟨v,⟨by rw[hv];rfl,by rw[hv];rfl⟩,fun Z' w' ha va xa vb xb y hfa hra hfb hrb J=>?_⟩⟩
    replace J:=aLa.1 J;obtain⟨x',hx',J⟩:=J;replace J:=aLa.1 J;obtain⟨y',hy',J⟩:=J;replace J:=aLa.1 J;obtain⟨ys,hys,J⟩:=J;obtain⟨_,U⟩:=Qdv hx';have U:xa=x':=U
    subst U;obtain⟨_,hyb⟩:=Qdv hy';have hyb:xb=y':=hyb
    subst hyb;obtain⟨_,hyy⟩:=Qdv J;obtain⟨hE,hcall⟩:=hC.fn j _ hK;refine⟨j,vs.toArray,hv,hE,?_⟩;have hpar:QaH P (Qda Z') w' 0 (.v a' .z :: .v b' .z::cs) (va::vb::vs) (xa,xb,t):=
     ⟨⟨hfa,hra.mono (fun i hi=>YT hi) (fun _ h=>h.elim)⟩,⟨hfb,hrb.mono (fun i hi=>YT hi) (fun _ h=>h.elim)⟩,QrE h cs 2 hl ht hlen hcap ha⟩
    have:=hcall w' (Qda Z') (va::vb::vs) (xa,xb,t) ys (fun i hi=>by
     rcases QjF Z' i with h2 | h2
     ·exact absurd h2 hi
     ·exact ha.lt i (Qkb h2)) (fun i hi=>⟨YT (ha.zz i (.inl (h.gok i hi).1)),(ha.heap i (.inl (h.gok i hi).1)).trans (h.gok i hi).2⟩) hpar hys
    have harr:(va::vb::vs).toArray = #[va,vb]++vs.toArray:=by simp
    rw[harr] at this;refine this.mono fun en w'' ⟨vr,ow',he,hp⟩=>?_
    subst he;refine Qp0 rfl rfl ha.lt hp ?_ hw;obtain⟨rest,hr⟩:=Qpu s' (QaO cs) ys;exact⟨rest,hyy ▸ hr⟩
  ·cases I
 | int k=>simp[JY] at I
 | bool=>simp[JY] at I
 | str=>simp[JY] at I
 | list s=>simp[JY] at I
 | prod x y=>simp[JY] at I
end Go.Dx
namespace Go.Dx
variable {P:Program} {B:Base} {g:Gh} {e:Env} {a:Act} {w:World} {C:Ctx}
theorem QvO (hC:Qae P B.g0 B.dm C) (h:Rel P B g e a w) {p:PS} {o:Operand} {x:(s:Sh)×s.den} {L:List Root} (I:argB C e p o=some (x,L)) {ow:Nat->Tag} (U:∀j,Zl g L j->ow j=.fz) (i:Nat) :
  ∃hs:x.1=p.sh,Qnh P ow w i p (a.eval o) (hs ▸ x.2):=by
 obtain⟨T,hd,ht,_⟩:=QC h o;unfold argB at I;split at I
 ·rename_i s J
  rw[J] at hd;split at I
  ·simp only[aLb,aLe] at I
   obtain⟨rfl,rfl⟩:=I;refine⟨rfl,?_⟩;have hv:a.eval o=.slice none 0 0:=hd
   rw[hv];exact⟨rfl,none,0,0,rfl,rfl,aMb _,fun hn=>by omega⟩
  ·cases I
 ·rename_i s j caps J
  rw[J] at hd;simp only[aLd,aLe] at I;obtain⟨f,hf,rfl,rfl⟩:=I;refine⟨rfl,?_⟩;have:=Qv4 hC h hf hd
  exact⟨this.1,this.2.mono U (fun _ h=>h.elim)⟩
 ·rename_i s r ver q J
  rw[J] at hd;obtain⟨y,hy,I⟩:=aLa.1 I;cases hc:decide (y.sh=s)&&okS y.sh y.fl with
  | false=>simp[hc] at I
  | true=>
   simp only[hc,aLB,aLb,aLe] at I;obtain⟨rfl,hL⟩:=I;simp only[aLg,aLF] at hc;obtain⟨hsh,hok⟩:=hc;obtain⟨ysh,yfl,yx⟩:=y;simp only at hsh hok hL;subst hsh;refine⟨rfl,?_⟩;have hr:=h.bor hd hy (Yo hok)
   cases hz:yfl.isz with
   | true=>
    obtain rfl:=Qac hz;exact⟨hr.1,(RepC.shared hr.2).mono (fun j hj=>U j (.inl hj)) (fun _ h=>h.elim)⟩
   | false=>
    rw[hz] at hL;simp only[aLC] at hL;subst hL;refine⟨hr.1,(RepC.freeze hok hr.2).mono (fun j hj=>U j (hj.elim .inl (fun hj=>.inr ⟨r,by simp,.inl ?_⟩))) (fun _ h=>h.elim)⟩
    exact hj
 ·rename_i s s' xx J
  rw[J] at hd;by_cases hss:s'=s
  ·subst hss
   simp only[aMc,aLB,aLb,aLe] at I;obtain⟨rfl,rfl⟩:=I;refine⟨rfl,?_⟩;obtain⟨b,off,h1,h2,h3⟩:=hd;exact⟨b,off,h1,U b (.inl h2),h3.mono (fun j hj=>U j (.inl hj)) (fun _ h=>h)⟩
  ·simp[hss] at I
 ·rename_i s s' xx J
  rw[J] at hd;by_cases hss:s'=s
  ·subst hss
   simp only[aMc,aLB,aLb,aLe] at I;obtain⟨rfl,rfl⟩:=I;refine⟨rfl,?_⟩;obtain⟨hb,ho,b,off,h1,h2,h3,h4,h5⟩:=hd;exact⟨hb,ho,b,off,h1,U hb (.inl h2),h3,U b (.inl h4),h5.mono (fun j hj=>U j (.inl hj)) (fun _ h=>h)⟩
  ·simp[hss] at I
 ·rename_i s r ver q J
  rw[J] at hd;obtain⟨y,hy,I⟩:=aLa.1 I;cases hc:decide (y.sh=s)&&okS y.sh y.fl with
  | false=>simp[hc] at I
  | true=>
   simp only[hc,aLB,aLb,aLe] at I;obtain⟨rfl,rfl⟩:=I;simp only[aLg,aLF] at hc;obtain⟨hsh,hok⟩:=hc;obtain⟨ysh,yfl,yx⟩:=y;simp only at hsh hok;subst hsh;refine⟨rfl,?_⟩;obtain⟨b,off,h1,h2,h3⟩:=Qqn h hd hy hok;exact⟨b,off,h1,U b h2,h3.mono U (fun _ h=>h)⟩
 ·cases I
def Qgo (cix:Nat->Option Nat):Nat->List PS->List WB->Prop
 | i,.io _ _ _::ps,b::I=>(∀n,b.r=.b n->cix n=some i)/\Qgo cix (i+1) ps I
 | i,.mu _ _ _::ps,b::I=>Qgo cix (i+1) ps I
 | i,.v _ _::ps,I=>Qgo cix (i+1) ps I
 | i,.rp _ _::ps,I=>Qgo cix (i+1) ps I
 | _,_,_=>True
theorem Qui (hC:Qae P B.g0 B.dm C) (h:Rel P B g e a w) {L:List Root} {ow:Nat->Tag} {cix:Nat->Option Nat} (hz:∀j,Zl g L j->ow j=.fz) (hfl:∀j m,m<PK->g.ow j=.fl m->ow j=.fl m) (hc:∀j o n i,g.pl n=.cells j o->g.ow j=.c n->cix n=some i->ow j=.c i) :
  ∀(ps:List PS) (i:Nat) {os:List Operand} {xs:List (Option ((s:Sh)×s.den))} {wbs:List WB} {zs:List ((s:Sh)×s.den)} {L':List Root} {t:TupI (ps.map PS.sh)},i+ps.length<=PK->QdQ P g e a w i ps os xs wbs->QgW C e ps os xs=some (zs,L')->
   gatI (ps.map PS.sh) zs=some t->(∀r,r ∈ L'->r ∈ L)->Qgo cix i ps wbs->QaH P ow w i ps (os.map a.eval) t:=by
 intro ps;induction ps with
 | nil=>
  intro i os xs wbs zs L' t _ hg hB ht hL J;cases os with
  | nil=>exact rfl
  | cons o os=>exact hg.elim
 | cons p ps ih=>
  intro i os xs wbs zs L' t hlen hg hB ht hL J;simp only[aLh] at hlen;have hi:i<PK:=by omega
  cases os with
  | nil=>exact hg.elim
  | cons o os=>
   cases xs with
   | nil=>exact hg.elim
   | cons x xs=>
    obtain⟨w1,w2,rfl,I,hg2⟩:=hg;simp only[QgW,aLa,aLd] at hB;obtain⟨⟨z,L1⟩,hz1,⟨zs',L2⟩,hB2,hB⟩:=hB;simp only[aLe] at hB;obtain⟨rfl,rfl⟩:=hB;obtain⟨ht1,ht2⟩:=Qn0 ht;have hcx2:Qgo cix (i+1) ps w2:=by
     cases x with
     | none=>
      obtain⟨rfl,hp⟩:=I;rcases hp with ⟨s,rfl⟩ | ⟨s,q,rfl⟩<;>exact J
     | some x=>
      obtain⟨_,I⟩:=I;cases p with
      | v s f=>obtain⟨rfl,_⟩:=I;exact J
      | rp s q=>exact I.elim
      | io s f f'=>obtain⟨n,q,S,F,X,hb,ho,mid,rfl,_⟩:=I;exact J.2
      | mu s f f'=>obtain⟨_,r,q,S,X,T1,mid,rest,rfl,_⟩:=I;exact J
    refine⟨?_,ih (i+1) (by omega) hg2 hB2 ht2 (fun r hr=>hL r (List.mem_append_right _ hr)) hcx2⟩
    cases x with
    | none=>
     simp only at hz1;obtain⟨hs,hpo⟩:=QvO hC h hz1 (ow:=ow) (fun j hj=>hz j (Zl.mono (fun r hr=>hL r (List.mem_append_left _ hr)) hj)) i
     obtain⟨hs',U⟩:=Qdv ht1;rw[<-U];exact hpo
    | some x=>
     simp only[aLb,aLe] at hz1;obtain⟨rfl,rfl⟩:=hz1;obtain⟨hsx,I⟩:=I;obtain⟨hs',U⟩:=Qdv ht1;obtain⟨xsh,xx⟩:=x;simp only at hsx;subst hsx;have U:xx=t.1:=U
     rw[<-U];cases p with
     | v s f=>exact⟨I.2.1,I.2.2.mono (fun j hj=>hz j (.inl hj)) (fun j hj=>hfl j i hi hj)⟩
     | rp s q=>exact I.elim
     | io s f f'=>
      obtain⟨n,q,S,F,X,hb,ho,mid,rfl,h4,h5,h6,h7,h8,h9⟩:=I;obtain⟨k1,k2,k3,k4⟩:=YO w q (c:=Ql g a w (.b n)) h4 h5;have hbl:=h.bl n
      rw[show (e.b n).d=.v S F X from h6] at hbl
      obtain⟨q1,arr,ty,q2,q3⟩:=hbl.2 hb ho h7;exact⟨hb,ho+offs S q,arr,ty,h8,hc hb ho n i h7 q1 (J.1 n rfl),q2,by simp only[PS.sh] at *;omega,h9.mono (fun j hj=>hz j (.inl hj)) (fun j hj=>hfl j i hi hj)⟩
     | mu s f f'=>exact⟨I.1.1,I.1.2.mono (fun j hj=>hz j (.inl hj)) (fun j hj=>hfl j i hi hj)⟩
end Go.Dx
namespace Go.Dx
variable {P:Program} {B:Base} {g:Gh} {e:Env} {a:Act} {w:World} {C:Ctx}
theorem RepC.fill {Z T:Nat->Prop} {w:World} {n:Dv}:∀(p:List Step) {S:Sh} {F:Fl} {J:Nat->Prop} {c:Nat->Option Value} {X:S.den} {r:Fl×S.den},QK p=true->RepC P S F Z w J c X->setP S F X p false n=some r->
  RepC P n.sh n.fl Z w T (Qm w S c p) n.x->(∀i,T i->¬J i)->RepC P S r.1 Z w (fun i=>J i\/T i) c r.2:=by
 intro p;induction p with
 | nil=>
  intro S F J c X r _ hr I U hd;simp only[setP,aLa,aLC,aLb] at I;obtain⟨y,hy,rfl⟩:=I;have:=ZK hy
  obtain⟨nsh,nfl,nx⟩:=n;simp only[aMy] at this;obtain⟨rfl,hh⟩:=this;have hh:=eq_of_heq hh
  subst hh;simp only[Qm] at U;exact U.mono (fun _ h=>h) (fun _ h=>.inr h)
 | cons st p ih=>
  intro S F J c X r hn hr I U hd;cases S with
  | prod x y=>
   obtain⟨t,ra,rb⟩:=hr;cases st with
   | fst=>
    simp only[setP,aLd] at I;obtain⟨z,hz,rfl⟩:=I;have h1:=ih hn ra hz U (fun i hi h=>hd i hi h.1)
    refine⟨fun i=>t i || @decide (T i) (Classical.propDecidable _),(h1.mono (fun _ h=>h) (fun i hi=>?_)).flagx (Fl.fst_mk _ _).symm,(rb.mono (fun _ h=>h) (fun i hi=>?_)).flagx (Fl.snd_mk _ _).symm⟩
    ·grind
    grind
   | snd=>
    simp only[setP,aLd] at I;obtain⟨z,hz,rfl⟩:=I;have h1:=ih hn rb hz U (fun i hi h=>hd i hi h.1)
    refine⟨fun i=>t i&&!@decide (T i) (Classical.propDecidable _),(ra.mono (fun _ h=>h) (fun i hi=>?_)).flagx (Fl.fst_mk _ _).symm,(h1.mono (fun _ h=>h) (fun i hi=>?_)).flagx (Fl.snd_mk _ _).symm⟩
    ·grind
    grind
   | idx i=>simp[QK] at hn
   | sub l h=>simp[QK] at hn
  | list s=>cases st<;>first | (simp[setP] at I;done) | (simp[QK] at hn;done)
  | int k=>cases st<;>simp[setP] at I
  | bool=>cases st<;>simp[setP] at I
  | str=>cases st<;>simp[setP] at I
  | fn1 a r rf=>cases st<;>simp[setP] at I
  | fn2 a b r=>cases st<;>simp[setP] at I
theorem Rel.refill (h:Rel P B g e a w) {r:Root} {S:Sh} {F:Fl} {X:S.den} (hd:(e.root r).d=.v S F X) {p:List Step} {n:Dv} {z:Fl×S.den} {hh:Bool} (hn:QK p=true) (hs:setP S F X p false n=some z)
  {k:Nat} (hv:RepC P n.sh n.fl g.Z w (g.S (.fl k)) (Qm w S (Ql g a w r) p) n.x) :
  ∃g',g'.pl=g.pl/\(∀j,g'.ow j=if g.ow j=.fl k then tagR r else g.ow j)/\Rel P B g' (e.turn r hh (.v S z.1 z.2)) a w:=by
 let ow':Nat->Tag:=fun j=>if g.ow j=.fl k then tagR r else g.ow j
 have hfl:∀j,g.ow j=.fl k->ow' j=tagR r:=fun j hj=>by simp[ow',hj]
 have I:∀j t,t ≠ .fl k->g.ow j=t->ow' j=t:=fun j t ht hj=>by simp[ow',hj,ht]
 have J:=h.root r hd
 have J:RepC P S F g.Z w (g.S (tagR r)) (Ql g a w r) X:=by cases r<;>exact J
 have hfill:=RepC.fill p hn J hs hv (fun i hi hS=>QkP (Eq.trans (Eq.symm hS) hi))
 have hnew:RepC P S z.1 (Gh.Z ⟨ow',g.pl⟩) w (Gh.S ⟨ow',g.pl⟩ (tagR r)) (Ql g a w r) z.2:=
  hfill.mono (fun i hi=>I i _ (by simp) hi) (fun i hi=>hi.elim (fun hi=>I i _ (by cases r<;>simp[tagR]) hi) (fun hi=>hfl i hi))
 refine⟨⟨ow',g.pl⟩,rfl,fun _=>rfl,h.step (fun i=>r=.s i) (fun i=>r=.b i) (by rw[Ql2];exact h.lens) h.defers
  (fun i hi=>⟨by show (e.turn r hh _).root (.s i)=_;rw[Q2 hd,if_neg hi];rfl,rfl⟩) (fun i hi=>⟨by show (e.turn r hh _).root (.b i)=_;rw[Q2 hd,if_neg hi];rfl,rfl⟩)
  (fun i hi=>by show (e.root (.s i)).ver<((e.turn r hh _).root (.s i)).ver;rw[Q2 hd,if_pos hi,hi];exact aMp _)
  (fun i hi=>by show (e.root (.b i)).ver<((e.turn r hh _).root (.b i)).ver;rw[Q2 hd,if_pos hi,hi];exact aMp _)
  (fun i hi=>by subst hi;exact QiL hd rfl) (fun i hi=>by subst hi;exact QiL hd rfl) (fun i hi=>by subst hi;exact QhH hd (fun _ k _=>congrFun (ZN (g':=⟨ow',g.pl⟩) rfl a w _) k)) (fun i hi=>by subst hi;exact QhH hd (fun _ k _=>congrFun (ZN (g':=⟨ow',g.pl⟩) rfl a w _) k))
  (fun j hj=>⟨I j _ (by simp) hj,rfl⟩) (fun i j hi hj=>⟨I j _ (by simp) hj,rfl⟩) (fun i j hi hj=>⟨I j _ (by simp) hj,rfl⟩) (fun i j hi hj=>⟨I j _ (by simp) hj,rfl⟩)
  (Streams.refl _) (fun _ _ _=>rfl) (fun i h1 h2 h3=>I i _ (by simp) (h.nn i h1 h2 h3)) (fun i hi=>h.lt i fun h0=>hi (I i _ (by simp) h0)) (fun q hq hc hn U=>?_) (fun hk i hi=>?_) (fun hk i hi=>?_)⟩
 ·refine⟨U.pl,I _ _ (by simp) U.ow,fun S2 F2 X2 hd2=>?_,U.there⟩
  rw[show (e.turn r hh (.v S z.1 z.2)).b q.i=(e.turn r hh (.v S z.1 z.2)).root (.b q.i) from rfl,Q2 hd,if_pos hc] at hd2
  obtain⟨rfl,_,_⟩:=hd2;exact U.sz S F X (by subst hc;exact hd)
 ·rw[show (e.turn r hh (.v S z.1 z.2)).s i=(e.turn r hh (.v S z.1 z.2)).root (.s i) from rfl,Q2 hd,if_pos hi]
  subst hi;have:=h.sl i
  rw[show (e.s i).d=.v S F X from hd] at this
  exact⟨this.1,hnew⟩
 ·rw[show (e.turn r hh (.v S z.1 z.2)).b i=(e.turn r hh (.v S z.1 z.2)).root (.b i) from rfl,Q2 hd,if_pos hi]
  subst hi;have hbl:=h.bl i
  rw[show (e.b i).d=.v S F X from hd] at hbl
  exact⟨hnew,fun hb o hpl=>⟨I _ _ (by simp) (hbl.2 hb o hpl).1,(hbl.2 hb o hpl).2⟩⟩
end Go.Dx
namespace Go.Dx
variable {P:Program} {B:Base} {g:Gh} {e:Env} {a:Act} {w:World} {C:Ctx}
theorem Qmn {r:Root}:∀{l:List Root},Qkc r l=true↔r ∈ l
 | []=>by simp[Qkc]
 | q::l=>by simp[Qkc,Qmn]
theorem Qby:∀{l:List WB} {I:List Root},QaR I l=true->∀b,b ∈ l->b.r ∉ I
 | [],I,_,b,hb=>by cases hb
 | x::l,I,h,b,hb=>by
  simp[QaR] at h;rcases List.mem_cons.1 hb with rfl | hb
  ·intro hm;rw[Qmn.2 hm] at h;cases h.1
  ·have:=Qby h.2 b hb
   simp_all
theorem Z9 {x:WB} {l:List WB} {I:List Root} (h:QaR I (x::l)=true):QaR (x.r::I) l=true:=by
 simp[QaR] at h;exact h.2
def ZO:Nat->List PS->List WB->Nat->Option Nat
 | i,.io _ _ _::ps,b::I,n=>if b.r=.b n then some i else ZO (i+1) ps I n
 | i,.mu _ _ _::ps,_::I,n=>ZO (i+1) ps I n
 | i,.v _ _::ps,I,n=>ZO (i+1) ps I n
 | i,.rp _ _::ps,I,n=>ZO (i+1) ps I n
 | _,_,_,_=>none
theorem QwK {cix:Nat->Option Nat}:∀(ps:List PS) (i:Nat) {I:List WB} {J:List Root},QaR J I=true->(∀n,(∃b,b ∈ I/\b.r=.b n)->cix n=ZO i ps I n)->Qgo cix i ps I:=by
 intro ps;induction ps with
 | nil=>intro i I J _ _;simp[Qgo]
 | cons p ps ih=>
  intro i I J U h;cases p with
  | v s f=>exact ih (i+1) U (fun n hn=>by rw[h n hn];simp[ZO])
  | rp s q=>exact ih (i+1) U (fun n hn=>by rw[h n hn];simp[ZO])
  | io s f f'=>
   cases I with
   | nil=>simp[Qgo]
   | cons b I=>
    refine⟨fun n hn=>?_,ih (i+1) (Z9 U) (fun n hn=>?_)⟩
    ·rw[h n ⟨b,aLm,hn⟩];simp[ZO,hn,if_pos]
    ·obtain⟨b',hb',hr⟩:=hn
     rw[h n ⟨b',aLp _ hb',hr⟩];have hne:¬b.r=.b n:=fun hh=>Qby (Z9 U) b' hb' (by rw[hr,<-hh];exact aLm)
     simp[ZO,hne,if_false]
  | mu s f f'=>
   cases I with
   | nil=>simp[Qgo]
   | cons b I=>
    refine ih (i+1) (Z9 U) (fun n hn=>?_)
    obtain⟨b',hb',hr⟩:=hn;rw[h n ⟨b',aLp _ hb',hr⟩];rfl
noncomputable def owC (g:Gh) (L:List Root) (cix:Nat->Option Nat):Nat->Tag:=fun j=>
 @ite _ (Zl g L j) (Classical.propDecidable _) .fz (match g.ow j with
  | .fl m=>if m<PK then .fl m else .none
  | .c n=>(match cix n,g.pl n with | some i,.cells hb _=>if hb=j then .c i else .none | _,_=>.none)
  | _=>.none)
theorem Qsw {L:List Root} {cix:Nat->Option Nat} {j:Nat} (h:Zl g L j):owC g L cix j=.fz:=by simp[owC,h]
theorem QwH {L:List Root} {cix:Nat->Option Nat} {j m:Nat} (hm:m<PK) (h:g.ow j=.fl m):owC g L cix j=.fl m:=by
 have I:¬Zl g L j:=by
  rintro (I | ⟨r,_,I | ⟨n,_,I⟩⟩)
  ·rw[show g.ow j=.fz from I] at h;cases h
  ·exact QkP (I.symm.trans h)
  simp_all
 simp[owC,I,h,hm]
theorem Qw7 {L:List Root} {cix:Nat->Option Nat} {j n i o:Nat} (hL:.b n ∉ L) (h:g.ow j=.c n) (U:cix n=some i) (J:g.pl n=.cells j o):owC g L cix j=.c i:=by
 have I:¬Zl g L j:=by
  rintro (I | ⟨r,hr,I | ⟨n',hn',I⟩⟩)
  ·rw[show g.ow j=.fz from I] at h;cases h
  ·rw[h] at I;cases r<;>simp[tagR] at I
  simp_all
 simp[owC,I,h,U,J]
theorem QwA {L:List Root} {cix:Nat->Option Nat} {j:Nat} (h:owC g L cix j ≠ .none):g.ow j ≠ .none:=by
 intro h0;by_cases I:Zl g L j
 ·rcases I with I | ⟨r,_,I | ⟨n,_,I⟩⟩
  ·rw[show g.ow j=.fz from I] at h0;cases h0
  ·rw[h0] at I;cases r<;>simp[tagR] at I
  simp_all
 ·simp[owC,I,h0] at h
theorem QkO {L:List Root} {cix:Nat->Option Nat} {j:Nat} (h:∀m,m<PK->g.ow j ≠ .fl m) (J:∀n i o,g.ow j=.c n->g.pl n=.cells j o->cix n=some i->False):owC g L cix j=.none\/owC g L cix j=.fz:=by
 by_cases I:Zl g L j
 ·exact .inr (Qsw I)
 ·simp[owC]
  grind
end Go.Dx
namespace Go.Dx
variable {P:Program} {B:Base} {g:Gh} {e:Env} {a:Act} {w:World} {C:Ctx}
def restore:List (Nat×Array Value)->World->World
 | [],w=>w
 | (hb,arr)::l,w=>(restore l w).setRow hb arr
theorem QaZ {j:Nat}:∀{l:List (Nat×Array Value)} {w:World},(∀q,q ∈ l->q.1 ≠ j)->(restore l w).heap[j]? = w.heap[j]?
 | [],w,_=>rfl
 | (hb,arr)::l,w,h=>by
  rw[restore,setRow_other _ _ _ _ (fun hh=>h (hb,arr) aLm hh.symm)]
  exact QaZ fun q I=>h q (aLp _ I)
theorem Qh5:∀(l:List (Nat×Array Value)) (w:World),Streams w (restore l w)/\Streams (restore l w) w/\(restore l w).heap.size=w.heap.size
 | [],w=>⟨Streams.refl w,Streams.refl w,rfl⟩
 | (hb,arr)::l,w=>by
  obtain⟨h1,h2,h3⟩:=Qh5 l w;exact⟨⟨h1.os,h1.tape,h1.output,by simp[restore,h3],h1.drawn⟩,⟨h2.os,h2.tape,h2.output,by simp[restore,h3],h2.drawn⟩,by simp[restore,h3]⟩
inductive Back (w w':World) (ow':Nat->Tag):Nat->List PS->List Value->List (Nat×Array Value)->Prop
 | nil (i:Nat):Back w w' ow' i [] [] []
 | v {i:Nat} {s:Sh} {f:Fl} {ps:List PS} {v:Value} {vs:List Value} {R:List (Nat×Array Value)}:Back w w' ow' (i+1) ps vs R->Back w w' ow' i (.v s f::ps) (v::vs) R
 | rp {i:Nat} {s:Sh} {d:Bool} {ps:List PS} {v:Value} {vs:List Value} {R:List (Nat×Array Value)}:Back w w' ow' (i+1) ps vs R->Back w w' ow' i (.rp s d::ps) (v::vs) R
 | mu {i:Nat} {s:Sh} {f f':Fl} {ps:List PS} {v:Value} {vs:List Value} {R:List (Nat×Array Value)}:Back w w' ow' (i+1) ps vs R->Back w w' ow' i (.mu s f f'::ps) (v::vs) R
 | io {i:Nat} {s:Sh} {f f':Fl} {ps:List PS} {v:Value} {vs:List Value} {R:List (Nat×Array Value)} {hb o:Nat} {arr arr':Array Value} {ty:TypeId} :
   v=.pointer (some ⟨hb,o,none⟩)->w.heap[hb]? = some (.cells arr ty (0,0))->w'.heap[hb]? = some (.cells arr' ty (0,0))->arr'.size=arr.size->(∀k,(k<o\/o+s.size<=k)->arr'[k]? = arr[k]?)->ow' hb=.c i->
   Back w w' ow' (i+1) ps vs R->Back w w' ow' i (.io s f f'::ps) (v::vs) ((hb,arr)::R)
theorem Qwf {ow':Nat->Tag} {w w':World}:∀(ps:List PS) (i:Nat) {vs:List Value} {ys:List ((s:Sh)×s.den)},Zp P ow' w w' i ps vs ys->∃R,Back w w' ow' i ps vs R:=by
 intro ps;induction ps with
 | nil=>intro i vs ys h;simp only[Zp] at h;obtain⟨rfl,rfl⟩:=h;exact⟨[],.nil i⟩
 | cons p ps J=>
  intro i vs ys h;cases p with
  | v s f=>cases vs with
   | nil=>simp[Zp] at h
   | cons v vs=>simp only[Zp] at h;obtain⟨R,I⟩:=J (i+1) h;exact⟨R,.v I⟩
  | rp s q=>cases vs with
   | nil=>simp[Zp] at h
   | cons v vs=>simp only[Zp] at h;obtain⟨R,I⟩:=J (i+1) h;exact⟨R,.rp I⟩
  | io s f f'=>cases vs with
   | nil=>simp[Zp] at h
   | cons v vs=>cases ys with
    | nil=>simp[Zp] at h
    | cons y ys=>
     obtain⟨⟨hb,o,arr,arr',ty,h1,h2,h3,h4,h5,h6,h7,h8⟩,h9⟩:=h;obtain⟨R,I⟩:=J (i+1) h9;exact⟨_,.io h1 h2 h3 h4 h5 h6 I⟩
  | mu s f f'=>cases vs with
   | nil=>simp[Zp] at h
   | cons v vs=>cases ys with
    | nil=>simp[Zp] at h
    | cons y ys=>
     obtain⟨R,I⟩:=J (i+1) h.2;exact⟨R,.mu I⟩
theorem Back.tags {w w':World} {ow':Nat->Tag} {i:Nat} {ps:List PS} {vs:List Value} {R:List (Nat×Array Value)} (h:Back w w' ow' i ps vs R):∀q,q ∈ R->∃m,i<=m/\ow' q.1=.c m:=by
 induction h with
 | nil i=>simp_all
 | v _ I=>grind
 | rp _ I=>grind
 | mu _ I=>grind
 | io h1 h2 h3 h4 h5 h6 _ I=>
  grind
end Go.Dx
namespace Go.Dx
variable {P:Program} {B:Base} {g:Gh} {e:Env} {a:Act} {w:World} {C:Ctx}
def WbIo (g:Gh) (e:Env) (s:Sh) (f':Fl) (v:Value) (b:WB):Prop:=
 ∃n q S F X hb ho mid,b=⟨.b n,q,s,f',true,mid,[]⟩/\QK q=true/\getS S q=some s/\(e.root (.b n)).d=.v S F X/\g.pl n=.cells hb ho/\v=.pointer (some ⟨hb,ho+offs S q,none⟩)
def WbMu (P:Program) (w:World) (g:Gh) (e:Env) (a:Act) (ow':Nat->Tag) (w':World) (i:Nat) (s:Sh) (f':Fl) (v:Value) (b:WB):Prop:=
 ∃(r:Root) (q:List Step) (S:Sh) (X:S.den) (I J:Nat->Prop) (mid:Dv) (rest:List Step) (c0:Nat->Option Value),b=⟨r,q,s,f',false,mid,rest⟩/\QK q=true/\getS S q=some mid.sh/\((∃F,(e.root r).d=.v S F X)\/((e.root r).d=.dead/\∃t,r=.s t))/\
  (∀k,k<mid.sh.size->Ql g a w' r (offs S q+k)=c0 k)/\(∀j,I j->g.ow j=.fl (PK+i))/\(∀j,J j->g.ow j=.fz)/\(∀j,I j\/J j->w'.heap[j]? = w.heap[j]?/\∀m,ow' j ≠ .c m)/\
  Wand P w J I mid.sh mid.fl mid.x rest c0 (Qm w mid.sh c0 rest)/\(∀k,k<s.size->Qg v k=Qm w mid.sh c0 rest k)/\
  ∀n hb ho,r=.b n->g.pl n=.cells hb ho->∀m,ow' hb ≠ .c m
inductive Qaj (P:Program) (w:World) (g:Gh) (e:Env) (a:Act) (ow':Nat->Tag) (w':World):Nat->List PS->List Value->List WB->Prop
 | nil {i:Nat}:Qaj P w g e a ow' w' i [] [] []
 | v {i:Nat} {s:Sh} {f:Fl} {ps:List PS} {v:Value} {vs:List Value} {bs:List WB}:Qaj P w g e a ow' w' (i+1) ps vs bs->Qaj P w g e a ow' w' i (.v s f::ps) (v::vs) bs
 | rp {i:Nat} {s:Sh} {d:Bool} {ps:List PS} {v:Value} {vs:List Value} {bs:List WB}:Qaj P w g e a ow' w' (i+1) ps vs bs->Qaj P w g e a ow' w' i (.rp s d::ps) (v::vs) bs
 | io {i:Nat} {s:Sh} {f f':Fl} {ps:List PS} {v:Value} {vs:List Value} {b:WB} {bs:List WB}:WbIo g e s f' v b->Qaj P w g e a ow' w' (i+1) ps vs bs->Qaj P w g e a ow' w' i (.io s f f'::ps) (v::vs) (b::bs)
 | mu {i:Nat} {s:Sh} {f f':Fl} {ps:List PS} {v:Value} {vs:List Value} {b:WB} {bs:List WB}:WbMu P w g e a ow' w' i s f' v b->Qaj P w g e a ow' w' (i+1) ps vs bs->Qaj P w g e a ow' w' i (.mu s f f'::ps) (v::vs) (b::bs)
theorem Qaj.setR {g g':Gh} {e:Env} {ow':Nat->Tag} {w':World} {r:Root} {hh:Bool} {S:Sh} {F F':Fl} {X X':S.den} (hd:(e.root r).d=.v S F X) (U:g'.pl=g.pl) {i:Nat} {ps:List PS} {vs:List Value} {bs:List WB} (h:Qaj P w g e a ow' w' i ps vs bs) (I:∀b,b ∈ bs->b.r ≠ r)
  (J:∀j m,i<=m->g.ow j=.fl (PK+m)->g'.ow j=.fl (PK+m)) (hz:∀j,g.ow j=.fz->g'.ow j=.fz):Qaj P w g' (e.turn r hh (.v S F' X')) a ow' w' i ps vs bs:=by
 induction h with
 | nil=>exact .nil
 | v _ ih=>exact .v (ih I (fun j m hm=>J j m (by omega)))
 | rp _ ih=>exact .rp (ih I (fun j m hm=>J j m (by omega)))
 | io h1 _ ih=>
  refine .io ?_ (ih (fun b hb=>I b (aLp _ hb)) (fun j m hm=>J j m (by omega)))
  obtain⟨n,q,S2,F2,X2,hb,ho,mid,rfl,h2,h3,h4,h5,h6⟩:=h1;exact⟨n,q,S2,F2,X2,hb,ho,mid,rfl,h2,h3,by rw[Q2 hd,if_neg (Ne.symm (I _ aLm))];exact h4,by rw[U];exact h5,h6⟩
 | mu h1 _ ih=>
  refine .mu ?_ (ih (fun b hb=>I b (aLp _ hb)) (fun j m hm=>J j m (by omega)))
  obtain⟨r2,q,S2,X2,T1,Zw,mid,rest,c0,rfl,h2,h3,h4,h5,h6,h7,h8,h9,h10,h11⟩:=h1;exact⟨r2,q,S2,X2,T1,Zw,mid,rest,c0,rfl,h2,h3,by rw[Q2 hd,if_neg (Ne.symm (I _ aLm))];exact h4,by rw[ZN U];exact h5,
   fun j hj=>J j _ (aMb _) (h6 j hj),fun j hj=>hz j (h7 j hj),h8,h9,h10,by rw[U];exact h11⟩
theorem Qvj {b:WB} (hb:b.rest=[]) {x:(s:Sh)×s.den} {n:Dv} (h:b.back x=some n):n=⟨x.1,b.f,x.2⟩:=by
 unfold WB.back at h;rw[hb] at h;simp only[setP,aLC,aLd,aLa,aLb] at h;obtain⟨u,⟨y,I,rfl⟩,rfl⟩:=h;have:=ZK I
 grind
end Go.Dx
namespace Go.Dx
variable {P:Program} {B:Base} {g:Gh} {e:Env} {a:Act} {w:World} {C:Ctx}
theorem Qp8:∀(p:List Step) {S:Sh} {F:Fl},QK p=true->Qer S F p=none:=by
 intro p;induction p with
 | nil=>intro S F _;cases S<;>simp[Qer]
 | cons st p I=>intro S F h;cases S<;>cases st<;>first | (simp[Qer];done) | (simp[QK] at h;done) | exact I h
theorem QqG {p:List Step} {S:Sh} {F:Fl} (h:QK p=true):Qhx S F p=true:=by unfold Qhx;rw[Qp8 p h]
theorem Qr6 {N M:Nat} (hNM:N+M<=PK) {w w':World} {ow':Nat->Tag} {i:Nat} {ps:List PS} {vs:List Value} {R:List (Nat×Array Value)} (hB:Back w w' ow' i ps vs R) :
  ∀{g:Gh} {e e':Env} {bs:List WB} {ys:List ((s:Sh)×s.den)} {lent:List Root},Rel P B g e a (restore R w')->Zp P ow' w w' i ps vs ys->Qaj P w g e a ow' w' i ps vs bs->i+ps.length<=M->QaR lent bs=true->
   (∀j,ow' j=.fz->g.ow j=.fz)->(∀j m,i<=m->m<M->ow' j=.b m->g.ow j=.fl (N+m))->JS e bs ys=some e'->
   ∃g',g'.pl=g.pl/\Rel P B g' e' a w'/\(∀j k,k<N->g.ow j=.fl k->g'.ow j=.fl k)/\(∀j,g.ow j=.fz->g'.ow j=.fz):=by
 induction hB with
 | nil i=>
  intro g e e' bs ys lent h I hw _ _ _ _ hp;cases hw;simp only[Zp] at I;obtain⟨_,rfl⟩:=I;simp only[JS,aLb] at hp;subst hp;exact⟨g,rfl,h,fun _ _ _ h=>h,fun _ h=>h⟩
 | v _ ih=>
  intro g e e' bs ys lent h I hw hlen hap hz hb hp;simp only[aLh] at hlen;cases hw with
  | v hw=>simp only[Zp] at I;exact ih h I hw (by omega) hap hz (fun j m hm hM=>hb j m (by omega) hM) hp
 | rp _ ih=>
  intro g e e' bs ys lent h I hw hlen hap hz hb hp;simp only[aLh] at hlen;cases hw with
  | rp hw=>simp only[Zp] at I;exact ih h I hw (by omega) hap hz (fun j m hm hM=>hb j m (by omega) hM) hp
 | @mu i s f f' ps v vs R hB2 ih=>
  intro g e e' bs ys lent h I hw hlen hap hz hb hp;simp only[aLh] at hlen;cases hw with
  | mu h1 hw=>
   rename_i b bs;cases ys with
   | nil=>simp[Zp] at I
   | cons y ys=>
    simp only[Zp] at I;obtain⟨⟨hsy,hrep⟩,I⟩:=I;obtain⟨r,q,S,X,T1,Zw,mid,rest,c0,rfl,hn,hS,hdr,hc0,hT1,hZw,hkp,hwand,hcell,hnc⟩:=h1;simp only[JS] at hp;rcases hdr with ⟨F,hdr⟩ | ⟨hdr,_⟩
    ·rw[hdr] at hp
     simp only[hsy,aMc,aLB,aLa] at hp;obtain⟨n,J,z,hset,hp⟩:=hp;obtain⟨ysh,yx⟩:=y;simp only at hsy hrep hset J;subst hsy;simp only[WB.back,aLd] at J;obtain⟨u,hu,rfl⟩:=J;have hot:∀j,(∀m,ow' j ≠ .c m)->(restore R w').heap[j]? = w'.heap[j]?:=fun j hj=>QaZ fun q hq hqj=>by
      obtain⟨m,_,hm⟩:=hB2.tags q hq;exact hj m (hqj ▸ hm)
     obtain⟨k1,_⟩:=YO (restore R w') q (c:=Ql g a (restore R w') r) hn hS;have hrc:Ql g a (restore R w') r=Ql g a w' r:=by
      cases r with
      | s t=>rfl
      | b n=>
       simp only[Ql];cases hpl:g.pl n with
       | hdr u=>rfl
       | cells hb' ho=>simp only[];exact Zm (hot hb' (hnc n hb' ho rfl hpl))
     have hsub:RepC P ysh f' g.Z (restore R w') (fun j=>ow' j=.b i) (Qm w mid.sh c0 rest) yx:=by
      refine RepC.congr (fun k hk=>(hcell k hk).symm) (hrep.2.frame (w':=restore R w') (fun j hj=>hz j hj) (fun j hj=>hj) (fun j hj=>hot j fun m hm=>?_))
      rcases hj with hj | hj
      ·rw[show ow' j=.b i from hj] at hm;cases hm
      ·rw[show ow' j=.fz from hj] at hm;cases hm
     have hmid:=hwand g.Z (restore R w') (fun j=>ow' j=.b i) ⟨ysh,f',yx⟩ u false hZw (fun j hj=>(hot j (hkp j hj).2).trans (hkp j hj).1) (fun j hj hT=>by
      have h1:=hb j i (aMb _) (by omega) hj
      rw[hT1 j hT] at h1;simp only[Tag.fl.injEq] at h1;omega) hu hsub
     let g0:Gh:=⟨fun j=>if g.ow j=.fl (PK+i) then .fl (N+i) else g.ow j,g.pl⟩
     have hg0:∀j t,t ≠ .fl (PK+i)->g.ow j=t->g0.ow j=t:=fun j t ht hj=>by show (if g.ow j=.fl (PK+i) then _ else _)=_;rw[hj,if_neg ht]
     have hg0':∀j,g.ow j=.fl (PK+i)->g0.ow j=.fl (N+i):=fun j hj=>by show (if g.ow j=.fl (PK+i) then _ else _)=_;rw[if_pos hj]
     have h0:Rel P B g0 e a (restore R w'):=h.fly rfl (fun j _ hm=>⟨hg0 j _ (fun hh=>hm _ hh) rfl,rfl⟩) (Streams.refl _) (fun j hj=>h.lt j fun hh=>hj (hg0 j _ (by simp) hh))
     have hr2:RepC P mid.sh u.1 g0.Z (restore R w') (g0.S (.fl (N+i))) (Qm (restore R w') S (Ql g0 a (restore R w') r) q) u.2:=by
      refine RepC.congr (fun k hk=>?_) (hmid.mono (fun j hj=>hg0 j _ (by simp) hj) (fun j hj=>hj.elim (fun hT=>hg0' j (hT1 j hT)) (fun hT=>hg0 j _ (by simp;omega) (hb j i (aMb _) (by omega) hT))))
      rw[show Ql g0 a (restore R w') r=Ql g a (restore R w') r from ZN rfl _ _ _,k1,hrc];exact hc0 k hk
     obtain⟨g1,hpl1,how1,h1⟩:=h0.refill (n:=⟨mid.sh,u.1,u.2⟩) (hh:=false) hdr hn hset hr2;have U:∀j t,t ≠ .fl (N+i)->t ≠ .fl (PK+i)->g.ow j=t->g1.ow j=t:=fun j t ht ht' hj=>by rw[how1,if_neg (by rw[hg0 j t ht' hj];exact ht),hg0 j t ht' hj]
     obtain⟨g2,hpl2,h2,k2,k3⟩:=ih h1 I (hw.setR hdr (show g1.pl=g.pl from hpl1) (fun b hb hr=>Qby (Z9 hap) b hb (by rw[hr];exact aLm)) (fun j m hm hj=>U j _ (by simp;omega) (by simp;omega) hj) (fun j hj=>U j _ (by simp) (by simp) hj)) (by omega) (Z9 hap)
      (fun j hj=>U j _ (by simp) (by simp) (hz j hj)) (fun j m hm hM hj=>U j _ (by simp;omega) (fun hh=>by simp only[Tag.fl.injEq] at hh;omega) (hb j m (by omega) hM hj)) hp
     grind
    ·rw[hdr] at hp;cases hp
 | @io i s f f' ps v vs R hb o arr arr' ty hv hw0 hw1 hsz hout hcb hB2 ih=>
  intro g e e' bs ys lent h I hw hlen hap hz hbm hp;simp only[aLh] at hlen;cases hw with
  | io h1 hw=>
   rename_i b bs;cases ys with
   | nil=>simp[Zp] at I
   | cons y ys=>
    simp only[Zp] at I;obtain⟨⟨hb2,o2,arr2,arr2',ty2,i1,i2,i3,i4,i5,i6,hsy,hrep⟩,I⟩:=I;rw[hv] at i1;simp only[Value.pointer.injEq,aLb,Addr.mk.injEq,and_true] at i1;obtain⟨rfl,rfl⟩:=i1;obtain⟨n,q,S,F,X,hb3,ho,mid,rfl,hn,hS,hdr,hpl,hpt⟩:=h1;rw[hv] at hpt;simp only[Value.pointer.injEq,aLb,Addr.mk.injEq,and_true] at hpt;obtain⟨rfl,rfl⟩:=hpt;simp only[JS] at hp;rw[hdr] at hp;simp only[hsy,aMc,aLB,aLa] at hp;obtain⟨n0,J,z,hset,hp⟩:=hp;obtain rfl:=Qvj rfl J;obtain⟨ysh,yx⟩:=y;simp only at hsy hrep hset;subst hsy;have hnotR:∀q,q ∈ R->q.1 ≠ hb:=fun q hq hqj=>by
     obtain⟨m,hm,hmm⟩:=hB2.tags q hq;rw[hqj,hcb] at hmm;simp only[Tag.c.injEq] at hmm;omega
    have hwn:(restore R w').heap[hb]? = some (.cells arr' ty (0,0)):=(QaZ hnotR).trans hw1
    have hwc:(restore ((hb,arr)::R) w').heap[hb]? = some (.cells arr ty (0,0)):=setRow_heap _ _ _ _ _ _ hwn
    obtain⟨k1,k2,_,k4⟩:=YO (restore ((hb,arr)::R) w') q (c:=Ql g a (restore ((hb,arr)::R) w') (.b n)) hn hS;have hbl:=h.bl n
    rw[show (e.b n).d=.v S F X from hdr] at hbl
    obtain⟨_,arr3,ty3,j2,j3⟩:=hbl.2 hb ho hpl;rw[hwc] at j2;simp only[aLb,Obj.cells.injEq] at j2;obtain⟨rfl,rfl,_⟩:=j2;have hA:Qi S (QU g (.b n)) (restore ((hb,arr)::R) w') (Ql g a (restore ((hb,arr)::R) w') (.b n)) q=some (hb,ho+offs S q):=by
     rw[show QU g (.b n)=some (hb,ho) by simp[QU,hpl]];exact k2 hb ho
    have hot:∀j,(∀m,ow' j ≠ .c m)->(restore ((hb,arr)::R) w').heap[j]? = w'.heap[j]?:=fun j hj=>QaZ fun q hq hqj=>by
     rcases List.mem_cons.1 hq with rfl | hq
     ·exact hj i (hqj ▸ hcb)
     ·obtain⟨m,_,hm⟩:=hB2.tags q hq
      exact hj m (hqj ▸ hm)
    have hr2:RepC P ysh f' g.Z (restore ((hb,arr)::R) w') (g.S (.fl (N+i))) (Qd w' hb (ho+offs S q)) yx:=
     hrep.frame (fun j hj=>hz j hj) (fun j hj=>hbm j i (aMb _) (by omega) hj) (fun j hj=>hot j fun m hm=>by
      rcases hj with hj | hj
      ·rw[show ow' j=.b i from hj] at hm;cases hm
      ·rw[show ow' j=.fz from hj] at hm;cases hm)
    have hW:Wrote (restore ((hb,arr)::R) w') (restore R w') hb (ho+offs S q) ysh.size (Qd w' hb (ho+offs S q)):=by
     refine⟨fun j hj=>(setRow_other _ _ _ _ hj).symm,arr,arr',ty,hwc,hwn,hsz,by omega,fun k hk=>?_,fun k hk=>hout k hk⟩
     simp[Qd,World.cell?,hw1]
    have hst:Streams (restore ((hb,arr)::R) w') (restore R w'):=⟨rfl,rfl,rfl,by simp[restore],aMb _⟩
    obtain⟨g1,hpl1,how1,h1⟩:=h.put (n:=⟨ysh,f',yx⟩) (hh:=true) hdr hset (Qlz q hn hS) hA hr2 (fun h=>by cases h) hW hst (by simp[restore]) (QqG hn)
    have U:∀j t,t ≠ .fl (N+i)->g.ow j=t->g1.ow j=t:=fun j t ht hj=>by rw[how1,if_neg (by rw[hj];exact ht),hj]
    obtain⟨g2,hpl2,h2,k2,k3⟩:=ih h1 I (hw.setR hdr hpl1 (fun b hb hr=>Qby (Z9 hap) b hb (by rw[hr];exact aLm)) (fun j m hm hj=>U j _ (by simp;omega) hj) (fun j hj=>U j _ (by simp) hj)) (by omega) (Z9 hap)
     (fun j hj=>U j _ (by simp) (hz j hj)) (fun j m hm hM hj=>U j _ (by simp;omega) (hbm j m (by omega) hM hj)) hp
    exact⟨g2,hpl2.trans hpl1,h2,fun j k hk hj=>k2 j k hk (U j _ (by simp;omega) hj),fun j hj=>k3 j (U j _ (by simp) hj)⟩
end Go.Dx
namespace Go.Dx
variable {P:Program} {B:Base} {g:Gh} {e:Env} {a:Act} {w:World} {C:Ctx}
theorem Zp.refit {ow' J:Nat->Tag} {w w':World} (ht:∀j t,t ≠ .fz->ow' j=t->J j=t) (hor:∀j,ow' j=.fz->J j=.fz\/True) :
  ∀(ps:List PS) (i:Nat) {vs:List Value} {ys:List ((s:Sh)×s.den)} {bs:List WB} {g:Gh} {e:Env},Zp P ow' w w' i ps vs ys->Qaj P w g e a ow' w' i ps vs bs->bs.all (fun b=>QO b.s b.f)=true->Zp P J w w' i ps vs ys:=by
 intro ps;induction ps with
 | nil=>intro i vs ys bs g e h _ _;exact h
 | cons p ps ih=>
  intro i vs ys bs g e h hw hf;cases hw with
  | v hw=>simp only[Zp] at h ⊢;exact ih (i+1) h hw hf
  | rp hw=>simp only[Zp] at h ⊢;exact ih (i+1) h hw hf
  | io h1 hw=>
   cases ys with
   | nil=>assumption
   | cons y ys=>
    simp only[List.all_cons,aLg] at hf;obtain⟨⟨hb,o,arr,arr',ty,i1,i2,i3,i4,i5,i6,U,I⟩,h⟩:=h;obtain⟨n,q,S,F,X,hb3,ho,mid,rfl,_⟩:=h1;obtain⟨ysh,yx⟩:=y;simp only at U I;subst U;exact⟨⟨hb,o,arr,arr',ty,i1,i2,i3,i4,i5,ht _ _ (by simp) i6,rfl,(Qd6 (Z':=Zo J) hf.1 I).mono (fun _ h=>h) (fun j hj=>ht j _ (by simp) hj)⟩,ih (i+1) h hw hf.2⟩
  | mu h1 hw=>
   cases ys with
   | nil=>simp[Zp] at h
   | cons y ys=>
    simp only[List.all_cons,aLg] at hf;obtain⟨⟨U,I⟩,h⟩:=h;obtain⟨r,q,S,X,T1,Zw,mid,rest,c0,rfl,_⟩:=h1;obtain⟨ysh,yx⟩:=y;simp only at U I;subst U;exact⟨⟨rfl,I.1,(Qd6 (Z':=Zo J) hf.1 I.2).mono (fun _ h=>h) (fun j hj=>ht j _ (by simp) hj)⟩,ih (i+1) h hw hf.2⟩
end Go.Dx
namespace Go.Dx
variable {P:Program} {B:Base} {g:Gh} {e:Env} {a:Act} {w:World} {C:Ctx}
theorem Qsp (h:Rel P B g e a w) {ow':Nat->Tag} {outs:List (Sh×Fl)} {vr:Value} {ys:List ((s:Sh)×s.den)} (hr:Qpm P ow' w outs vr ys)
  (hz:(∀j,ow' j=.fz->g.ow j=.fz)\/outs.all (fun o=>QO o.1 o.2)=true) (hfl:∀j k,k<outs.length->ow' j=.fl k->g.ow j=.fl k) (dst:Option Tmp) :
  ∃g',Rel P B g' (e.dst dst (resultD outs ys)) (a.put dst vr) w:=by
 obtain⟨U,hr⟩:=hr;have one:∀{s:Sh} {f:Fl} {k:Nat} {v:Value} {x:s.den},(s,f) ∈ outs->k<outs.length->RepV P s f (Zo ow') w (So ow' (.fl k)) v x->RepV P s f g.Z w (g.S (.fl k)) v x:=by
  intro s f k v x hm hk I;refine⟨I.1,?_⟩;rcases hz with hz | hz
  ·exact I.2.mono hz (fun j hj=>hfl j k hk hj)
  ·have:=List.all_eq_true.1 hz (s,f) hm
   exact (Qd6 this I.2).mono (fun _ h=>h) (fun j hj=>hfl j k hk hj)
 have tup:(∃vs:Array Value,vr=.tuple vs/\vs.size=outs.length/\∀(k:Nat) (o:Sh×Fl) (y:(s:Sh)×s.den) (u:Value),outs[k]? = some o->ys[k]? = some y->vs[k]? = some u->RepV P y.1 o.2 (Zo ow') w (So ow' (.fl k)) u y.2)->
   ∃g',Rel P B g' (e.dst dst (.tup ((outs.zip ys).map fun q=>(⟨q.2.1,q.1.2,q.2.2⟩:Dv)))) (a.put dst vr) w:=by
  rintro ⟨vs,rfl,hsz,hall⟩;have hlen:ys.length=outs.length:=by have:=congrArg List.length U;simpa using this
  let J:Nat->Tag:=fun j=>match g.ow j with | .fl _=>.fl 0 | t=>t
  have kfl:∀j m,g.ow j=.fl m->J j=.fl 0:=fun j m hj=>by simp[J,hj]
  have kno:∀j,(∀m,g.ow j ≠ .fl m)->J j=g.ow j:=fun j hj=>by
   grind
  have h2:Rel P B ⟨J,g.pl⟩ e a w:=h.fly rfl (fun j _ hm=>⟨kno j hm,rfl⟩) (Streams.refl _) (fun j hj=>h.lt j fun h0=>hj (by show J j=.none;rw[kno j (by rw[h0];simp)];exact h0))
  obtain⟨g3,_,_,h3⟩:=h2.dst 0 dst (d:=.tup ((outs.zip ys).map fun (q:(Sh×Fl)×((s:Sh)×s.den))=>(⟨q.2.1,q.1.2,q.2.2⟩:Dv))) (v:=.tuple vs)
   ⟨vs,rfl,by simp[hsz,hlen],fun j=>(match g.ow j with | .fl m=>m | _=>0),fun k y u hy hu=>by
    rw[List.getElem?_map,aLd] at hy;obtain⟨⟨o,z⟩,hoz,rfl⟩:=hy;rw[List.getElem?_zip_eq_some] at hoz;obtain⟨ho,hz'⟩:=hoz;have hk:k<outs.length:=(aLy.1 ho).1
    have hos:z.1=o.1:=by
     have h1:(ys.map (·.1))[k]? = some z.1:=by simp[hz']
     grind
    obtain⟨os,of⟩:=o;obtain⟨zs,zx⟩:=z;simp only at hos;subst hos;have I:=one (List.mem_of_getElem? ho) hk (hall k _ _ u ho hz' hu)
    refine I.frame (fun j hj=>?_) (fun j hj=>⟨kfl j k hj,by show (match g.ow j with | .fl m=>m | _=>0)=k;rw[show g.ow j=.fl k from hj]⟩) (fun _ _=>rfl)
    show J j=.fz
    rw[kno j (by rw[hj];simp)];exact hj⟩
  exact⟨g3,h3⟩
 unfold resultD;split
 ·rename_i s f y rest
  have hy:y.1=s:=by simp at U;exact U.1
  obtain⟨ysh,yx⟩:=y;simp only at hy;subst hy;obtain⟨g',_,_,h'⟩:=h.dst 0 dst (d:=.v ysh f yx) (v:=vr) (one (k:=0) (by simp) (by simp) hr)
  exact⟨g',h'⟩
 simp_all
end Go.Dx
namespace Go.Dx
variable {P:Program} {B:Base} {g:Gh} {e:Env} {a:Act} {w:World} {C:Ctx}
theorem Qwb:∀(ps:List PS) (i:Nat) {os:List Operand} {xs:List (Option ((s:Sh)×s.den))} {J:List WB} {ow':Nat->Tag} {w':World},Rel P B g e a w->QdQ P g e a w i ps os xs J->
  (∀j,(∀n,g.ow j=.c n->∃b,b ∈ J/\b.r=.b n->False)->True)->
  (∀b,b ∈ J->b.io=false->∀n hb ho,b.r=.b n->g.pl n=.cells hb ho->w'.heap[hb]? = w.heap[hb]?/\∀m,ow' hb ≠ .c m)->
  (∀j,((∃m,PK<=m/\g.ow j=.fl m)\/g.ow j=.fz)->w'.heap[j]? = w.heap[j]?/\∀m,ow' j ≠ .c m)->Qaj P w g e a ow' w' i ps (os.map a.eval) J:=by
 intro ps;induction ps with
 | nil=>
  intro i os xs J ow' w' h hg _ _ _;cases os with
  | nil=>
   cases xs with
   | nil=>obtain rfl:J=[]:=hg;exact .nil
   | cons x xs=>exact hg.elim
  | cons o os=>exact hg.elim
 | cons p ps ih=>
  intro i os xs J ow' w' h hg hu hm hpz;cases os with
  | nil=>exact hg.elim
  | cons o os=>
   cases xs with
   | nil=>exact hg.elim
   | cons x xs=>
    obtain⟨w1,w2,rfl,U,hg2⟩:=hg;have I:=ih (i+1) h hg2 (fun _ _=>trivial) (fun b hb=>hm b (List.mem_append_right _ hb)) hpz
    cases x with
    | none=>
     obtain⟨rfl,hp⟩:=U;rcases hp with ⟨s,rfl⟩ | ⟨s,q,rfl⟩
     ·exact .v I
     ·exact .rp I
    | some x=>
     obtain⟨hsx,U⟩:=U;cases p with
     | v s f=>obtain⟨rfl,_⟩:=U;exact .v I
     | rp s q=>exact U.elim
     | io s f f'=>
      obtain⟨n,q,S,F,X,hb,ho,mid,rfl,h4,h5,h6,h7,h8,h9⟩:=U;exact .io ⟨n,q,S,F,X,hb,ho,mid,rfl,h4,h5,h6,h7,h8⟩ I
     | mu s f f'=>
      obtain⟨_,r,q,S,X,T1,mid,rest,rfl,h4,h5,h6,h7,h8,h9,h10⟩:=U;have hmm:=hm ⟨r,q,s,f',false,mid,rest⟩ (by simp) rfl
      refine .mu ⟨r,q,S,X,T1,g.Z,mid,rest,_,rfl,h4,h5,h6,fun k _=>?_,h7,fun j hj=>hj,fun j hj=>hpz j (hj.elim (fun hj=>.inl ⟨PK+i,by omega,h7 j hj⟩) .inr),h8,h10,fun n hb ho hr hpl=>(hmm n hb ho hr hpl).2⟩ I
      cases r with
      | s t=>rfl
      | b n=>
       simp only[Ql];cases hpl:g.pl n with
       | hdr u=>rfl
       | cells hb ho=>simp only[];rw[Zm (hmm n hb ho rfl hpl).1]
end Go.Dx
namespace Go.Dx
variable {P:Program} {B:Base} {g:Gh} {e:Env} {a:Act} {w:World} {C:Ctx}
def mapT (N:Nat):Tag->Tag
 | .fz=>.fz
 | .fl k=>.fl k
 | .b i=>.fl (N+i)
 | _=>.none
noncomputable def Qpk (g:Gh) (w:World) (ow':Nat->Tag) (N:Nat):Gh:=
 ⟨fun j=>@ite _ (j<w.heap.size/\∀m,m<PK->g.ow j ≠ .fl m) (Classical.propDecidable _) (g.ow j) (mapT N (ow' j)),g.pl⟩
theorem Qie {w:World} {ow':Nat->Tag} {N j:Nat} (h1:j<w.heap.size) (h2:∀m,m<PK->g.ow j ≠ .fl m):(Qpk g w ow' N).ow j=g.ow j:=by
 show @ite _ _ (Classical.propDecidable _) _ _=_
 simp_all
theorem Qks {w:World} {ow':Nat->Tag} {N j:Nat} (h:¬(j<w.heap.size/\∀m,m<PK->g.ow j ≠ .fl m)):(Qpk g w ow' N).ow j=mapT N (ow' j):=by
 show @ite _ _ (Classical.propDecidable _) _ _=_
 grind
theorem Back.restored {w w':World} {ow':Nat->Tag} {i:Nat} {ps:List PS} {vs:List Value} {R:List (Nat×Array Value)} (h:Back w w' ow' i ps vs R):∀q,q ∈ R->(restore R w').heap[q.1]? = w.heap[q.1]?:=by
 induction h with
 | nil i=>simp_all
 | v _ J=>grind
 | rp _ J=>grind
 | mu _ J=>grind
 | @io i s f f' ps v vs R hb o arr arr' ty h1 h2 h3 h4 h5 h6 hB J=>
  intro q I;have U:∀q,q ∈ R->q.1 ≠ hb:=fun q I hqj=>by
   obtain⟨m,hm,hmm⟩:=hB.tags q I
   grind
  have hhb:(restore ((hb,arr)::R) w').heap[hb]? = w.heap[hb]?:=by
   rw[h2];exact setRow_heap _ _ _ _ _ _ ((QaZ U).trans h3)
  rcases List.mem_cons.1 I with rfl | I
  ·simp_all
  ·have:(restore ((hb,arr)::R) w').heap[q.1]? = (restore R w').heap[q.1]?:=setRow_other _ _ _ _ (U q I)
   grind
theorem Qwp {N:Nat} {t:Tag} (h:mapT N t ≠ .none):t ≠ .none:=by rintro rfl;exact h rfl
theorem QsI (h:Rel P B g e a w) {K:Callee} {L:List Root} {cix:Nat->Option Nat} {vs:List Value} {ys:TupO (K.outs.map (·.1)++QaO K.ins)} {ow':Nat->Tag} {w':World} {vr:Value} {N:Nat} (J:B.dm=true->K.dm=true) (I:Qhu P K (owC g L cix) w vs ys ow' w' vr)
  {R:List (Nat×Array Value)} (hB:Back w w' ow' 0 K.ins vs R) (U:∀j n i o,g.ow j=.c n->g.pl n=.cells j o->cix n=some i->∃q,q ∈ R/\q.1=j):Rel P B (Qpk g w ow' N) e a (restore R w'):=by
 obtain⟨s1,s2,s3⟩:=Qh5 R w';refine h.flyD rfl (fun j hj hm=>⟨Qie hj (fun m _=>hm m),?_⟩) ((I.st.weak J).trans s1.d) (fun j hj=>?_)
 ·by_cases hR:∃q,q ∈ R/\q.1=j
  ·obtain⟨q,hq,rfl⟩:=hR;exact hB.restored q hq
  ·rw[QaZ (fun q hq hqj=>hR ⟨q,hq,hqj⟩)]
   exact (I.frame j hj (QkO (fun m _=>hm m) (fun n i o h1 h2 h3=>hR (U j n i o h1 h2 h3)))).1
 ·rw[s3]
  by_cases hc:j<w.heap.size/\∀m,m<PK->g.ow j ≠ .fl m
  ·have:=I.st.size;omega
  ·rw[Qks hc] at hj
   exact I.lt j (Qwp hj)
end Go.Dx
namespace Go.Dx
variable {P:Program} {B:Base} {g:Gh} {e:Env} {a:Act} {w:World} {C:Ctx}
theorem Qvt {w w':World} {ow':Nat->Tag}:∀(ps:List PS) (i:Nat) {os:List Operand} {xs:List (Option ((s:Sh)×s.den))} {wbs:List WB} {R:List (Nat×Array Value)},QdQ P g e a w i ps os xs wbs->Back w w' ow' i ps (os.map a.eval) R->
  ∀j n k o,g.pl n=.cells j o->ZO i ps wbs n=some k->∃q,q ∈ R/\q.1=j:=by
 intro ps;induction ps with
 | nil=>intro i os xs wbs R _ _ j n k o _ hc;simp[ZO] at hc
 | cons p ps ih=>
  intro i os xs wbs R hg I j n k o U hc;cases os with
  | nil=>exact hg.elim
  | cons oo os=>
   cases xs with
   | nil=>exact hg.elim
   | cons x xs=>
    obtain⟨w1,w2,rfl,J,hg2⟩:=hg;cases x with
    | none=>
     obtain⟨rfl,hp⟩:=J;rcases hp with ⟨s,rfl⟩ | ⟨s,q,rfl⟩
     ·cases I with | v I=>exact ih (i+1) hg2 I j n k o U (by simpa [ZO] using hc)
     ·cases I with | rp I=>exact ih (i+1) hg2 I j n k o U (by simpa [ZO] using hc)
    | some x=>
     obtain⟨_,J⟩:=J;cases p with
     | v s f=>obtain⟨rfl,_⟩:=J;cases I with | v I=>exact ih (i+1) hg2 I j n k o U (by simpa [ZO] using hc)
     | rp s q=>exact J.elim
     | io s f f'=>
      obtain⟨n',q,S,F,X,hb,ho,mid,rfl,h4,h5,h6,h7,h8,h9⟩:=J;cases I with
      | io h1 _ _ _ _ _ I=>
       rw[h8] at h1;simp only[Value.pointer.injEq,aLb,Addr.mk.injEq,and_true] at h1;by_cases hn:n'=n
       ·simp_all
       ·obtain⟨q',hq',hqj⟩:=ih (i+1) hg2 I j n k o U (by simpa [ZO,hn] using hc)
        exact⟨q',aLp _ hq',hqj⟩
     | mu s f f'=>
      obtain⟨_,r,q,S,X,T1,mid,rest,rfl,_⟩:=J;cases I with | mu I=>exact ih (i+1) hg2 I j n k o U (by simpa [ZO] using hc)
end Go.Dx
namespace Go.Dx
variable {P:Program} {B:Base} {g:Gh} {e:Env} {a:Act} {w:World} {C:Ctx}
theorem Back.mono {w w':World} {ow' I:Nat->Tag} (U:∀j m,ow' j=.c m->I j=.c m) {i:Nat} {ps:List PS} {vs:List Value} {R:List (Nat×Array Value)} (h:Back w w' ow' i ps vs R):Back w w' I i ps vs R:=by
 induction h with
 | nil i=>exact .nil i
 | v _ J=>exact .v J
 | rp _ J=>exact .rp J
 | mu _ J=>exact .mu J
 | io h1 h2 h3 h4 h5 h6 _ J=>exact .io h1 h2 h3 h4 h5 (U _ _ h6) J
theorem Qaj.tags {g g':Gh} {ow' I:Nat->Tag} {w':World} (J:g'.pl=g.pl) (hpk:∀j m,g.ow j=.fl (PK+m)->g'.ow j=.fl (PK+m)) (hz:∀j,g.ow j=.fz->g'.ow j=.fz) (hc:∀j m,I j=.c m->ow' j=.c m)
  {i:Nat} {ps:List PS} {vs:List Value} {bs:List WB} (h:Qaj P w g e a ow' w' i ps vs bs):Qaj P w g' e a I w' i ps vs bs:=by
 induction h with
 | nil=>exact .nil
 | v _ U=>exact .v U
 | rp _ U=>exact .rp U
 | io h1 _ U=>
  refine .io ?_ U;obtain⟨n,q,S2,F2,X2,hb,ho,mid,rfl,h2,h3,h4,h5,h6⟩:=h1;exact⟨n,q,S2,F2,X2,hb,ho,mid,rfl,h2,h3,h4,by rw[J];exact h5,h6⟩
 | mu h1 _ U=>
  refine .mu ?_ U;obtain⟨r2,q,S2,X2,T1,Zw,mid,rest,c0,rfl,h2,h3,h4,h5,h6,h7,h8,h9,h10,h11⟩:=h1;exact⟨r2,q,S2,X2,T1,Zw,mid,rest,c0,rfl,h2,h3,h4,by rw[ZN J];exact h5,fun j hj=>hpk j _ (h6 j hj),fun j hj=>hz j (h7 j hj),
   fun j hj=>⟨(h8 j hj).1,fun m hm=>(h8 j hj).2 m (hc j m hm)⟩,h9,h10,fun n hb ho hr hp m hm=>by rw[J] at hp;exact h11 n hb ho hr hp m (hc _ _ hm)⟩
theorem QmA:∀(ps:List PS) (i:Nat) {I:List WB} {n k:Nat},ZO i ps I n=some k->∃b,b ∈ I/\b.r=.b n:=by
 intro ps;induction ps with
 | nil=>intro i I n k h;simp[ZO] at h
 | cons p ps J=>
  intro i I n k h;cases p with
  | v s f=>exact J (i+1) (by simpa only [ZO] using h)
  | rp s q=>exact J (i+1) (by simpa only [ZO] using h)
  | io s f f'=>
   cases I with
   | nil=>simp[ZO] at h
   | cons b I=>
    simp[ZO] at h
    grind
  | mu s f f'=>
   cases I with
   | nil=>simp[ZO] at h
   | cons b I=>
    simp[ZO] at h
    grind
theorem Qvn:∀(ps:List PS) (i:Nat) {os:List Operand} {xs:List (Option ((s:Sh)×s.den))} {I:List WB} {lent:List Root},QdQ P g e a w i ps os xs I->QaR lent I=true->∀b,b ∈ I->b.io=false->∀n,b.r=.b n->
  ZO i ps I n=none/\∃S F X,(e.root (.b n)).d=.v S F X:=by
 intro ps;induction ps with
 | nil=>
  intro i os xs I lent hg J b hb;cases os<;>cases xs<;>first | exact hg.elim | (obtain rfl:I=[]:=hg;cases hb)
 | cons p ps ih=>
  intro i os xs I lent hg J b hb hio n hn;cases os with
  | nil=>exact hg.elim
  | cons o os=>
   cases xs with
   | nil=>exact hg.elim
   | cons x xs=>
    obtain⟨w1,w2,rfl,U,hg2⟩:=hg;cases x with
    | none=>
     obtain⟨rfl,hp⟩:=U;have:=ih (i+1) hg2 J b hb hio n hn
     rcases hp with ⟨s,rfl⟩ | ⟨s,q,rfl⟩<;>exact⟨by simpa only [ZO,aLx] using this.1,this.2⟩
    | some x=>
     obtain⟨_,U⟩:=U;cases p with
     | v s f=>
      obtain⟨rfl,_⟩:=U;have:=ih (i+1) hg2 J b hb hio n hn
      exact⟨by simpa only [ZO,aLx] using this.1,this.2⟩
     | rp s q=>exact U.elim
     | io s f f'=>
      obtain⟨n',q,S,F,X,hb',ho,mid,rfl,h4,h5,h6,_⟩:=U;simp only[aMs,aLx,List.mem_cons] at hb;rcases hb with rfl | hb
      ·cases hio
      ·have:=ih (i+1) hg2 (Z9 J) b hb hio n hn
       have hne:¬Root.b n'=.b n:=fun hh=>Qby (Z9 J) b hb (by rw[hn,<-hh];exact aLm)
       exact⟨by simpa only [aMs,aLx,ZO,hne,if_false] using this.1,this.2⟩
     | mu s f f'=>
      obtain⟨_,r,q,S,X,T1,mid,rest,rfl,h4,h5,h6,_⟩:=U;simp only[aMs,aLx,List.mem_cons] at hb;rcases hb with rfl | hb
      ·refine⟨?_,?_⟩
       ·simp only[aMs,aLx,ZO]
        cases hq:ZO (i+1) ps w2 n with
        | none=>rfl
        | some k=>
         obtain⟨b',h1,h2⟩:=QmA ps (i+1) hq;exact (Qby (Z9 J) b' h1 (by rw[h2];exact hn ▸ aLm)).elim
       grind
      ·have:=ih (i+1) hg2 (Z9 J) b hb hio n hn
       exact⟨by simpa only [aMs,aLx,ZO] using this.1,this.2⟩
theorem Qsv (hC:Qae P B.g0 B.dm C) (h:Rel P B g e a w) {o:Oper} {c:Call} {fo:Operand} (ho:o.op=.call c) (hc:c.callee=.value fo) {j:FuncId} (hfo:e.opd fo=.clos j []) {f:Eff} {e':Env}
  (hs:Qim C e o.dst j c.args.toList=some f) (hf:f.gives e'):QD P B a w o e':=by
 let g0:Gh:=⟨fun i=>match g.ow i with | .fl _=>.none | t=>t,g.pl⟩
 have hg0:∀i,(∀m,g.ow i ≠ .fl m)->g0.ow i=g.ow i:=fun i hi=>by
  show (match g.ow i with | .fl _=>Tag.none | t=>t)=_
  cases hq:g.ow i<;>first | rfl | exact absurd hq (hi _)
 have h0:Rel P B g0 e a w:=h.fly rfl (fun i _ hm=>⟨hg0 i hm,rfl⟩) (Streams.refl _) (fun i hi=>h.lt i fun hh=>hi (by rw[hg0 i (by rw[hh];simp)];exact hh))
 have hno:∀i m,Fr 0 m->g0.ow i ≠ .fl m:=fun i m _ hh=>by
  have:(match g.ow i with | .fl _=>Tag.none | t=>t)=.fl m:=hh
  cases hq:g.ow i<;>simp[hq] at this
 unfold Qim at hs;obtain⟨K,hK,hs⟩:=aLa.1 hs;obtain⟨⟨e1,xs,wbs⟩,hA,hs⟩:=aLa.1 hs;obtain⟨⟨zs,L⟩,hB,hs⟩:=aLa.1 hs;obtain⟨t,ht,hs⟩:=aLa.1 hs;simp only at hB hs;cases hck:(L.isEmpty || (K.outs.all (fun o=>QO o.1 o.2)&&wbs.all (fun b=>QO b.s b.f)))&&QaR L wbs&&Nat.ble (K.outs.length+K.ins.length) PK with
 | false=>rw[hck] at hs;cases hs
 | true=>
  rw[hck,aLB] at hs;simp only[aLb] at hs;subst hs;obtain⟨ys,hF,hres⟩:=hf;simp only[aLg,Nat.ble_eq] at hck;obtain⟨⟨hfree,hap⟩,hle⟩:=hck;obtain⟨g1,hg1,h1,_,_,I⟩:=Qvw K.ins c.args.toList 0 (by omega) h0 hno hA
  let cix:Nat->Option Nat:=ZO 0 K.ins wbs
  have hcixL:∀n i,cix n=some i->.b n ∉ L:=fun n i hn hm=>by
   obtain⟨b,hb,hr⟩:=QmA K.ins 0 hn;exact Qby hap b hb (hr ▸ hm)
  obtain⟨hE,hcall⟩:=hC.fn j K hK;have hpar:QaH P (owC g1 L cix) w 0 K.ins (c.args.toList.map a.eval) t:=
   Qui hC h1 (fun j hj=>Qsw hj) (fun j m hm hj=>QwH hm hj) (fun j o n i hpl how hn=>Qw7 (hcixL n i hn) how hn hpl) K.ins 0 (by omega) I hB ht (fun _ h=>h) (QwK K.ins 0 hap (fun _ _=>rfl))
  have hcl:=hcall w (owC g1 L cix) (c.args.toList.map a.eval) t ys (fun i hi=>h1.lt i (QwA hi)) (fun i hi=>⟨Qsw (.inl (h1.gok i hi).1),(h1.gok i hi).2⟩) hpar hF
  obtain⟨Tf,hdf,_,_⟩:=QC h fo;rw[hfo] at hdf;obtain⟨vs,hv,hlen,_⟩:=hdf;have hvs:vs=[]:=aMk hlen
  subst hvs;refine .call (Qjs (f:=fo) ho hc hE (caps:=#[]) (by rw[hv])) (by
   have:c.args.map a.eval++#[]=(c.args.toList.map a.eval).toArray:=by apply Array.ext';simp
   rw[this];exact hcl) (fun en w' hR=>?_)
  obtain⟨vr,ow',rfl,hp⟩:=hR;refine⟨vr,rfl,?_⟩;obtain⟨R,hBk⟩:=Qwf K.ins 0 hp.ios;have hcR:∀j n i o,g1.ow j=.c n->g1.pl n=.cells j o->cix n=some i->∃q,q ∈ R/\q.1=j:=fun j n i o _ hpl hn=>Qvt K.ins 0 I hBk j n i o hpl hn
  have h2:=QsI h1 (N:=K.outs.length) (fun q=>hC.dm q j K hK) hp hBk hcR
  have hold:∀j,j<w.heap.size->(∀m,m<PK->g1.ow j ≠ .fl m)->(ow' j=.none\/(ow' j=.fz/\Zl g1 L j)\/∃m,ow' j=.c m):=fun j hj hm=>by
   by_cases hcc:∃n i o,g1.ow j=.c n/\g1.pl n=.cells j o/\cix n=some i
   ·obtain⟨n,i,o,h3,h4,h5⟩:=hcc
    obtain⟨q,hq,rfl⟩:=hcR j n i o h3 h4 h5;obtain⟨m,_,hm⟩:=hBk.tags q hq;exact .inr (.inr ⟨m,hm⟩)
   ·have ho:=QkO (L:=L) hm (fun n i o h3 h4 h5=>hcc ⟨n,i,o,h3,h4,h5⟩)
    have U:=(hp.frame j hj ho).2
    rcases ho with ho | ho
    ·exact .inl (U.trans ho)
    ·refine .inr (.inl ⟨U.trans ho,?_⟩)
     by_cases hz:Zl g1 L j
     ·exact hz
     ·exfalso
      have J:=ho
      simp only[owC,hz,if_false] at J;split at J
      ·split at J<;>cases J
      ·split at J
       ·split at J<;>cases J
       ·cases J
      ·cases J
  let g2:=Qpk g1 w ow' K.outs.length
  have hnew:∀j t,t ≠ .none->t ≠ .fz->(∀m,t ≠ .c m)->ow' j=t->g2.ow j=mapT K.outs.length t:=fun j t n1 n2 n3 hj=>by
   by_cases hc:j<w.heap.size/\∀m,m<PK->g1.ow j ≠ .fl m
   ·grind
   ·rw[show g2.ow j=mapT K.outs.length (ow' j) from Qks hc,hj]
  have hzback:∀j,ow' j=.fz->g2.ow j=.fz\/L ≠ []:=fun j hj=>by
   by_cases hc:j<w.heap.size/\∀m,m<PK->g1.ow j ≠ .fl m
   ·rcases hold j hc.1 hc.2 with h3 | ⟨_,h3⟩ | ⟨m,h3⟩
    ·rw[h3] at hj;cases hj
    ·rcases h3 with h3 | ⟨r,hr,_⟩
     ·exact .inl ((Qie hc.1 hc.2).trans h3)
     ·exact .inr (List.ne_nil_of_mem hr)
    ·rw[h3] at hj;cases hj
   ·exact .inl (by rw[show g2.ow j=mapT K.outs.length (ow' j) from Qks hc,hj];rfl)
  let ow2:Nat->Tag:=fun j=>if ow' j=.fz/\g2.ow j ≠ .fz then .none else ow' j
  have k1:∀j t,t ≠ .fz->ow' j=t->ow2 j=t:=fun j t ht hj=>by show (if _ then _ else _)=_;rw[hj,if_neg (fun hh=>ht hh.1)]
  have k2:∀j t,t ≠ .none->ow2 j=t->ow' j=t:=fun j t ht hj=>by
   have hj:(if ow' j=.fz/\g2.ow j ≠ .fz then Tag.none else ow' j)=t:=hj
   split at hj
   ·exact (ht hj.symm).elim
   ·exact hj
  have k3:∀j,ow2 j=.fz->g2.ow j=.fz:=fun j hj=>by
   grind
  have hmuB:∀b,b ∈ wbs->b.io=false->∀n hb ho,b.r=.b n->g1.pl n=.cells hb ho->w'.heap[hb]? = w.heap[hb]?/\∀m,ow' hb ≠ .c m:=fun b hb hio n hb' ho hr hpl=>by
   obtain⟨hcn,S,F,X,hd⟩:=Qvn K.ins 0 I hap b hb hio n hr;have hbl:=h1.bl n
   rw[show (e1.b n).d=.v S F X from hd] at hbl
   obtain⟨hcow,arr,ty,hcell,_⟩:=hbl.2 hb' ho hpl;have hlt:=h1.lt hb' (by rw[hcow];simp)
   have ho':=QkO (g:=g1) (L:=L) (cix:=cix) (j:=hb') (fun m _=>by rw[hcow];simp) (fun n' i o h3 h4 h5=>by
    rw[hcow] at h3;simp only[Tag.c.injEq] at h3;subst h3;rw[show cix n=none from hcn] at h5;cases h5)
   have U:=hp.frame hb' hlt ho'
   refine⟨U.1,fun m hm=>?_⟩
   rw[U.2] at hm;rcases ho' with h5 | h5<;>rw[h5] at hm<;>cases hm
  have hwbs:=Qwb (ow':=ow') (w':=w') K.ins 0 h1 I (fun _ _=>trivial) hmuB (fun j hj=>by
   have hlt:j<w.heap.size:=h1.lt j (by rcases hj with ⟨m,_,hj⟩ | hj<;>rw[hj]<;>simp)
   have ho':=QkO (g:=g1) (L:=L) (cix:=cix) (j:=j) (fun m hm hh=>by
    rcases hj with ⟨m',hm',hj⟩ | hj
    ·rw[hj] at hh;simp only[Tag.fl.injEq] at hh;omega
    ·rw[hj] at hh;cases hh) (fun n' i o h3 h4 h5=>by rcases hj with ⟨m',hm',hj⟩ | hj<;>rw[hj] at h3<;>cases h3)
   have U:=hp.frame j hlt ho'
   refine⟨U.1,fun m hm=>?_⟩
   rw[U.2] at hm;rcases ho' with h5 | h5<;>rw[h5] at hm<;>cases hm)
  have hpkk:∀j m,g1.ow j=.fl (PK+m)->g2.ow j=.fl (PK+m):=fun j m hj=>(Qie (h1.lt j (by rw[hj];simp)) (fun m' hm' hh=>by rw[hj] at hh;simp only[Tag.fl.injEq] at hh;omega)).trans hj
  have hzz:∀j,g1.ow j=.fz->g2.ow j=.fz:=fun j hj=>(Qie (h1.lt j (by rw[hj];simp)) (fun m' hm' hh=>by rw[hj] at hh;cases hh)).trans hj
  have hwbs2:Qaj P w g2 e1 a ow2 w' 0 K.ins (c.args.toList.map a.eval) wbs:=hwbs.tags (g':=g2) (show g2.pl=g1.pl from rfl) hpkk hzz (fun j m hj=>k2 j _ (by simp) hj)
  have hios2:Zp P ow2 w w' 0 K.ins (c.args.toList.map a.eval) ((scat _ ys).drop K.outs.length):=by
   by_cases hL:L=[]
   ·have:ow2=ow':=by
     funext j
     show (if ow' j=.fz/\g2.ow j ≠ .fz then Tag.none else ow' j)=_
     rw[if_neg (fun hh=>(hzback j hh.1).elim hh.2 (fun hn=>hn hL))]
    rw[this];exact hp.ios
   ·have hfree':(K.outs.all (fun o=>QO o.1 o.2)&&wbs.all (fun b=>QO b.s b.f))=true:=by
     simp only[aMC,List.isEmpty_iff] at hfree;exact hfree.resolve_left hL
    simp only[aLg] at hfree';exact Zp.refit k1 (fun _ _=>.inr trivial) K.ins 0 hp.ios hwbs hfree'.2
  unfold results at hres;obtain⟨e2,hput,rfl⟩:=aLd.1 hres;obtain⟨g3,hpl3,h3,hk3,hz3⟩:=Qr6 (N:=K.outs.length) (M:=K.ins.length) hle (hBk.mono (fun j m hj=>k1 j _ (by simp) hj)) h2 hios2 hwbs2 (by omega) hap k3
   (fun j m _ hm hj=>(hnew j (.b m) (by simp) (by simp) (by simp) (k2 j _ (by simp) hj))) hput
  refine Qsp h3 hp.res ?_ (fun j k hk hj=>hk3 j k hk (hnew j (.fl k) (by simp) (by simp) (by simp) hj)) o.dst
  grind
end Go.Dx
namespace Go.Dx
variable {P:Program} {B:Base} {g:Gh} {e:Env} {a:Act} {w:World} {C:Ctx}
theorem Rel.adopt (h:Rel P B g e a w) {i:Nat} (hi:i<e.sl.length) (hib:i<e.bl.length) {S:Sh} {X:S.den} {hb:Nat} {arr:Array Value} {ty:TypeId} (hcell:w.heap[hb]? = some (.cells arr ty (0,0))) (hsz:S.size<=arr.size)
  (how:g.ow hb=.none) (hnew:B.w0.heap.size<=hb) (hrep:RepC P S .z g.Z w QP (Qd w hb 0) X) :
  ∃g',g'.pl i=.cells hb 0/\Rel P B g' (e.setB i (.v S .z X)) a w:=by
 let ow':Nat->Tag:=fun j=>if j=hb then .c i else if g.ow j=.b i\/g.ow j=.c i then .none else g.ow j
 let U:Nat->Plc:=fun j=>if j=i then .cells hb 0 else g.pl j
 have hne:∀j,g.ow j ≠ .none->j ≠ hb:=fun j hj he=>hj (he ▸ how)
 have I:∀j t,g.ow j=t->t ≠ .none->t ≠ .b i->t ≠ .c i->ow' j=t:=fun j t hj h0 h2 h3=>by
  grind
 have J:∀j,j ≠ hb->g.ow j=.none->ow' j=.none:=fun j hj h0=>by simp[ow',hj,h0]
 have hB:∀j,(e.setB i (.v S .z X)).b j=if i=j then ⟨(e.b i).ver+1,.v S .z X,(e.b i).id+1,(e.b i).hv+1⟩ else e.b j:=fun j=>QpS hib
 have hlt':hb<w.heap.size:=(Array.getElem?_eq_some_iff.1 hcell).1
 refine⟨⟨ow',U⟩,by simp[U],h.step (fun _=>False) (fun j=>j=i) h.lens h.defers (fun j _=>⟨rfl,rfl⟩) (fun j hj=>⟨by rw[hB,if_neg (Ne.symm hj)],by simp[U,hj]⟩)
  (fun _ h=>h.elim) (fun j hj=>by subst hj;rw[hB,if_pos rfl];exact aMp _) (fun _ h=>h.elim) (fun j hj=>.inl (by subst hj;show (e.b j).id<((e.setB j _).b j).id;rw[hB,if_pos rfl];exact aMp _)) (fun _ h=>h.elim) (fun j hj=>by subst hj;exact QqB hib)
  (fun j hj=>⟨I j _ hj (by simp) (by simp) (by simp),rfl⟩)
  (fun m j _ hj=>⟨I j _ hj (by simp) (by simp) (by simp),rfl⟩)
  (fun m j hm hj=>⟨I j _ hj (by simp) (by simp;exact hm) (by simp),rfl⟩)
  (fun m j hm hj=>⟨I j _ hj (by simp) (by simp) (by simp;exact hm),rfl⟩)
  (Streams.refl _) (fun _ _ _=>rfl) (fun j h1 h2 h3=>J j (by omega) (h.nn j h1 h2 h3)) (fun j hj=>?_) (fun q hq hc hn _=>?_) (fun _ j hj=>hj.elim) (fun hk j hj=>?_)⟩
 ·by_cases hjn:j=hb
  ·omega
  ·exact h.lt j (fun h0=>hj (J j hjn h0))
 ·have:=h.lens.2;omega
 ·subst hj
  rw[hB,if_pos rfl];refine⟨?_,fun hb' o hpl=>?_⟩
  ·refine RepC.congr (fun m hm=>?_) (hrep.mono (fun m hm=>I m _ hm (by simp) (by simp) (by simp)) (fun m hm=>hm.elim))
   simp[Ql,U,if_pos]
  grind
theorem Qug (h:Rel P B g e a w):∀(I:List Sh) (os:List Operand) (l:List ((s:Sh)×s.den)) (t:TupI I),rdZ e I os=some l->gatI I l=some t->Qsh P g.Z w I (os.map a.eval) t
 | [],[],_,_,_,_=>rfl
 | [],_::_,_,_,h,_=>by simp[rdZ] at h
 | _::_,[],_,_,h,_=>by simp[rdZ] at h
 | s::I,o::os,l,t,U,J=>by
  unfold rdZ at U;split at U
  ·rename_i s' f x hd
   cases hc:decide (s'=s)&&f.isz with
   | false=>simp_all
   | true=>
    rw[hc] at U;simp at hc;obtain⟨rfl,hz⟩:=hc;obtain rfl:=Qac hz;obtain⟨l',hl,rfl⟩:=aLd.1 U;obtain⟨T,ho,_,_⟩:=QC h o;rw[hd] at ho;simp only[gatI,aLa] at J;obtain⟨x2,hx2,t2,ht2,J⟩:=J;simp at J;subst J;have:=ZK hx2
    simp at this;subst this;exact⟨⟨ho.1,RepC.shared ho.2⟩,Qug h I os l' t2 hl ht2⟩
  simp_all
theorem Qud (hC:Qae P B.g0 B.dm C) (h:Rel P B g e a w) {o:Oper} {c:Call} {fo:Operand} (ho:o.op=.call c) (hc:c.callee=.value fo) {j:FuncId} (hfo:e.opd fo=.clos j []) {N:NewP} (hj:assoc j C.nps=some N) {f:Eff} {e':Env}
  (I:newE e o.dst N c.args.toList=some f) (hf:f.gives e'):QD P B a w o e':=by
 obtain⟨i,hi,I⟩:=aLa.1 I;obtain⟨l,hl,I⟩:=aLa.1 I;obtain⟨t,ht,I⟩:=aLa.1 I;cases hcc:Nat.blt i e.sl.length&&Nat.blt i e.bl.length with
 | false=>simp_all
 | true=>
  rw[hcc,aLB] at I;simp at I;subst I;obtain⟨y,hF,hn⟩:=hf;obtain⟨hil,hib,rfl⟩:=Qir hn;obtain⟨hE,J⟩:=hC.np j N hj;have hcl:=J w g.Z (c.args.toList.map a.eval) t y (fun k hk=>h.lt k (by rw[show g.ow k=.fz from hk];simp)) (fun i hi=>h.gok i hi) (Qug h _ _ l t hl ht) hF
  obtain⟨Tf,hdf,_,_⟩:=QC h fo;rw[hfo] at hdf;obtain⟨vs,hv,hlen,_⟩:=hdf;have hvs:vs=[]:=aMk hlen
  subst hvs;refine .call (Qjs ho hc hE (by rw[hv])) (by
   have:c.args.map a.eval++#[]=(c.args.toList.map a.eval).toArray:=by apply Array.ext';simp
   rw[this];exact hcl) (fun en w' hR=>?_)
  obtain⟨hb,arr,ty,rfl,hst,hold,hge,U,hsz,hrep⟩:=hR;refine⟨_,rfl,?_⟩;have hnone:g.ow hb=.none:=by
   cases hq:g.ow hb with
   | none=>rfl
   | _=>exact absurd (h.lt hb (by rw[hq];simp)) (by omega)
  have h1:Rel P B g e a w':=h.fly rfl (fun k hk _=>⟨rfl,hold k hk⟩) hst (fun k hk=>Nat.lt_of_lt_of_le (h.lt k hk) hst.size)
  obtain⟨g1,hpl,h2⟩:=h1.adopt hil hib U hsz hnone (Nat.le_trans h.st.size hge) hrep;have hA:QU g1 (.b i)=some (hb,0):=by simp[QU,hpl]
  obtain⟨g2,hpl2,_,h3⟩:=h2.dst 0 (some i) (d:=.loc (.b i) ((e.setB i (.v N.out .z y)).b i).id [])
   ⟨⟨_,rfl⟩,aMb _,fun _=>⟨fun _=>⟨_,_,hA,rfl⟩,fun S F X _=>⟨by simp[QG],fun _=>⟨_,_,by simp[Qi];exact hA,rfl⟩⟩⟩⟩
  grind
theorem QiZ (hT:QR P C) (hC:Qae P B.g0 B.dm C) (h:Rel P B g e a w) {frz:Fz} {o:Oper} {f:Eff} {e':Env} (I:Qn C frz e o=some f) (U:f.gives e'):QD P B a w o e':=by
 cases ho:o.op with
 | move x=>exact Qt4 h ho I U
 | assign x=>exact QqN h ho I U
 | pick c x y=>exact Qs5 h ho I U
 | unOp op t x=>exact Qs4 h ho I U
 | binOp op t x y ty=>exact Qr2 hT h ho I U
 | nilCheck x=>exact QoX h ho I U
 | fieldAddr t x n=>exact Qno hT h ho I U
 | index t x i=>exact QsB hT h ho I U
 | indexAddr t x i=>exact Qng hT h ho I U
 | slice t x lo hi mx=>
  cases mx with
  | none=>exact QsH hT h ho I U
  | some m=>simp[Qn,ho] at I
 | extract x n=>exact QqI h ho I U
 | makeFunc fn fi cs=>
  cases fn with
  | func j=>exact Qo4 h ho I U
  | _=>simp[Qn,ho] at I
 | load t x=>exact QsT hT h ho I U
 | store t x y=>exact QsE hT h ho I U
 | box t x=>exact QuK hT h ho I U
 | alloc t=>exact Qsy hT h ho I U
 | convert s t x=>exact Qps hT h ho I U
 | makeSlice t x y=>exact QnG hT h ho I U
 | field t x n=>exact QsQ hT h ho I U
 | buildSlice t n ps=>exact Qms hT h ho I U
 | build t ps=>exact Qsf hT h ho I U
 | call c=>
  obtain⟨callee,args,ats⟩:=c;have hs0:=I
  have hla:∀l:List Operand,args.toList=l->args=l.toArray:=fun l hl=>by rw[<-hl]
  simp only[Qn,ho] at I;split at I
  ·rename_i _ x J
   obtain rfl:=hla _ J;exact QuC hT h ho hs0 U
  ·rename_i _ x y J
   obtain rfl:=hla _ J;exact Qva h ho hs0 U
  ·rename_i _ x J
   obtain rfl:=hla _ J;exact QrV hT h ho hs0 U
  ·rename_i _ x y J
   obtain rfl:=hla _ J;exact step_append hT h ho hs0 U
  ·rename_i fo as
   split at I
   ·rename_i j hfo
    split at I
    ·rename_i N hj
     exact Qud hC h ho rfl hfo hj I U
    ·exact Qsv hC h ho rfl hfo I U
   ·exact Qst h ho rfl I U
  ·cases I
 | _=>simp[Qn,ho] at I
end Go.Dx
namespace Go.Dx
def Qi4 (d I:Desc):Prop:=I=d\/∃S F F' X,d=.v S F X/\I=.v S F' X
theorem Qi4.trans {a b c:Desc} (h:Qi4 a b) (k:Qi4 b c):Qi4 a c:=by
 rcases h with rfl | ⟨S,F,F',X,rfl,rfl⟩
 ·grind
 ·rcases k with rfl | ⟨S',G,I,U,h1,rfl⟩
  ·exact .inr ⟨S,F,F',X,rfl,rfl⟩
  ·simp at h1
   obtain⟨rfl,rfl,J⟩:=h1;obtain rfl:=eq_of_heq J;exact .inr ⟨S,F,I,X,rfl,rfl⟩
structure Zi (b b':Env):Prop where
 sl:b'.sl.length=b.sl.length
 bl:b'.bl.length=b.bl.length
 le:∀r,(b.root r).ver<=(b'.root r).ver/\((b'.root r).ver=(b.root r).ver->Qi4 (b.root r).d (b'.root r).d/\(b'.root r).id=(b.root r).id/\(b'.root r).hv=(b.root r).hv)
theorem Zi.refl (e:Env):Zi e e:=⟨rfl,rfl,fun _=>⟨aMb _,fun _=>⟨.inl rfl,rfl,rfl⟩⟩⟩
theorem Zi.trans {a b c:Env} (h:Zi a b) (k:Zi b c):Zi a c:=
 ⟨k.sl.trans h.sl,k.bl.trans h.bl,fun r=>⟨Nat.le_trans (h.le r).1 (k.le r).1,fun he=>by
  have h1:=(h.le r).1
  have h2:=(k.le r).1
  exact⟨((h.le r).2 (by omega)).1.trans ((k.le r).2 (by omega)).1,((k.le r).2 (by omega)).2.1.trans ((h.le r).2 (by omega)).2.1,((k.le r).2 (by omega)).2.2.trans ((h.le r).2 (by omega)).2.2⟩⟩⟩
structure Mo (s b:Env):Prop where
 sl:s.sl.length=b.sl.length
 bl:s.bl.length=b.bl.length
 cell:∀r,s.root r=b.root r\/(s.root r).d=.tup []
theorem Mo.refl (e:Env):Mo e e:=⟨rfl,rfl,fun _=>.inl rfl⟩
structure Syn (s b s' b':Env):Prop where
 sl:s'.sl.length=s.sl.length
 bl:s'.bl.length=s.bl.length
 cell:∀r,(s'.root r=s.root r/\b'.root r=b.root r)\/(s.root r=b.root r/\s'.root r=b'.root r)
 le:Zi b b'
theorem Syn.refl (s b:Env):Syn s b s b:=⟨rfl,rfl,fun _=>.inl ⟨rfl,rfl⟩,.refl b⟩
theorem Syn.trans {s b s1 I s2 J:Env} (h:Syn s b s1 I) (k:Syn s1 I s2 J):Syn s b s2 J:=by
 refine⟨k.sl.trans h.sl,k.bl.trans h.bl,fun r=>?_,h.le.trans k.le⟩
 rcases h.cell r with ⟨h1,h2⟩ | ⟨h1,h2⟩<;>rcases k.cell r with ⟨k1,k2⟩ | ⟨k1,k2⟩
 ·simp_all
 ·simp_all
 ·simp_all
 simp_all
theorem Syn.mo {s b s' b':Env} (h:Syn s b s' b') (m:Mo s b):Mo s' b':=by
 refine⟨by rw[h.sl,h.le.sl];exact m.sl,by rw[h.bl,h.le.bl];exact m.bl,fun r=>?_⟩
 rcases h.cell r with ⟨h1,h2⟩ | ⟨h1,h2⟩
 ·rcases m.cell r with m1 | m1
  ·simp_all
  simp_all
 simp_all
theorem Syn.eq {s b s' b':Env} (h:Syn s b s' b') {r:Root} (I:s.root r=b.root r):s'.root r=b'.root r:=by
 rcases h.cell r with ⟨h1,h2⟩ | ⟨_,h2⟩
 ·simp_all
 simp_all
theorem Mo.of_v {s b:Env} (m:Mo s b) {r:Root} (h:(s.root r).d ≠ .tup []):s.root r=b.root r:=(m.cell r).resolve_right h
theorem Mo.v {s b:Env} (m:Mo s b) {r:Root} {S:Sh} {F:Fl} {X:S.den} (h:(s.root r).d=.v S F X):s.root r=b.root r:=m.of_v (by rw[h];simp)
theorem QkH {e:Env} {i:Nat} {d:Desc} (r:Root):(e.setS i d).root r=if r=.s i/\i<e.sl.length then ⟨(e.root r).ver+1,d,(e.root r).id+1,(e.root r).hv+1⟩ else e.root r:=by
 cases r with
 | s j=>
  show (e.setS i d).s j=_
  simp only[Env.setS,Env.s,upd,ZY];by_cases h:i=j
  ·subst h;simp[Env.root,Env.s]
  ·have:¬Root.s j=.s i:=fun hh=>h (by simp at hh;exact hh.symm)
   simp[h,this,Env.root,Env.s]
 | b j=>rfl
theorem Qkv {e:Env} {i:Nat} {d:Desc} (r:Root):(e.setB i d).root r=if r=.b i/\i<e.bl.length then ⟨(e.root r).ver+1,d,(e.root r).id+1,(e.root r).hv+1⟩ else e.root r:=by
 cases r with
 | b j=>
  show (e.setB i d).b j=_
  simp only[Env.setB,Env.b,upd,ZY];by_cases h:i=j
  ·subst h;simp[Env.root,Env.b]
  ·have:¬Root.b j=.b i:=fun hh=>h (by simp at hh;exact hh.symm)
   simp[h,this,Env.root,Env.b]
 | s j=>rfl
theorem Qid {e:Env} {r:Root} {h:Bool} {d:Desc}:(e.turn r h d).sl.length=e.sl.length/\(e.turn r h d).bl.length=e.bl.length:=by
 cases r<;>cases h<;>simp[Env.turn,Env.setR,Env.setD,Env.setS,upd,updV,updD]
theorem Qh3 {e:Env} {i:Nat} {d:Desc}:(e.setS i d).sl.length=e.sl.length/\(e.setS i d).bl.length=e.bl.length:=by simp[Env.setS,upd]
theorem QhT {e:Env} {i:Nat} {d:Desc}:(e.setB i d).sl.length=e.sl.length/\(e.setB i d).bl.length=e.bl.length:=by simp[Env.setB,upd]
theorem Zi.setS (e:Env) (i:Nat) (d:Desc):Zi e (e.setS i d):=⟨Qh3.1,Qh3.2,fun r=>by
 rw[QkH];split
 ·simp_all
 ·exact⟨aMb _,fun _=>⟨.inl rfl,rfl,rfl⟩⟩⟩
theorem Zi.setB (e:Env) (i:Nat) (d:Desc):Zi e (e.setB i d):=⟨QhT.1,QhT.2,fun r=>by
 rw[Qkv];split
 ·simp_all
 ·exact⟨aMb _,fun _=>⟨.inl rfl,rfl,rfl⟩⟩⟩
theorem Mo.setS {s b:Env} (m:Mo s b) {i:Nat} (hi:s.root (.s i)=b.root (.s i)) (d:Desc):Syn s b (s.setS i d) (b.setS i d):=by
 refine⟨Qh3.1,Qh3.2,fun r=>?_,.setS b i d⟩
 rw[QkH,QkH,<-m.sl]
 grind
theorem Mo.setB {s b:Env} (m:Mo s b) {i:Nat} (hi:s.root (.b i)=b.root (.b i)) (d:Desc):Syn s b (s.setB i d) (b.setB i d):=by
 refine⟨QhT.1,QhT.2,fun r=>?_,.setB b i d⟩
 rw[Qkv,Qkv,<-m.bl]
 grind
theorem Qij {e:Env} {r:Root} {d:Desc}:(e.flag r d).sl.length=e.sl.length/\(e.flag r d).bl.length=e.bl.length:=by cases r<;>simp[Env.flag,reflag]
theorem Zi.flag {e:Env} {r:Root} {S:Sh} {F:Fl} {X:S.den} (h:(e.root r).d=.v S F X) (F':Fl):Zi e (e.flag r (.v S F' X)):=⟨Qij.1,Qij.2,fun q=>by
 rw[Zv h];split
 ·rename_i I;subst I;exact⟨aMb _,fun _=>⟨.inr ⟨S,F,F',X,h,rfl⟩,rfl,rfl⟩⟩
 ·exact⟨aMb _,fun _=>⟨.inl rfl,rfl,rfl⟩⟩⟩
theorem Mo.flag {s b:Env} (m:Mo s b) {r:Root} {S:Sh} {F:Fl} {X:S.den} (h:(s.root r).d=.v S F X) (F':Fl):Syn s b (s.flag r (.v S F' X)) (b.flag r (.v S F' X)):=by
 have he:=m.v h
 have hb:(b.root r).d=.v S F X:=he ▸ h
 refine⟨Qij.1,Qij.2,fun q=>?_,.flag hb F'⟩
 rw[Zv h,Zv hb]
 grind
theorem Zi.turn {e:Env} {r:Root} {S:Sh} {F:Fl} {X:S.den} (hd:(e.root r).d=.v S F X) (h:Bool) (d:Desc):Zi e (e.turn r h d):=⟨Qid.1,Qid.2,fun q=>by
 rw[Q2 hd];split
 ·rename_i I;subst I;exact⟨Nat.le_succ _,fun h=>by simp[turned] at h⟩
 ·exact⟨aMb _,fun _=>⟨.inl rfl,rfl,rfl⟩⟩⟩
theorem Mo.setR {s b:Env} (m:Mo s b) {r:Root} {S:Sh} {F:Fl} {X:S.den} (hd:(s.root r).d=.v S F X) (h:Bool) (d:Desc):Syn s b (s.turn r h d) (b.turn r h d):=by
 have he:=m.v hd
 have hb:(b.root r).d=.v S F X:=he ▸ hd
 refine⟨Qid.1,Qid.2,fun q=>?_,.turn hb h d⟩
 rw[Q2 hd,Q2 hb]
 grind
theorem Mo.dst {s b:Env} (m:Mo s b) {o:Option Tmp} (ho:∀i,o=some i->s.root (.s i)=b.root (.s i)) (d:Desc):Syn s b (s.dst o d) (b.dst o d):=by
 cases o with
 | none=>exact .refl s b
 | some i=>exact m.setS (ho i rfl) d
variable {s b:Env}
theorem Mo.opd (m:Mo s b) (x:Operand):b.opd x=s.opd x\/s.opd x=.tup []:=by
 cases x with
 | tmp t=>
  rcases m.cell (.s t) with h | h
  ·exact .inl (by show (b.root (.s t)).d=(s.root (.s t)).d;rw[h])
  ·exact .inr h
 | const v=>exact .inl rfl
 | func f=>exact .inl rfl
 | global g=>exact .inl rfl
theorem Mo.look (m:Mo s b) {r:Root} {ver:Nat} {p:List Step} {y:Dv} (h:s.look r ver p=some y):b.look r ver p=some y:=by
 unfold Env.look at h ⊢;rcases m.cell r with h1 | h1
 ·simp_all
 simp_all
theorem Mo.lookU (m:Mo s b) {r:Root} {p:List Step} {y:Dv} (h:s.lookU r p=some y):b.lookU r p=some y:=by
 unfold Env.lookU at h ⊢;rcases m.cell r with h1 | h1
 ·simp_all
 simp_all
theorem Qta {e:Env} {r:Root} {ver:Nat} {p:List Step} {y:Dv} (h:e.look r ver p=some y):∃S F X,(e.root r).d=.v S F X:=by
 unfold Env.look at h
 grind
theorem Mo.lookL (m:Mo s b) {r:Root} {ver:Nat} {p:List Step} {y:Dv} (h:s.lookL r ver p=some y):b.lookL r ver p=some y:=by
 unfold Env.lookL at h ⊢;simp only at h ⊢;rcases m.cell r with h1 | h1
 ·simp_all
 simp_all
theorem Mo.val (m:Mo s b) {d:Desc} {y:Dv} (h:s.val d=some y):b.val d=some y:=by
 cases d<;>first | exact h | exact m.look h
theorem Mo.rd (m:Mo s b) {d:Desc} {y:(s:Sh)×s.den} (h:s.rd d=some y):b.rd d=some y:=by
 unfold Env.rd at h ⊢;obtain⟨u,hu,h⟩:=aLa.1 h;rw[m.val hu];exact h
theorem Mo.rdInt (m:Mo s b) {d:Desc} {y:IntKind×Int} (h:s.rdInt d=some y):b.rdInt d=some y:=by
 unfold Env.rdInt at h ⊢;cases I:s.rd d with
 | none=>simp_all
 | some u=>rw[I] at h;rw[m.rd I];exact h
theorem Mo.rdBool (m:Mo s b) {d:Desc} {y:Bool} (h:s.rdBool d=some y):b.rdBool d=some y:=by
 unfold Env.rdBool at h ⊢;cases I:s.rd d with
 | none=>simp_all
 | some u=>rw[I] at h;rw[m.rd I];exact h
theorem Qtm {e:Env}:e.rd (.tup [])=none:=rfl
theorem Qgj {e:Env}:e.val (.tup [])=none:=rfl
theorem Mo.rdo (m:Mo s b) {x:Operand} {y:(s:Sh)×s.den} (h:s.rd (s.opd x)=some y):b.rd (b.opd x)=some y:=by
 rcases m.opd x with I | I
 ·rw[I];exact m.rd h
 ·rw[I] at h;cases h
theorem Mo.valo (m:Mo s b) {x:Operand} {y:Dv} (h:s.val (s.opd x)=some y):b.val (b.opd x)=some y:=by
 rcases m.opd x with I | I
 ·rw[I];exact m.val h
 ·rw[I] at h;cases h
theorem Mo.rdInto (m:Mo s b) {x:Operand} {y:IntKind×Int} (h:s.rdInt (s.opd x)=some y):b.rdInt (b.opd x)=some y:=by
 rcases m.opd x with I | I
 ·rw[I];exact m.rdInt h
 ·rw[I] at h;simp[Env.rdInt,Qtm] at h
theorem Mo.rdBoolo (m:Mo s b) {x:Operand} {y:Bool} (h:s.rdBool (s.opd x)=some y):b.rdBool (b.opd x)=some y:=by
 rcases m.opd x with I | I
 ·rw[I];exact m.rdBool h
 ·rw[I] at h;simp[Env.rdBool,Qtm] at h
theorem Qbw {e:Env} {x:Operand} {i:Nat} (h:x.slot=some i):(e.s i).d=e.opd x:=by
 cases x<;>simp[Operand.slot] at h;subst h;rfl
theorem Mo.take (m:Mo s b) {t:Option Nat} {want:Sh} {d:Desc} {s':Env} {y:Dv} (U:∀i,t=some i->(s.s i).d=d) (h:s.take t want d=some (s',y)):∃b',b.take t want d=some (b',y)/\Syn s b s' b':=by
 cases d with
 | v S F X=>
  simp only[Env.take] at h ⊢;cases I:F.isz with
  | true=>simp only[I,aLB,aLb,aLe] at h ⊢;obtain⟨rfl,rfl⟩:=h;exact⟨b,⟨rfl,rfl⟩,.refl s b⟩
  | false=>
   simp only[I,aLC] at h ⊢;cases t with
   | none=>cases h
   | some i=>
    simp only[aLb,aLe] at h ⊢;obtain⟨rfl,rfl⟩:=h;exact⟨_,⟨rfl,rfl⟩,m.setS (m.v (r:=.s i) (U i rfl)) _⟩
 | bor r ver p=>
  simp only[Env.take] at h ⊢;obtain⟨u,hu,h⟩:=aLa.1 h;rw[m.look hu];simp only[aLc];cases I:u.fl.isz with
  | true=>simp only[I,aLB,aLb,aLe] at h ⊢;obtain⟨rfl,rfl⟩:=h;exact⟨b,⟨rfl,rfl⟩,.refl s b⟩
  | false=>
   simp only[I,aLC] at h ⊢;cases J:u.fl.isx with
   | true=>simp[J] at h
   | false=>
    simp only[J,aLC] at h ⊢;split at h
    ·rename_i S F X hd
     obtain⟨F',hF,h⟩:=aLd.1 h;obtain⟨rfl,rfl⟩:=h;have hb:(b.root r).d=.v S F X:=m.v hd ▸ hd
     rw[hb];simp only[hF,aMn];exact⟨_,rfl,m.flag hd F'⟩
    ·cases h
 | nil=>
  simp only[Env.take] at h ⊢;split at h
  ·simp only[aLb,aLe] at h ⊢;obtain⟨rfl,rfl⟩:=h;exact⟨b,⟨rfl,rfl⟩,.refl s b⟩
  ·cases h
 | dead=>simp[Env.take] at h
 | und=>simp[Env.take] at h
 | loc r ver p=>simp[Env.take] at h
 | rp s x=>simp[Env.take] at h
 | rpp s x=>simp[Env.take] at h
 | clos j c=>simp[Env.take] at h
 | tup l=>simp[Env.take] at h
theorem Qjv {e:Env} {t:Option Nat} {want:Sh}:e.take t want (.tup [])=none:=rfl
theorem Mo.takeo (m:Mo s b) {x:Operand} {want:Sh} {s':Env} {y:Dv} (h:s.take x.slot want (s.opd x)=some (s',y)):∃b',b.take x.slot want (b.opd x)=some (b',y)/\Syn s b s' b':=by
 rcases m.opd x with I | I
 ·rw[I];exact m.take (fun i hi=>Qbw hi) h
 ·rw[I] at h;cases h
theorem Mo.freeze (m:Mo s b) {r:Root} {p:List Step} {s':Env} (h:s.freeze r p=some s'):∃b',b.freeze r p=some b'/\Syn s b s' b':=by
 unfold Env.freeze at h ⊢;split at h
 ·rename_i S F X hd
  have hb:(b.root r).d=.v S F X:=m.v hd ▸ hd
  obtain⟨y,I,h⟩:=aLa.1 h;rw[hb];simp[I];cases ho:okS y.sh y.fl with
  | false=>simp_all
  | true=>
   simp only[ho] at h ⊢;obtain⟨F',J,rfl⟩:=aLd.1 h;simp only[J];exact⟨_,rfl,m.flag hd F'⟩
 grind
theorem Mo.Q4 (m:Mo s b) {frz:Fz} {t:Option Nat} {d d':Desc} {s':Env} (ht:∀i,t=some i->(s.s i).d=d) (h:Q4 s frz t d=some (s',d')):∃b',Q4 b frz t d=some (b',d')/\Syn s b s' b':=by
 cases d with
 | v S F X=>
  simp only[Dx.Q4] at h ⊢;cases I:F.isz with
  | true=>simp only[I,aLB,aLb,aLe] at h ⊢;obtain⟨rfl,rfl⟩:=h;exact⟨b,⟨rfl,rfl⟩,.refl s b⟩
  | false=>
   simp only[I,aLC] at h ⊢;cases t with
   | none=>cases h
   | some i=>
    have hi:=ht i rfl
    have he:=m.v (r:=.s i) hi
    cases frz with
    | fz=>
     simp only at h ⊢;cases ho:okS S F with
     | false=>simp[ho] at h
     | true=>
      simp only[ho,aLB,aLb,aLe] at h ⊢;obtain⟨rfl,rfl⟩:=h;exact⟨_,⟨rfl,rfl⟩,m.flag (r:=.s i) hi .z⟩
    | no=>
     simp only[aLb,aLe] at h ⊢;obtain⟨rfl,rfl⟩:=h;exact⟨b,⟨rfl,by rw[show b.s i=s.s i from he.symm]⟩,.refl s b⟩
    | tk=>
     simp only[aLb,aLe] at h ⊢;obtain⟨rfl,rfl⟩:=h;exact⟨b,⟨rfl,by rw[show b.s i=s.s i from he.symm]⟩,.refl s b⟩
 | bor r ver p=>
  simp only[Dx.Q4] at h ⊢;obtain⟨u,hu,h⟩:=aLa.1 h;rw[m.look hu];simp only[aLc];cases I:u.fl.isz with
  | true=>simp only[I,aLB,aLb,aLe] at h ⊢;obtain⟨rfl,rfl⟩:=h;exact⟨b,⟨rfl,rfl⟩,.refl s b⟩
  | false=>
   simp only[I,aLC] at h ⊢;cases frz with
   | fz=>
    simp only at h ⊢;cases ho:okS u.sh u.fl with
    | false=>simp[ho] at h
    | true=>
     simp only[ho,aLB] at h ⊢;obtain⟨s1,h1,h⟩:=aLd.1 h;simp only[aLe] at h;obtain⟨rfl,rfl⟩:=h;obtain⟨b1,J,U⟩:=m.freeze h1;exact⟨b1,by rw[J];rfl,U⟩
   | no=>simp only[aLb,aLe] at h ⊢;obtain⟨rfl,rfl⟩:=h;exact⟨b,⟨rfl,rfl⟩,.refl s b⟩
   | tk=>simp only[aLb,aLe] at h ⊢;obtain⟨rfl,rfl⟩:=h;exact⟨b,⟨rfl,rfl⟩,.refl s b⟩
 | tup l=>simp[Dx.Q4,bare] at h
 | dead=>simp only[Dx.Q4,bare,aLB,aLb,aLe] at h ⊢;obtain⟨rfl,rfl⟩:=h;exact⟨b,⟨rfl,rfl⟩,.refl s b⟩
 | und=>simp only[Dx.Q4,bare,aLB,aLb,aLe] at h ⊢;obtain⟨rfl,rfl⟩:=h;exact⟨b,⟨rfl,rfl⟩,.refl s b⟩
 | nil=>simp only[Dx.Q4,bare,aLB,aLb,aLe] at h ⊢;obtain⟨rfl,rfl⟩:=h;exact⟨b,⟨rfl,rfl⟩,.refl s b⟩
 | loc r v p=>simp only[Dx.Q4,bare,aLB,aLb,aLe] at h ⊢;obtain⟨rfl,rfl⟩:=h;exact⟨b,⟨rfl,rfl⟩,.refl s b⟩
 | rp S x=>simp only[Dx.Q4,bare,aLB,aLb,aLe] at h ⊢;obtain⟨rfl,rfl⟩:=h;exact⟨b,⟨rfl,rfl⟩,.refl s b⟩
 | rpp S x=>simp only[Dx.Q4,bare,aLB,aLb,aLe] at h ⊢;obtain⟨rfl,rfl⟩:=h;exact⟨b,⟨rfl,rfl⟩,.refl s b⟩
 | clos j c=>simp only[Dx.Q4,bare,aLB,aLb,aLe] at h ⊢;obtain⟨rfl,rfl⟩:=h;exact⟨b,⟨rfl,rfl⟩,.refl s b⟩
theorem Mo.QjA (m:Mo s b) {ti:TI} {frz:Fz} {r:Root} {ver:Nat} {p:List Step} {d':Desc} {s':Env} (h:QjA ti s frz r ver p=some (s',d')):∃b',QjA ti b frz r ver p=some (b',d')/\Syn s b s' b':=by
 unfold Dx.QjA at h ⊢;rcases m.cell r with I | I
 ·rw[<-I]
  split at h
  ·rename_i S F X hd
   obtain⟨y,hy,h⟩:=aLa.1 h;rw[m.lookL hy];simp only[aLc];cases J:decide (y.sh=ti.sh)&&okS y.sh y.fl with
   | false=>simp[J] at h
   | true=>
    simp only[J,aLB] at h ⊢;rw[I];rw[I] at h;cases frz with
    | tk=>
     simp only at h ⊢;obtain⟨⟨s1,u⟩,h1,h2⟩:=aLa.1 h;simp only[aLb,aLe] at h2;obtain⟨rfl,rfl⟩:=h2;obtain⟨b1,U,hs1⟩:=m.take (t:=none) (fun i hi=>by cases hi) h1
     rw[U];exact⟨b1,rfl,hs1⟩
    | no=>exact m.Q4 (fun i hi=>by cases hi) h
    | fz=>exact m.Q4 (fun i hi=>by cases hi) h
  ·cases h
  ·cases J:Nat.beq (s.root r).id ver&&bare (s.root r).d&&!QY ti.sh with
   | false=>simp[J] at h
   | true=>
    simp only[J,aLB] at h ⊢;split at h
    ·simp only[aLb,aLe] at h ⊢;obtain⟨rfl,rfl⟩:=h;exact⟨b,⟨rfl,rfl⟩,.refl s b⟩
    ·cases h
 ·rw[I] at h
  simp[bare] at h
theorem Mo.valD (m:Mo s b) {ti:TI} {x:Operand} {d':Desc} {s':Env} (h:valD ti s x=some (s',d')):∃b',valD ti b x=some (b',d')/\Syn s b s' b':=by
 unfold Dx.valD at h ⊢;rcases m.opd x with I | I
 ·rw[I]
  split at h
  ·simp only[aLb,aLe] at h ⊢;obtain⟨rfl,rfl⟩:=h;exact⟨b,⟨rfl,rfl⟩,.refl s b⟩
  ·simp only[aLb,aLe] at h ⊢;obtain⟨rfl,rfl⟩:=h;exact⟨b,⟨rfl,rfl⟩,.refl s b⟩
  ·simp only[aLb,aLe] at h ⊢;obtain⟨rfl,rfl⟩:=h;exact⟨b,⟨rfl,rfl⟩,.refl s b⟩
  ·obtain⟨⟨s1,y⟩,h1,h⟩:=aLa.1 h
   obtain⟨b1,J,U⟩:=m.take (fun i hi=>Qbw hi) h1
   simp only[J,aLc];obtain⟨v,hv,h⟩:=aLa.1 h;simp only[hv,aLc] at h ⊢;cases ho:okS ti.sh y.fl with
   | false=>simp[ho] at h
   | true=>simp only[ho,aLB,aLb,aLe] at h ⊢;obtain⟨rfl,rfl⟩:=h;exact⟨b1,⟨rfl,rfl⟩,U⟩
 ·rw[I] at h;simp[Qjv] at h
theorem Mo.Qay (m:Mo s b) {i:Nat} (J:s.root (.s i)=b.root (.s i)) (hb:s.root (.b i)=b.root (.b i)) {d:Desc} {s':Env} (h:Qay s i d=some s'):∃b',Qay b i d=some b'/\Syn s b s' b':=by
 unfold Dx.Qay at h ⊢;rw[<-m.sl,<-m.bl];cases I:Nat.blt i s.sl.length&&Nat.blt i s.bl.length with
 | false=>simp[I] at h
 | true=>
  simp only[I,aLB,aLb] at h ⊢;subst h;have h1:=m.setB hb d
  have h2:(s.setB i d).root (.s i)=(b.setB i d).root (.s i):=h1.eq J
  have h3:(s.setB i d).b i=(b.setB i d).b i:=h1.eq hb
  exact⟨_,rfl,h1.trans (by rw[h3];exact (h1.mo m).setS h2 _)⟩
end Go.Dx
namespace Go.Dx
variable {s b:Env} {C:Ctx}
theorem Mo.Yk {parts:List (Nat×Operand)}:∀(fs:List (Nat×TypeId)) (i:Nat) {s b s':Env} {l:List Dv},Mo s b->Yk C s parts i fs=some (s',l)->∃b',Yk C b parts i fs=some (b',l)/\Syn s b s' b':=by
 intro fs;induction fs with
 | nil=>intro i s b s' l m h;simp only[Dx.Yk,aLb,aLe] at h ⊢;obtain⟨rfl,rfl⟩:=h;exact⟨b,⟨rfl,rfl⟩,.refl s b⟩
 | cons f fs ih=>
  intro i s b s' l m h;obtain⟨f1,t⟩:=f;simp only[Dx.Yk] at h ⊢;obtain⟨ti,U,h⟩:=aLa.1 h;obtain⟨⟨s1,y⟩,h1,h⟩:=aLa.1 h;obtain⟨x,hx,h⟩:=aLa.1 h;obtain⟨⟨s2,l2⟩,h2,h⟩:=aLd.1 h;simp only[aLe] at h;obtain⟨rfl,rfl⟩:=h;cases ha:assoc i parts with
  | some o=>
   rw[ha] at h1;obtain⟨b1,hb1,hs1⟩:=m.takeo h1;obtain⟨b2,I,J⟩:=ih (i+1) (hs1.mo m) h2;refine⟨b2,?_,hs1.trans J⟩;simp only[U,aLc,hb1,hx,I,aMn]
  | none=>
   rw[ha] at h1;simp only[aLb,aLe] at h1;obtain⟨rfl,rfl⟩:=h1;obtain⟨b2,I,J⟩:=ih (i+1) m h2;refine⟨b2,?_,J⟩;simp only[U,aLc,hx,I,aMn]
theorem Mo.Qey {S:Sh} {parts:List (Nat×Operand)}:∀(n i:Nat) {s b s':Env} {l:List (Fl×S.den)},Mo s b->Qey s S parts i n=some (s',l)->∃b',Qey b S parts i n=some (b',l)/\Syn s b s' b':=by
 intro n;induction n with
 | zero=>intro i s b s' l m h;simp only[Dx.Qey,aLb,aLe] at h ⊢;obtain⟨rfl,rfl⟩:=h;exact⟨b,⟨rfl,rfl⟩,.refl s b⟩
 | succ n ih=>
  intro i s b s' l m h;simp only[Dx.Qey] at h ⊢;obtain⟨⟨s1,y⟩,h1,h⟩:=aLa.1 h;obtain⟨x,hx,h⟩:=aLa.1 h;obtain⟨⟨s2,l2⟩,h2,h⟩:=aLd.1 h;simp only[aLe] at h;obtain⟨rfl,rfl⟩:=h;cases ha:assoc i parts with
  | some o=>
   rw[ha] at h1;obtain⟨b1,hb1,U⟩:=m.takeo h1;obtain⟨b2,I,J⟩:=ih (i+1) (U.mo m) h2;refine⟨b2,?_,U.trans J⟩;simp only[aLc,hb1,hx,I,aMn]
  | none=>
   rw[ha] at h1;simp only[aLb,aLe] at h1;obtain⟨rfl,rfl⟩:=h1;obtain⟨b2,I,J⟩:=ih (i+1) m h2;refine⟨b2,?_,J⟩;simp only[aLc,hx,I,aMn]
theorem Mo.out (m:Mo s b) {r:Root} {l l':Option Dv} {p:List Step} {s':Env} {y:Dv} (J:∀y,l=some y->l'=some y) (h:s.out r l p=some (s',y)):∃b',b.out r l' p=some (b',y)/\Syn s b s' b':=by
 unfold Env.out at h ⊢;cases I:QK p with
 | false=>simp[I] at h
 | true=>
  simp[I] at h ⊢;obtain⟨u,hu,h⟩:=aLa.1 h;rw[J _ hu];split at h
  ·rename_i S F X hd
   have hb:(b.root r).d=.v S F X:=m.v hd ▸ hd
   obtain⟨F',U,h⟩:=aLd.1 h;obtain⟨rfl,rfl⟩:=h;rw[hb];simp only[U];exact⟨_,rfl,m.flag hd F'⟩
  grind
theorem Mo.outM (m:Mo s b) {r:Root} {ver:Nat} {p:List Step} {s':Env} {y:Dv×Dv} (h:s.outM r ver p=some (s',y)):∃b',b.outM r ver p=some (b',y)/\Syn s b s' b':=by
 unfold Env.outM at h ⊢;obtain⟨⟨s1,u⟩,h1,h⟩:=aLa.1 h;obtain⟨b1,U,hs1⟩:=m.out (l':=(b.look r ver p).bind fun _=>b.lookU r (Qcw p)) (fun _ I=>by
  obtain⟨z,J,I⟩:=aLa.1 I;rw[m.look J];exact m.lookU I) h1
 cases ho:ownP u.sh u.fl (Qft p) with
 | false=>simp_all
 | true=>
  simp only[ho] at h ⊢;obtain⟨z,J,h⟩:=aLd.1 h
  simp_all
theorem Mo.argA (m:Mo s b) {ps:PS} {o:Operand} {s':Env} {x:Option ((s:Sh)×s.den)×List WB} (h:argA s ps o=some (s',x)):∃b',argA b ps o=some (b',x)/\Syn s b s' b':=by
 have tk:∀{sh:Sh} {f:Fl} {d:Desc},d=s.opd o->((s.take o.slot sh d).bind fun (q:Env×Dv)=>bif decide (q.2.sh=sh)&&Qq q.2.sh q.2.fl f then some (q.1,some (⟨q.2.sh,q.2.x⟩:(s:Sh)×s.den),([]:List WB)) else none)=some (s',x)->
   ∃b',((b.take o.slot sh d).bind fun (q:Env×Dv)=>bif decide (q.2.sh=sh)&&Qq q.2.sh q.2.fl f then some (q.1,some (⟨q.2.sh,q.2.x⟩:(s:Sh)×s.den),([]:List WB)) else none)=some (b',x)/\Syn s b s' b':=by
  intro sh f d hd h;obtain⟨⟨s1,y⟩,h1,h⟩:=aLa.1 h;obtain⟨b1,I,J⟩:=m.take (fun i hi=>(Qbw hi).trans hd.symm) h1
  simp only[I,aLc];cases U:decide (y.sh=sh)&&Qq y.sh y.fl f with
  | false=>simp[U] at h
  | true=>simp only[U,aLB,aLb,aLe] at h ⊢;obtain⟨rfl,rfl⟩:=h;exact⟨b1,⟨rfl,rfl⟩,J⟩
 unfold Dx.argA at h ⊢;rcases m.opd o with hx | hx
 ·rw[hx]
  generalize hd:s.opd o=d at h ⊢;have rf:∀{q:Option ((s:Sh)×s.den)×List WB},some (s,q)=some (s',x)->∃b',some (b,q)=some (b',x)/\Syn s b s' b':=fun h=>by
   simp only[aLb,aLe] at h;obtain⟨rfl,rfl⟩:=h;exact⟨b,rfl,.refl s b⟩
  cases ps with
  | v sh f=>
   have tk':f ≠ .z->((s.take o.slot sh d).bind fun (q:Env×Dv)=>bif decide (q.2.sh=sh)&&Qq q.2.sh q.2.fl f then some (q.1,some (⟨q.2.sh,q.2.x⟩:(s:Sh)×s.den),([]:List WB)) else none)=some (s',x)->
    ∃b',((b.take o.slot sh d).bind fun (q:Env×Dv)=>bif decide (q.2.sh=sh)&&Qq q.2.sh q.2.fl f then some (q.1,some (⟨q.2.sh,q.2.x⟩:(s:Sh)×s.den),([]:List WB)) else none)=some (b',x)/\Syn s b s' b':=fun _ h=>tk hd.symm h
   cases f with
   | z=>
    cases d with
    | v sh' f v=>
     simp only at h ⊢;by_cases hs:sh'=sh
     ·simp only[hs,aMc,aLB] at h ⊢
      cases hz:f.isz with
      | true=>simp only[hz,aLB] at h ⊢;exact rf h
      | false=>
       simp only[hz,aLC] at h ⊢;subst hs;cases ho:okS sh' f with
       | false=>simp[ho] at h
       | true=>
        simp only[ho,aLB] at h ⊢;obtain⟨t,ht,h⟩:=aLd.1 h;simp only[aLe] at h;obtain⟨rfl,rfl⟩:=h;simp only[ht,aMn];exact⟨_,rfl,m.flag (r:=.s t) ((Qbw ht).trans hd) .z⟩
     ·simp[hs] at h
    | tup l=>cases h
    | dead=>exact rf h
    | und=>exact rf h
    | nil=>exact rf h
    | bor r v p=>exact rf h
    | loc r v p=>exact rf h
    | rp a c=>exact rf h
    | rpp a c=>exact rf h
    | clos j c=>exact rf h
   | x=>exact tk' (by simp) h
   | o f=>exact tk' (by simp) h
   | p f f'=>exact tk' (by simp) h
   | h f i0=>exact tk' (by simp) h
  | rp sh q=>exact rf h
  | io sh f f'=>
   cases d with
   | loc r ver p=>
    simp only at h ⊢;obtain⟨⟨s1,y⟩,h1,h⟩:=aLa.1 h;obtain⟨b1,I,J⟩:=m.out (fun _ hy=>m.lookL hy) h1
    simp only[I,aLc];cases U:decide (y.sh=sh)&&Qq y.sh y.fl f with
    | false=>simp[U] at h
    | true=>simp only[U,aLB,aLb,aLe] at h ⊢;obtain⟨rfl,rfl⟩:=h;exact⟨b1,⟨rfl,rfl⟩,J⟩
   | _=>cases h
  | mu sh f f'=>
   cases d with
   | bor r ver p=>
    simp only at h ⊢;obtain⟨⟨s1,y⟩,h1,h⟩:=aLa.1 h;obtain⟨b1,I,J⟩:=m.outM h1;simp only[I,aLc];cases U:decide (y.2.sh=sh)&&Qq y.2.sh y.2.fl f with
    | false=>simp[U] at h
    | true=>simp only[U,aLB,aLb,aLe] at h ⊢;obtain⟨rfl,rfl⟩:=h;exact⟨b1,⟨rfl,rfl⟩,J⟩
   | v sh' fl v=>
    simp only at h ⊢;obtain⟨t,ht,h⟩:=aLa.1 h;simp only[ht,aLc];obtain⟨⟨s1,y⟩,h1,h⟩:=aLa.1 h;have he:s.s t=b.s t:=m.v (r:=.s t) ((Qbw ht).trans hd)
    obtain⟨b1,I,J⟩:=m.out (l':=b.look (.s t) (b.s t).hv []) (fun _ hy=>by rw[<-he];exact m.look hy) h1
    simp only[I,aLc];cases U:decide (y.sh=sh)&&Qq y.sh y.fl f with
    | false=>simp[U] at h
    | true=>simp only[U,aLB,aLb,aLe] at h ⊢;obtain⟨rfl,rfl⟩:=h;exact⟨b1,⟨rfl,rfl⟩,J⟩
   | _=>cases h
 ·rw[hx] at h
  cases ps with
  | v sh f=>cases f<;>simp[Qjv] at h
  | rp sh q=>simp only[aLb,aLe] at h ⊢;obtain⟨rfl,rfl⟩:=h;exact⟨b,⟨rfl,rfl⟩,.refl s b⟩
  | io sh f f'=>simp at h
  | mu sh f f'=>simp at h
end Go.Dx
namespace Go.Dx
variable {s b:Env} {C:Ctx}
theorem Mo.Qci:∀(ps:List PS) (os:List Operand) {s b s':Env} {x:List (Option ((s:Sh)×s.den))×List WB},Mo s b->Qci s ps os=some (s',x)->∃b',Qci b ps os=some (b',x)/\Syn s b s' b':=by
 intro ps;induction ps with
 | nil=>
  intro os s b s' x m h;cases os with
  | nil=>simp only[Dx.Qci,aLb,aLe] at h ⊢;obtain⟨rfl,rfl⟩:=h;exact⟨b,⟨rfl,rfl⟩,.refl s b⟩
  | cons o os=>simp[Dx.Qci] at h
 | cons p ps ih=>
  intro os s b s' x m h;cases os with
  | nil=>simp[Dx.Qci] at h
  | cons o os=>
   simp only[Dx.Qci] at h ⊢;obtain⟨⟨s1,u⟩,h1,h⟩:=aLa.1 h;obtain⟨⟨s2,v⟩,h2,h⟩:=aLd.1 h;simp only[aLe] at h;obtain⟨rfl,rfl⟩:=h;obtain⟨b1,J,I⟩:=m.argA h1;obtain⟨b2,U,hs2⟩:=ih os (I.mo m) h2;refine⟨b2,?_,I.trans hs2⟩;simp only[J,aLc,U,aMn]
theorem Mo.capV (m:Mo s b) {p:PS} {d:Desc} {x:(s:Sh)×s.den} (h:capV s p d=some x):capV b p d=some x:=by
 unfold Dx.capV at h ⊢;split at h
 ·exact h
 ·exact h
 ·exact h
 ·obtain⟨y,I,h⟩:=aLa.1 h
  rw[m.lookL I];exact h
 ·cases h
theorem Mo.Qeg (m:Mo s b):∀(ps:List PS) (I:List Desc) {l:List ((s:Sh)×s.den)},Qeg s ps I=some l->Qeg b ps I=some l:=by
 intro ps;induction ps with
 | nil=>intro I l h;cases I<;>exact h
 | cons p ps J=>
  intro I l h;cases I with
  | nil=>exact h
  | cons d I=>
   simp only[Dx.Qeg] at h ⊢;obtain⟨x,U,h⟩:=aLa.1 h;obtain⟨l',hl,h⟩:=aLd.1 h;rw[m.capV U,aLc,J I hl,aMn,h]
theorem Mo.JY (m:Mo s b) {j:FuncId} {caps:List Desc} {want:Sh} {f:want.den} (h:JY C s j caps want=some f):JY C b j caps want=some f:=by
 cases want with
 | fn1 a r rf=>
  simp only[Dx.JY] at h ⊢;obtain⟨K,J,h⟩:=aLa.1 h;rw[J,aLc];split at h
  ·rename_i U cs s' f' F
   try simp only at h ⊢
   cases I:noIo cs&&decide (U=a)&&decide (s'=r)&&Qq s' f' rf with
   | false=>simp[I] at h
   | true=>
    simp only[I,aLB] at h ⊢;obtain⟨l,hl,h⟩:=aLa.1 h;rw[m.Qeg _ _ hl,aLc];exact h
  ·cases h
 | fn2 a c r=>
  simp only[Dx.JY] at h ⊢;obtain⟨K,J,h⟩:=aLa.1 h;rw[J,aLc];split at h
  ·rename_i U b' cs s' f' F
   try simp only at h ⊢
   cases I:noIo cs&&decide (U=a)&&decide (b'=c)&&decide (s'=r)&&Qq s' f' .z with
   | false=>simp[I] at h
   | true=>
    simp only[I,aLB] at h ⊢;obtain⟨l,hl,h⟩:=aLa.1 h;rw[m.Qeg _ _ hl,aLc];exact h
  ·cases h
 | int k=>simp[Dx.JY] at h
 | bool=>simp[Dx.JY] at h
 | str=>simp[Dx.JY] at h
 | list s=>simp[Dx.JY] at h
 | prod x y=>simp[Dx.JY] at h
theorem Mo.argB (m:Mo s b) {p:PS} {o:Operand} {x:((s:Sh)×s.den)×List Root} (h:argB C s p o=some x):argB C b p o=some x:=by
 unfold Dx.argB at h ⊢;rcases m.opd o with I | I
 ·rw[I]
  generalize s.opd o=d at h ⊢;cases p with
  | v sh f=>
   cases f with
   | z=>
    cases d with
    | clos j caps=>
     simp only at h ⊢;obtain⟨f,U,h⟩:=aLd.1 h;rw[m.JY U];exact congrArg some h
    | bor r ver p=>
     simp only at h ⊢;obtain⟨y,J,h⟩:=aLa.1 h;rw[m.look J];exact h
    | _=>exact h
   | _=>cases h
  | rp sh q=>
   cases q with
   | true=>cases d<;>exact h
   | false=>
   cases d with
   | loc r ver p=>
    simp only at h ⊢;obtain⟨y,J,h⟩:=aLa.1 h;rw[m.lookL J];exact h
   | _=>exact h
  | io sh f f'=>exact h
  | mu sh f f'=>exact h
 ·rw[I] at h
  cases p with
  | v sh f=>cases f<;>cases h
  | rp sh q=>cases q<;>cases h
  | io sh f f'=>cases h
  | mu sh f f'=>cases h
theorem Mo.QgW (m:Mo s b):∀(ps:List PS) (os:List Operand) (xs:List (Option ((s:Sh)×s.den))) {y:List ((s:Sh)×s.den)×List Root},QgW C s ps os xs=some y->QgW C b ps os xs=some y:=by
 intro ps;induction ps with
 | nil=>intro os xs y h;cases os<;>cases xs<;>exact h
 | cons p ps J=>
  intro os xs y h;cases os with
  | nil=>cases xs<;>exact h
  | cons o os=>
   cases xs with
   | nil=>exact h
   | cons x xs=>
    simp only[Dx.QgW] at h ⊢;obtain⟨u,hu,h⟩:=aLa.1 h;obtain⟨v,hv,I⟩:=aLd.1 h;rw[J os xs hv];cases x with
    | some x=>simp only at hu ⊢;rw[hu];simp only[aLc,aMn];rw[I]
    | none=>simp only at hu ⊢;rw[m.argB hu];simp only[aLc,aMn];rw[I]
theorem Mo.JS:∀(l:List WB) (xs:List ((s:Sh)×s.den)) {s b s':Env},Mo s b->JS s l xs=some s'->∃b',JS b l xs=some b'/\Syn s b s' b':=by
 intro l;induction l with
 | nil=>
  intro xs s b s' m h;cases xs with
  | nil=>simp only[Dx.JS,aLb] at h ⊢;subst h;exact⟨b,rfl,.refl s b⟩
  | cons x xs=>simp[Dx.JS] at h
 | cons q l U=>
  intro xs s b s' m h;cases xs with
  | nil=>simp[Dx.JS] at h
  | cons x xs=>
   simp only[Dx.JS] at h ⊢;split at h
   ·rename_i S F X hd
    have hb:(b.root q.r).d=.v S F X:=m.v hd ▸ hd
    rw[hb];simp only;cases J:decide (x.1=q.s) with
    | false=>simp[J] at h
    | true=>
     simp only[J,aLB] at h ⊢;obtain⟨n,hn,h⟩:=aLa.1 h;obtain⟨y,hy,h⟩:=aLa.1 h;simp only[hn,aLc,hy];have h1:=m.setR hd q.io (.v S y.1 y.2)
     obtain⟨b',I,h2⟩:=U xs (h1.mo m) h;exact⟨b',I,h1.trans h2⟩
   ·cases h
theorem Mo.results (m:Mo s b) {dst:Option Tmp} (hd:∀i,dst=some i->s.root (.s i)=b.root (.s i)) {outs:List (Sh×Fl)} {xs:List ((s:Sh)×s.den)} {U:List WB} {s':Env} (h:results s dst outs xs U=some s') :
  ∃b',results b dst outs xs U=some b'/\Syn s b s' b':=by
 unfold Dx.results at h ⊢;obtain⟨s1,h1,rfl⟩:=aLd.1 h;obtain⟨b1,J,I⟩:=m.JS _ _ h1;exact⟨_,by rw[J];rfl,I.trans ((I.mo m).dst (fun i hi=>I.eq (hd i hi)) _)⟩
inductive Z0 (s b:Env):Eff->Eff->Prop
 | done {s' b':Env}:Syn s b s' b'->Z0 s b (.done s') (.done b')
 | grd {c:Bool} {s' b':Env}:Syn s b s' b'->Z0 s b (.grd c s') (.grd c b')
 | call {β:Type} {m:Option β} {k k':β->Option Env}:(∀y s',k y=some s'->∃b',k' y=some b'/\Syn s b s' b')->Z0 s b (.call β m k) (.call β m k')
theorem Mo.Qim (m:Mo s b) {dst:Option Tmp} (hd:∀i,dst=some i->s.root (.s i)=b.root (.s i)) {j:FuncId} {os:List Operand} {f:Eff} (h:Qim C s dst j os=some f):∃f',Qim C b dst j os=some f'/\Z0 s b f f':=by
 unfold Dx.Qim at h ⊢;obtain⟨K,hK,h⟩:=aLa.1 h;obtain⟨⟨s1,u⟩,h1,h⟩:=aLa.1 h;obtain⟨q,hq,h⟩:=aLa.1 h;obtain⟨t,ht,h⟩:=aLa.1 h;obtain⟨b1,J,I⟩:=m.Qci _ _ h1;simp only[hK,aLc,J];rw[(I.mo m).QgW _ _ _ hq,aLc,ht,aLc];simp only at h ⊢;cases U:(q.2.isEmpty || (K.outs.all (fun o=>QO o.1 o.2)&&u.2.all (fun b=>QO b.s b.f)))&&QaR q.2 u.2&&Nat.ble (K.outs.length+K.ins.length) PK<;>simp only[U,aLB,aLC] at h ⊢
 all_goals first
  | cases h;done
  | (simp only[aLb] at h;subst h;exact⟨_,rfl,.call fun y s' hy=>by
    obtain⟨b',hb',hs'⟩:=(I.mo m).results (fun i hi=>I.eq (hd i hi)) hy
    exact⟨b',hb',I.trans hs'⟩⟩)
theorem Mo.rdZ (m:Mo s b):∀(I:List Sh) (os:List Operand) {l:List ((s:Sh)×s.den)},rdZ s I os=some l->rdZ b I os=some l
 | [],[],l,h=>h
 | [],_::_,l,h=>by simp[Dx.rdZ] at h
 | _::_,[],l,h=>by simp[Dx.rdZ] at h
 | sh::I,o::os,l,h=>by
  unfold Dx.rdZ at h ⊢;rcases m.opd o with J | J
  ·rw[J]
   generalize s.opd o=d at h ⊢;cases d with
   | v s' f x=>
    simp only at h ⊢;cases U:decide (s'=sh)&&f.isz with
    | false=>rw[U] at h;cases h
    | true=>
     rw[U,aLB] at h;obtain⟨l',hl,rfl⟩:=aLd.1 h;rw[m.rdZ I os hl];rfl
   | _=>cases h
  ·rw[J] at h;cases h
theorem Mo.newE (m:Mo s b) {dst:Option Tmp} (hd:∀i,dst=some i->s.root (.s i)=b.root (.s i)/\s.root (.b i)=b.root (.b i)) {N:NewP} {os:List Operand} {f:Eff} (h:newE s dst N os=some f):∃f',newE b dst N os=some f'/\Z0 s b f f':=by
 unfold Dx.newE at h ⊢;obtain⟨i,hi,h⟩:=aLa.1 h;obtain⟨l,J,h⟩:=aLa.1 h;obtain⟨t,U,h⟩:=aLa.1 h;rw[hi,aLc,m.rdZ _ _ J,aLc,U,aLc];rw[m.sl,m.bl] at h;cases I:Nat.blt i b.sl.length&&Nat.blt i b.bl.length with
 | false=>rw[I] at h;cases h
 | true=>
  rw[I,aLB] at h;simp only[aLB];simp only[aLb] at h;subst h;exact⟨_,rfl,.call fun y s' hy=>m.Qay (hd i hi).1 (hd i hi).2 hy⟩
end Go.Dx
namespace Go.Dx
variable {s b:Env} {C:Ctx}
theorem Mo.QfS (m:Mo s b) {dst:Option Tmp} (hd:∀i,dst=some i->s.root (.s i)=b.root (.s i)) {d:Desc} {os:List Operand} {f:Eff} (h:QfS s dst d os=some f):∃f',QfS b dst d os=some f'/\Z0 s b f f':=by
 unfold Dx.QfS at h ⊢;split at h
 ·rename_i a r rf ff g x
  try simp only at h ⊢
  cases J:ff.isx with
  | true=>simp[J] at h
  | false=>
   simp only[J,aLC] at h ⊢;obtain⟨y,I,h⟩:=aLa.1 h;obtain⟨z,hz,h⟩:=aLa.1 h;rw[m.rdo I,aLc,hz,aLc];cases U:QO r rf with
   | false=>simp[U] at h
   | true=>
    simp only[U,aLB,aLb] at h ⊢;subst h;exact⟨_,rfl,.call fun y s' I=>by simp only[aLb] at I ⊢;subst I;exact⟨_,rfl,m.dst hd _⟩⟩
 ·rename_i a c r ff g x x'
  try simp only at h ⊢
  cases J:ff.isx with
  | true=>simp[J] at h
  | false=>
   simp only[J,aLC] at h ⊢;obtain⟨y,I,h⟩:=aLa.1 h;obtain⟨z,hz,h⟩:=aLa.1 h;obtain⟨y',hy',h⟩:=aLa.1 h;obtain⟨z',hz',h⟩:=aLa.1 h;rw[m.rdo I,aLc,hz,aLc,m.rdo hy',aLc,hz',aLc];cases U:QO r .z with
   | false=>simp[U] at h
   | true=>
    simp only[U,aLB,aLb] at h ⊢;subst h;exact⟨_,rfl,.call fun y s' I=>by simp only[aLb] at I ⊢;subst I;exact⟨_,rfl,m.dst hd _⟩⟩
 ·cases h
theorem Mo.binE (m:Mo s b) {dst:Option Tmp} (hd:∀i,dst=some i->s.root (.s i)=b.root (.s i)) {t:TypeId} {op:BinOp} {x y:Operand} {f:Eff} (h:binE C t s dst op (s.opd x) (s.opd y)=some f):∃f',binE C t b dst op (b.opd x) (b.opd y)=some f'/\Z0 s b f f':=by
 unfold Dx.binE at h ⊢;have D:=fun d=>m.dst hd d
 cases I:s.rd (s.opd x) with
 | none=>simp[I] at h
 | some u=>
  cases U:s.rd (s.opd y) with
  | none=>simp[I,U] at h
  | some v=>
   rw[m.rdo I,m.rdo U];rw[I,U] at h;have J:∀d,some (Eff.done (s.dst dst d))=some f->∃f',some (Eff.done (b.dst dst d))=some f'/\Z0 s b f f':=fun d h=>by simp only[aLb] at h;subst h;exact⟨_,rfl,.done (D d)⟩
   have gd:∀c d,some (Eff.grd c (s.dst dst d))=some f->∃f',some (Eff.grd c (b.dst dst d))=some f'/\Z0 s b f f':=fun c d h=>by simp only[aLb] at h;subst h;exact⟨_,rfl,.grd (D d)⟩
   have bd:∀(q:Option Bool),(q.bind fun c=>some (Eff.done (s.dst dst (.v .bool .z c))))=some f->∃f',(q.bind fun c=>some (Eff.done (b.dst dst (.v .bool .z c))))=some f'/\Z0 s b f f':=fun q h=>by
    obtain⟨c,rfl,h⟩:=aLa.1 h;exact J _ h
   have gen:∀(S:Sh) (a:S.den) (S':Sh) (a':S'.den),((asS ⟨S',a'⟩ S).bind fun b'=>(C.ty t).bind fun ti=>bif S.flat&&decide (ti.sh=S)&&Nat.blt S.rk 1000 then
     (match op with
     | .eql=>some (Eff.done (s.dst dst (.v .bool .z (S.beq a b')))) | .neq=>some (Eff.done (s.dst dst (.v .bool .z (!(S.beq a b'))))) | _=>none) else none)=some f->
     ∃f',((asS ⟨S',a'⟩ S).bind fun b'=>(C.ty t).bind fun ti=>bif S.flat&&decide (ti.sh=S)&&Nat.blt S.rk 1000 then
     (match op with
     | .eql=>some (Eff.done (b.dst dst (.v .bool .z (S.beq a b')))) | .neq=>some (Eff.done (b.dst dst (.v .bool .z (!(S.beq a b'))))) | _=>none) else none)=some f'/\Z0 s b f f':=by
    intro S a S' a' h;obtain⟨b0,hb0,h⟩:=aLa.1 h;obtain⟨ti,hti,h⟩:=aLa.1 h;rw[hb0,aLc,hti,aLc];cases hc:S.flat&&decide (ti.sh=S)&&Nat.blt S.rk 1000 with
    | false=>simp[hc] at h
    | true=>
     simp only[hc,aLB] at h ⊢;cases op<;>first | exact J _ h | cases h
   obtain⟨su,au⟩:=u;obtain⟨sv,av⟩:=v;cases su with
   | int k=>
    cases sv with
    | int k'=>
     simp only at h ⊢;by_cases hk:k=k'
     ·rw[if_pos hk] at h ⊢
      cases op<;>first | exact J _ h | exact gd _ _ h | exact bd _ h
     ·rw[if_neg hk] at h;cases h
    | _=>exact gen _ _ _ _ h
   | str=>
    cases sv with
    | str=>
     simp only at h ⊢;cases op<;>first | exact J _ h | exact gd _ _ h | cases h
    | _=>exact gen _ _ _ _ h
   | _=>cases sv<;>exact gen _ _ _ _ h
theorem Mo.Qjb (m:Mo s b) {c:Bool} {x y:Operand} {d:Desc} (h:Qjb s c (s.opd x) (s.opd y)=some d):Qjb b c (b.opd x) (b.opd y)=some d:=by
 unfold Dx.Qjb at h ⊢;rcases m.opd x with J | J
 ·rcases m.opd y with U | U
  ·rw[J,U]
   cases I:(s.opd x).data&&(s.opd y).data with
   | false=>rw[I] at h;exact h
   | true=>
    rw[I] at h;simp only[aLB] at h ⊢;cases h1:s.rd (s.opd x) with
    | none=>rw[h1] at h;cases h
    | some u=>
     cases h2:s.rd (s.opd y) with
     | none=>rw[h1,h2] at h;cases h
     | some v=>rw[h1,h2] at h;rw[m.rd h1,m.rd h2];exact h
  ·rw[U] at h;simp[Desc.data,bare] at h
 ·rw[J] at h;simp[Desc.data,bare] at h
end Go.Dx
namespace Go.Dx
variable {s b:Env} {C:Ctx}
theorem Mo.bound (m:Mo s b) {d:Int} {o:Option Operand} {l:Int} (h:bound s d o=some l):bound b d o=some l:=by
 cases o with
 | none=>exact h
 | some x=>
  simp only[Dx.bound] at h ⊢;obtain⟨y,I,h⟩:=aLd.1 h;rw[m.rdInto I,aMn,h]
theorem Mo.placeSh (m:Mo s b) {r:Root} {ver:Nat} {p:List Step} {S:Sh} (h:s.placeSh r ver p=some S):b.placeSh r ver p=some S:=by
 unfold Env.placeSh at h ⊢;rcases m.cell r with I | I
 ·simp_all
 simp_all
theorem Qhg (m:Mo s b) {x:Operand} {t:Nat} (I:x.slot=some t) (h:s.opd x ≠ .tup []):s.s t=b.s t:=m.of_v (r:=.s t) (by rw[show (s.root (.s t)).d=s.opd x from Qbw I];exact h)
theorem Mo.Qgb (m:Mo s b) {dst:Option Tmp} (hds:∀i,dst=some i->s.root (.s i)=b.root (.s i)) {st xt:TypeId} {so xo:Operand} {f:Eff} (h:Qgb C s dst st xt so xo=some f):∃f',Qgb C b dst st xt so xo=some f'/\Z0 s b f f':=by
 unfold Dx.Qgb at h ⊢;obtain⟨ti,hti,h⟩:=aLa.1 h;rw[hti,aLc];split at h
 ·rename_i te S htd hsh
  (try simp only[htd,hsh] at h);(try simp only[htd,hsh])
  obtain⟨tj,htj,h⟩:=aLa.1 h;rw[htj,aLc];cases hc:Nat.beq xt st&&tj.td.zok with
  | false=>rw[hc] at h;cases h
  | true=>
   simp only[hc,aLB] at h ⊢;obtain⟨⟨s1,y⟩,h1,h⟩:=aLa.1 h;obtain⟨xs,hxs,h⟩:=aLa.1 h;obtain⟨J,hb1,hs1⟩:=m.takeo h1;rw[hb1,aLc]
   try simp only at h hxs ⊢
   rw[hxs,aLc];generalize hyf:y.fl=yf at h ⊢;cases yf with
   | o f1=>
    try simp only at h ⊢
    obtain⟨⟨s2,q⟩,h2,h⟩:=aLa.1 h;have fin:∀{I:Env},Syn s1 J s2 I->∃f',(bif Qq S f1 (f1.meet q.1)&&Qq S q.1 (f1.meet q.1)&&okS S (f1.meet q.1) then
       some (Eff.grd (decide (List.length xs+List.length q.2<=LIM)) (I.dst dst (.v (.list S) (.o (f1.meet q.1)) (List.append xs q.2)))) else none)=some f'/\Z0 s b f f':=by
     intro I U;cases hcc:Qq S f1 (f1.meet q.1)&&Qq S q.1 (f1.meet q.1)&&okS S (f1.meet q.1) with
     | false=>simp only[hcc,aLC] at h;cases h
     | true=>
      simp only[hcc,aLB,aLb] at h ⊢;subst h;exact⟨_,rfl,.grd ((hs1.trans U).trans (((hs1.trans U).mo m).dst (fun i hi=>(hs1.trans U).eq (hds i hi)) _))⟩
    have m1:=hs1.mo m
    rcases m1.opd xo with hx | hx
    ·rw[hx]
     generalize hdd:s1.opd xo=d at h2 ⊢;have vv:((s1.val d).bind fun u=>(asS ⟨u.sh,u.x⟩ (.list S)).bind fun ys=>match u.fl with
        | .z=>some (s1,Fl.z,ys)
        | .o .z=>some (s1,.z,ys)
        | .o _=>(s1.take xo.slot (.list S) d).bind fun (q:Env×Dv)=>(asS ⟨q.2.sh,q.2.x⟩ (.list S)).bind fun zs=>match q.2.fl with
          | .o g=>some (q.1,g,zs)
          | _=>none
        | _=>none)=some (s2,q)->∃I,((J.val d).bind fun u=>(asS ⟨u.sh,u.x⟩ (.list S)).bind fun ys=>match u.fl with
        | .z=>some (J,Fl.z,ys)
        | .o .z=>some (J,.z,ys)
        | .o _=>(J.take xo.slot (.list S) d).bind fun (q:Env×Dv)=>(asS ⟨q.2.sh,q.2.x⟩ (.list S)).bind fun zs=>match q.2.fl with
          | .o g=>some (q.1,g,zs)
          | _=>none
        | _=>none)=some (I,q)/\Syn s1 J s2 I:=by
      intro h2;obtain⟨u,hu,h2⟩:=aLa.1 h2;obtain⟨ys,hys,h2⟩:=aLa.1 h2;rw[m1.val hu,aLc,hys,aLc];have same:∀{z:Fl×List S.den},some (s1,z)=some (s2,q)->∃I,some (J,z)=some (I,q)/\Syn s1 J s2 I:=fun h=>by
       simp only[aLb,aLe] at h;obtain⟨rfl,rfl⟩:=h;exact⟨J,rfl,.refl s1 J⟩
      have tk:((s1.take xo.slot (.list S) d).bind fun (q:Env×Dv)=>(asS ⟨q.2.sh,q.2.x⟩ (.list S)).bind fun zs=>match q.2.fl with
          | .o g=>some (q.1,g,zs)
          | _=>none)=some (s2,q)->∃I,((J.take xo.slot (.list S) d).bind fun (q:Env×Dv)=>(asS ⟨q.2.sh,q.2.x⟩ (.list S)).bind fun zs=>match q.2.fl with
          | .o g=>some (q.1,g,zs)
          | _=>none)=some (I,q)/\Syn s1 J s2 I:=by
       intro h2;obtain⟨⟨s3,v⟩,h3,h2⟩:=aLa.1 h2;obtain⟨zs,hzs,h2⟩:=aLa.1 h2;obtain⟨b3,hb3,hs3⟩:=m1.take (fun i hi=>(Qbw hi).trans hdd) h3
       rw[hb3,aLc]
       try simp only at h2 hzs ⊢
       rw[hzs,aLc];generalize v.fl=vf at h2 ⊢;cases vf with
       | o g=>
        try simp only at h2 ⊢
        simp only[aLb,aLe] at h2;obtain⟨rfl,rfl⟩:=h2;exact⟨b3,rfl,hs3⟩
       | _=>cases h2
      generalize u.fl=uf at h2 ⊢;cases uf with
      | z=>exact same h2
      | x=>cases h2
      | p a c=>cases h2
      | h f0 i0=>cases h2
      | o g=>
       cases g with
       | z=>exact same h2
       | _=>exact tk h2
     have fin2:∀{X:Option (Env×Fl×List S.den)},(∃I,X=some (I,q)/\Syn s1 J s2 I)->∃f',(X.bind fun (q:Env×Fl×List S.den)=>bif Qq S f1 (f1.meet q.2.1)&&Qq S q.2.1 (f1.meet q.2.1)&&okS S (f1.meet q.2.1) then
       some (Eff.grd (decide (List.length xs+List.length q.2.2<=LIM)) (q.1.dst dst (.v (.list S) (.o (f1.meet q.2.1)) (List.append xs q.2.2)))) else none)=some f'/\Z0 s b f f':=by
      rintro X ⟨I,rfl,U⟩;exact fin U
     refine fin2 ?_;cases d with
     | nil=>
      simp only[aLb,aLe] at h2 ⊢;obtain⟨rfl,rfl⟩:=h2;exact⟨J,⟨rfl,rfl⟩,.refl s1 J⟩
     | _=>exact vv h2
    ·rw[hx] at h2;simp[Qgj] at h2
   | _=>cases h
 ·cases h
theorem Mo.Qhk (m:Mo s b) {dst:Option Tmp} (hds:∀i,dst=some i->s.root (.s i)=b.root (.s i)) {st:TypeId} {x:Operand} {f:Eff} (h:Qhk C s dst st x=some f):∃f',Qhk C b dst st x=some f'/\Z0 s b f f':=by
 unfold Dx.Qhk at h ⊢;obtain⟨ti,hti,h⟩:=aLa.1 h;rw[hti,aLc];rcases m.opd x with hx | hx
 ·rw[hx]
  split at h
  ·rename_i te S t ver l hh htd hsh I
   (try simp only[htd,hsh,I])
   obtain⟨tj,htj,h⟩:=aLa.1 h;rw[htj,aLc];rcases m.cell (.s t) with hr | hr
   ·have J:b.s t=s.s t:=hr.symm
    rw[J];cases U:tj.td.zok&&Nat.beq (s.s t).ver ver with
    | false=>rw[U] at h;cases h
    | true=>
     simp only[U,aLB] at h ⊢;split at h
     ·rename_i S2 f2 X hdd
      (try simp only[hdd])
      obtain⟨Y,hY,h⟩:=aLa.1 h;rw[hY,aLc];cases hcc:Qq S (Fl.full S) f2&&okS S f2 with
      | false=>rw[hcc] at h;cases h
      | true=>
       simp only[hcc,aLB,aLb] at h ⊢;subst h;have h4:=m.setR (r:=.s t) hdd false (.v (.list S) (.o f2) (clr l hh Y))
       exact⟨_,rfl,.done (h4.trans ((h4.mo m).dst (fun i hi=>h4.eq (hds i hi)) _))⟩
     ·cases h
   ·have J:(s.s t).d=.tup []:=by
     have:(s.root (.s t)).d=.tup []:=by rw[hr]
     exact this
    cases U:tj.td.zok&&Nat.beq (s.s t).ver ver with
    | false=>rw[U] at h;cases h
    | true=>
     simp only[U,aLB,J] at h;cases h
  ·cases h
 ·rw[hx] at h
  split at h
  ·rename_i I;cases I
  ·cases h
theorem Mo.Qn (m:Mo s b) {frz:Fz} {o:Oper} (hd:∀i,o.dst=some i->s.root (.s i)=b.root (.s i)/\s.root (.b i)=b.root (.b i)) {f:Eff} (h:Qn C frz s o=some f):∃f',Qn C frz b o=some f'/\Z0 s b f f':=by
 have hds:∀i,o.dst=some i->s.root (.s i)=b.root (.s i):=fun i hi=>(hd i hi).1
 have D:=fun d=>m.dst hds d
 have dn:∀d,some (Eff.done (s.dst o.dst d))=some f->∃f',some (Eff.done (b.dst o.dst d))=some f'/\Z0 s b f f':=fun d h=>by simp only[aLb] at h;subst h;exact⟨_,rfl,.done (D d)⟩
 have gd:∀c d,some (Eff.grd c (s.dst o.dst d))=some f->∃f',some (Eff.grd c (b.dst o.dst d))=some f'/\Z0 s b f f':=fun c d h=>by simp only[aLb] at h;subst h;exact⟨_,rfl,.grd (D d)⟩
 have dn1:∀{s1 b1:Env} d,Syn s b s1 b1->some (Eff.done (s1.dst o.dst d))=some f->∃f',some (Eff.done (b1.dst o.dst d))=some f'/\Z0 s b f f':=fun d hs h=>by
  simp only[aLb] at h;subst h;exact⟨_,rfl,.done (hs.trans ((hs.mo m).dst (fun i hi=>hs.eq (hds i hi)) d))⟩
 have gd1:∀{s1 b1:Env} c d,Syn s b s1 b1->some (Eff.grd c (s1.dst o.dst d))=some f->∃f',some (Eff.grd c (b1.dst o.dst d))=some f'/\Z0 s b f f':=fun c d hs h=>by
  simp only[aLb] at h;subst h;exact⟨_,rfl,.grd (hs.trans ((hs.mo m).dst (fun i hi=>hs.eq (hds i hi)) d))⟩
 have root_of:∀{r:Root} {ver:Nat} {p:List Step} {y:Dv},s.val (.bor r ver p)=some y->s.root r=b.root r:=fun {r ver p y} hy=>by
  obtain⟨S,F,X,hd⟩:=Qta (show s.look r ver p=some y from hy)
  exact m.v hd
 have alF:∀(x:Operand) (st:List Step) (d:Desc),s.opd x ≠ .tup []->(match s.opd x with | .bor r ver p=>some (Desc.bor r ver (p++st)) | _=>x.slot.map fun t=>.bor (.s t) (s.s t).hv st)=some d->
   (match b.opd x with | .bor r ver p=>some (Desc.bor r ver (p++st)) | _=>x.slot.map fun t=>.bor (.s t) (b.s t).hv st)=some d:=by
  intro x st d hne h;rw[(m.opd x).resolve_right hne];have fin:(x.slot.map fun t=>Desc.bor (.s t) (s.s t).hv st)=some d->(x.slot.map fun t=>Desc.bor (.s t) (b.s t).hv st)=some d:=fun h=>by
   obtain⟨t,ht,h⟩:=aLd.1 h;rw[ht,aMn,<-Qhg m ht hne,h]
  generalize s.opd x=dd at h ⊢;cases dd<;>first | exact h | exact fin h
 have alS:∀(x:Operand) (st:List Step) (d:Desc) {y:Dv},s.val (s.opd x)=some y->(match s.opd x with | .bor r ver p=>some (Desc.bor r (s.root r).ver (p++st)) | _=>x.slot.map fun t=>.bor (.s t) (s.s t).ver st)=some d->
   (match b.opd x with | .bor r ver p=>some (Desc.bor r (b.root r).ver (p++st)) | _=>x.slot.map fun t=>.bor (.s t) (b.s t).ver st)=some d:=by
  intro x st d y hy h;have hne:s.opd x ≠ .tup []:=fun hh=>by rw[hh,Qgj] at hy;cases hy
  rw[(m.opd x).resolve_right hne];have fin:(x.slot.map fun t=>Desc.bor (.s t) (s.s t).ver st)=some d->(x.slot.map fun t=>Desc.bor (.s t) (b.s t).ver st)=some d:=fun h=>by
   obtain⟨t,ht,h⟩:=aLd.1 h;rw[ht,aMn,<-Qhg m ht hne,h]
  generalize s.opd x=dd at h hy ⊢;cases dd with
  | bor r ver p=>simp only at h ⊢;rw[<-root_of hy];exact h
  | _=>exact fin h
 have alL:∀(x:Operand) (st:List Step) (d:Desc) {y:Dv},s.val (s.opd x)=some y->(match s.opd x with | .bor r ver p=>some (Desc.loc r (s.root r).ver (p++st)) | _=>x.slot.map fun t=>.loc (.s t) (s.s t).ver st)=some d->
   (match b.opd x with | .bor r ver p=>some (Desc.loc r (b.root r).ver (p++st)) | _=>x.slot.map fun t=>.loc (.s t) (b.s t).ver st)=some d:=by
  intro x st d y hy h;have hne:s.opd x ≠ .tup []:=fun hh=>by rw[hh,Qgj] at hy;cases hy
  rw[(m.opd x).resolve_right hne];have fin:(x.slot.map fun t=>Desc.loc (.s t) (s.s t).ver st)=some d->(x.slot.map fun t=>Desc.loc (.s t) (b.s t).ver st)=some d:=fun h=>by
   obtain⟨t,ht,h⟩:=aLd.1 h;rw[ht,aMn,<-Qhg m ht hne,h]
  generalize s.opd x=dd at h hy ⊢;cases dd with
  | bor r ver p=>simp only at h ⊢;rw[<-root_of hy];exact h
  | _=>exact fin h
 unfold Dx.Qn at h ⊢
 try simp only at h ⊢
 cases hop:o.op<;>rw[hop] at h<;>(try simp only at h ⊢)
 case move x=>
  have htp:∀l,(s.opd x).tupOf=some l->s.opd x ≠ .tup []:=fun l hl hh=>by rw[hh] at hl;cases hl
  split at h
  ·rename_i l t hl hsl
   have U:b.opd x=s.opd x:=(m.opd x).resolve_right (htp l hl)
   rw[U,hl];rw[hsl];(try simp only)
   have J:=m.setS (i:=t) (Qhg m hsl (htp l hl)) .dead
   exact dn1 _ J h
  rename_i hno;have hno':∀l t,(b.opd x).tupOf=some l->x.slot=some t->False:=fun l t hl ht=>by
   rcases m.opd x with U | U
   ·rw[U] at hl;exact hno l t hl ht
   ·rw[U] at h;simp[Dx.Q4,bare] at h
  obtain⟨⟨s1,d⟩,h1,h⟩:=aLa.1 h;split
  ·rename_i l t hl ht;exact (hno' l t hl ht).elim
  rcases m.opd x with U | U
  ·obtain⟨b1,hb1,J⟩:=m.Q4 (fun i hi=>Qbw hi) h1
   rw[U,hb1,aLc];exact dn1 d J h
  ·rw[U] at h1;simp[Dx.Q4,bare] at h1
 case assign x=>
  rcases m.opd x with U | U
  ·rw[U]
   generalize hdd:s.opd x=d at h ⊢;cases d with
   | v S F X=>
    try simp only at h ⊢
    obtain⟨⟨s1,y⟩,h1,h⟩:=aLa.1 h;obtain⟨b1,hb1,J⟩:=m.take (fun i hi=>(Qbw hi).trans hdd) h1
    rw[hb1,aLc];exact dn1 _ J h
   | bor r ver p=>
    try simp only at h ⊢
    obtain⟨⟨s1,y⟩,h1,h⟩:=aLa.1 h;obtain⟨b1,hb1,J⟩:=m.take (fun i hi=>(Qbw hi).trans hdd) h1
    rw[hb1,aLc];exact dn1 _ J h
   | nil=>
    try simp only at h ⊢
    obtain⟨ti,I,h⟩:=aLa.1 h;obtain⟨⟨s1,y⟩,h1,h⟩:=aLa.1 h;obtain⟨b1,hb1,J⟩:=m.take (fun i hi=>by cases hi) h1
    rw[I,aLc,hb1,aLc];exact dn1 _ J h
   | tup l=>simp[bare] at h
   | dead=>simp only[bare,aLB] at h ⊢;exact dn _ h
   | und=>simp only[bare,aLB] at h ⊢;exact dn _ h
   | loc r v p=>simp only[bare,aLB] at h ⊢;exact dn _ h
   | rp S x=>simp only[bare,aLB] at h ⊢;exact dn _ h
   | rpp S x=>simp only[bare,aLB] at h ⊢;exact dn _ h
   | clos j c=>simp only[bare,aLB] at h ⊢;exact dn _ h
  ·rw[U] at h;simp[bare] at h
 case pick c x y=>
  obtain⟨c',hc,h⟩:=aLa.1 h;obtain⟨d,hp,h⟩:=aLa.1 h;rw[m.rdBoolo hc,aLc,m.Qjb hp,aLc];exact dn d h
 case alloc t=>
  obtain⟨ti,I,h⟩:=aLa.1 h;obtain⟨i,hi,h⟩:=aLa.1 h;rw[I,aLc,hi,aLc];cases hz:ti.td.zok with
  | false=>simp[hz] at h
  | true=>
   simp only[hz,aLB] at h ⊢;obtain⟨s1,h1,h⟩:=aLa.1 h;obtain⟨b1,hb1,J⟩:=m.Qay (hd i hi).1 (hd i hi).2 h1;rw[hb1,aLc];simp only[aLb] at h;subst h;exact⟨_,rfl,.done J⟩
 case box t x=>
  obtain⟨ti,I,h⟩:=aLa.1 h;obtain⟨i,hi,h⟩:=aLa.1 h;rw[I,aLc,hi,aLc];have hrp:∀y,(s.opd x).bxOf frz=some y->b.opd x=s.opd x:=fun y hy=>by
   rcases m.opd x with U | U
   ·exact U
   ·rw[U] at hy;cases hy
  cases hro:(s.opd x).bxOf frz with
  | some y=>
   rw[hrp y hro,hro];rw[hro] at h;simp only at h ⊢;have h':some (Eff.done (s.dst o.dst y))=some f:=by rw[hi];exact h
   have:=dn _ h'
   rw[hi] at this;exact this
  | none=>
  rw[hro] at h;simp only at h;obtain⟨⟨s1,d⟩,h1,h⟩:=aLa.1 h;obtain⟨s2,h2,h⟩:=aLa.1 h;obtain⟨b1,hb1,J⟩:=m.valD h1;obtain⟨b2,hb2,hs2⟩:=(J.mo m).Qay (J.eq (hd i hi).1) (J.eq (hd i hi).2) h2;have hbo:(b.opd x).bxOf frz=none:=by
   rcases m.opd x with U | U
   ·rw[U];exact hro
   ·exfalso
    unfold Dx.valD at h1;rw[U] at h1;simp[Qjv] at h1
  rw[hbo];simp only;rw[hb1,aLc];simp only[hb2,aLc];simp only[aLb] at h;subst h;refine⟨_,rfl,.done ?_⟩;have h12:=J.trans hs2
  have m2:=h12.mo m
  have hbi:s2.root (.b i)=b2.root (.b i):=h12.eq (hd i hi).2
  unfold leave;rcases m.opd x with U | U
  ·rw[U]
   cases hsl:x.slot with
   | none=>exact h12
   | some tt=>
    generalize hdd:s.opd x=dd;cases dd with
    | v S F X=>
     cases d with
     | v S2 F2 X2=>
      simp only;cases hc:F.isz || Nat.beq tt i with
      | true=>exact h12
      | false=>
       simp only[aLC];have he:s.root (.s tt)=b.root (.s tt):=Qhg m hsl (by rw[hdd];simp)
       rw[show s2.b i=b2.b i from hbi]
       exact h12.trans (m2.setS (h12.eq he) _)
     | _=>exact h12
    | _=>cases d<;>exact h12
  ·exfalso
   unfold Dx.valD at h1;rw[U] at h1;simp[Qjv] at h1
 case build t ps=>
  obtain⟨ti,I,h⟩:=aLa.1 h;rw[I,aLc];split at h
  ·rename_i fs htd
   cases hc:Qdb ps.toList&&ps.toList.all (fun p=>Nat.blt p.1 fs.length) with
   | false=>rw[hc] at h;cases h
   | true=>
    simp only[hc,aLB] at h ⊢;obtain⟨⟨s1,l⟩,h1,h⟩:=aLa.1 h;obtain⟨y,hy,h⟩:=aLa.1 h;obtain⟨b1,hb1,J⟩:=m.Yk _ _ h1;rw[hb1,aLc];simp only[hy,aLc];exact dn1 _ J h
  ·cases h
 case buildSlice t n ps=>
  obtain⟨ti,I,h⟩:=aLa.1 h;rw[I,aLc];split at h
  ·rename_i te S htd hsh
   (try simp only[htd,hsh] at h);(try simp only[htd,hsh])
   obtain⟨tj,htj,h⟩:=aLa.1 h;rw[htj,aLc];cases hc:tj.td.zok&&Qdb ps.toList&&ps.toList.all (fun p=>Nat.blt p.1 n)&&Nat.ble (n * S.size) 16777216 with
   | false=>rw[hc] at h;cases h
   | true=>
    simp only[hc,aLB] at h ⊢;obtain⟨⟨s1,l⟩,h1,h⟩:=aLa.1 h;obtain⟨b1,hb1,J⟩:=m.Qey _ _ h1;rw[hb1,aLc]
    try simp only at h ⊢
    cases hcc:l.all (fun u=>Qq S u.1 (l.foldr (fun u f=>Fl.meet u.1 f) (Fl.full S))) with
    | false=>rw[hcc] at h;cases h
    | true=>simp only[hcc,aLB] at h ⊢;exact dn1 _ J h
  ·cases h
 case load t x=>
  obtain⟨ti,I,h⟩:=aLa.1 h;rw[I,aLc];rcases m.opd x with U | U
  ·rw[U]
   generalize hdd:s.opd x=d at h ⊢;cases d with
   | loc r ver p=>
    try simp only at h ⊢
    obtain⟨⟨s1,d1⟩,h1,h⟩:=aLa.1 h;obtain⟨b1,hb1,J⟩:=m.QjA h1;rw[hb1,aLc];exact dn1 _ J h
   | rp S x=>
    try simp only at h ⊢
    cases hc:decide (S=ti.sh) with
    | false=>rw[hc] at h;cases h
    | true=>simp only[hc,aLB] at h ⊢;exact dn _ h
   | rpp S x=>
    try simp only at h ⊢
    cases hc:QY ti.sh with
    | true=>rw[hc] at h;cases h
    | false=>simp only[hc,aLC] at h ⊢;exact dn _ h
   | _=>cases h
  ·rw[U] at h;cases h
 case store t x y=>
  obtain⟨ti,I,h⟩:=aLa.1 h;obtain⟨⟨s1,d1⟩,h1,h⟩:=aLa.1 h;obtain⟨b1,hb1,J⟩:=m.valD h1;rw[I,aLc,hb1,aLc]
  try simp only at h ⊢
  rcases (J.mo m).opd x with U | U
  ·rw[U]
   generalize hdd:s1.opd x=d at h ⊢;cases d with
   | loc r ver p=>
    cases d1 with
    | v S f y'=>
     try simp only at h ⊢
     rcases (J.mo m).cell r with hr | hr
     ·rw[<-hr]
      cases hv:Nat.beq ((s1.root r).stamp p) ver with
      | false=>rw[hv] at h;cases h
      | true=>
       simp only[hv,aLB] at h ⊢;split at h
       ·rename_i S2 F2 X2 hd2
        obtain⟨z,hz,h⟩:=aLa.1 h;simp only[hz,aLc];have h4:=(J.mo m).setR hd2 (QK p) (.v S2 z.1 z.2)
        cases hh:Qer S2 F2 p with
        | none=>rw[hh] at h;exact dn1 _ (J.trans h4) h
        | some u=>rw[hh] at h;exact gd1 _ _ (J.trans h4) h
       ·cases h
     ·rw[hr] at h;cases hv:Nat.beq ((s1.root r).stamp p) ver<;>simp[hv] at h
    | _=>cases h
   | _=>cases h
  ·rw[U] at h;cases h
 case nilCheck x=>
  rcases m.opd x with U | U
  ·rw[U]
   generalize hdd:s.opd x=d at h ⊢;cases d<;>simp only at h ⊢<;>first | exact dn _ h | cases h
  ·rw[U] at h;cases h
 case binOp op t x y ty=>exact m.binE hds h
 case unOp op t x=>
  cases hr:s.rd (s.opd x) with
  | none=>rw[hr] at h;simp at h
  | some u=>
   rw[hr] at h;rw[m.rdo hr];split at h
   ·rename_i q h1;simp only[aLb] at h1;subst h1;exact dn _ h
   ·rename_i k q h1;simp only[aLb] at h1;subst h1;exact dn _ h
   ·cases h
 case convert st t x=>
  unfold Dx.Qsc at h ⊢;obtain⟨si,hsi,h⟩:=aLa.1 h;obtain⟨ti,I,h⟩:=aLa.1 h;obtain⟨v,hv,h⟩:=aLa.1 h;rw[hsi,aLc,I,aLc,m.rdo hv,aLc];cases hc:decide (v.1=si.sh) with
  | false=>rw[hc] at h;cases h
  | true=>
   simp only[hc,aLB] at h ⊢;split at h<;>rename_i h1<;>(try simp only[h1] at h ⊢)<;>first | exact dn _ h | cases h
 case makeFunc fn fi cs=>
  cases fn with
  | func j=>
   try simp only at h ⊢
   cases hc:fi.toList.isEmpty&&(cs.toList.map s.opd).all Z7 with
   | false=>rw[hc] at h;cases h
   | true=>
    have hmap:cs.toList.map b.opd=cs.toList.map s.opd:=by
     apply List.map_congr_left;intro x U;rcases m.opd x with h1 | h1
     ·exact h1
     ·simp only[aLg,List.all_eq_true,List.mem_map] at hc
      have:=hc.2 _ ⟨x,U,rfl⟩
      rw[h1] at this;simp[Z7] at this
    rw[hmap];simp only[hc,aLB] at h ⊢;exact dn _ h
  | _=>cases h
 case makeSlice t l c=>
  obtain⟨ti,I,h⟩:=aLa.1 h;rw[I,aLc];split at h
  ·rename_i te S htd hsh
   (try simp only[htd,hsh] at h);(try simp only[htd,hsh])
   obtain⟨tj,htj,h⟩:=aLa.1 h;obtain⟨q,hq,h⟩:=aLa.1 h;obtain⟨u,hu,h⟩:=aLa.1 h;rw[htj,aLc,m.rdInto hq,aLc,m.rdInto hu,aLc];cases hc:tj.td.zok&&QkT l c with
   | false=>rw[hc] at h;cases h
   | true=>simp only[hc,aLB] at h ⊢;exact gd _ _ h
  ·cases h
 case slice t x lo hi mx=>
  cases mx with
  | some mx=>cases h
  | none=>
   try simp only at h ⊢
   obtain⟨ti,I,h⟩:=aLa.1 h;rw[I,aLc];unfold Dx.QqA at h ⊢;obtain⟨l,hl,h⟩:=aLa.1 h;obtain⟨y,hy,h⟩:=aLa.1 h;rw[m.bound hl,aLc,m.valo hy,aLc];split at h
   ·rename_i f str
    try simp only at h ⊢
    cases hc:decide (ti.sh=.str)&&!f.isx with
    | false=>rw[hc] at h;cases h
    | true=>
     simp only[hc,aLB] at h ⊢;obtain⟨u,hu,h⟩:=aLa.1 h;rw[m.bound hu,aLc];exact gd _ _ h
   ·rename_i S f xs
    try simp only at h ⊢
    cases hc:decide (ti.sh=.list S)&&f.isl with
    | false=>rw[hc] at h;cases h
    | true=>
     simp only[hc,aLB] at h ⊢;obtain⟨u,hu,h⟩:=aLa.1 h;obtain⟨d,hdd,h⟩:=aLa.1 h;rw[m.bound hu,aLc];have hne:s.opd x ≠ .tup []:=fun hh=>by rw[hh,Qgj] at hy;cases hy
     cases hz:f.isz with
     | true=>simp only[hz,aLB,aLb] at hdd ⊢;subst hdd;exact gd _ _ h
     | false=>
      simp only[hz,aLC] at hdd ⊢;obtain⟨f',hf',hs'⟩:=gd _ _ h;exact⟨f',aLa.2 ⟨d,alS x _ d hy hdd,hf'⟩,hs'⟩
   ·cases h
 case fieldAddr t x n=>
  obtain⟨ti,I,h⟩:=aLa.1 h;rw[I,aLc];split at h
  ·rename_i fs htd
   (try simp only[htd] at h);(try simp only[htd])
   cases hc:Nat.blt n fs.length with
   | false=>rw[hc] at h;cases h
   | true=>
    simp only[hc,aLB] at h ⊢;rcases m.opd x with U | U
    ·rw[U]
     generalize hdd:s.opd x=d at h ⊢;cases d with
     | loc r ver p=>
      try simp only at h ⊢
      obtain⟨S,hS,h⟩:=aLa.1 h;rw[m.placeSh hS,aLc];cases hcc:decide (S=ti.sh) with
      | false=>rw[hcc] at h;cases h
      | true=>simp only[hcc,aLB] at h ⊢;exact dn _ h
     | rp S y=>
      try simp only at h ⊢
      cases hcc:decide (S=ti.sh) with
      | false=>rw[hcc] at h;cases h
      | true=>
       simp only[hcc,aLB] at h ⊢;obtain⟨z,hz,h⟩:=aLa.1 h;rw[hz,aLc];exact dn _ h
     | _=>cases h
    ·rw[U] at h;cases h
  ·cases h
 case field t x n=>
  obtain⟨ti,I,h⟩:=aLa.1 h;rw[I,aLc];split at h
  ·rename_i fs htd
   (try simp only[htd] at h);(try simp only[htd])
   obtain⟨y,hy,h⟩:=aLa.1 h;rw[m.valo hy,aLc];cases hc:Nat.blt n fs.length&&decide (y.sh=ti.sh)&&okS y.sh y.fl with
   | false=>rw[hc] at h;cases h
   | true=>
    simp only[hc,aLB] at h ⊢;obtain⟨z,hz,h⟩:=aLa.1 h;rw[hz,aLc];cases hzz:z.fl.isz with
    | true=>simp only[hzz,aLB] at h ⊢;exact dn _ h
    | false=>
     simp only[hzz,aLC] at h ⊢;obtain⟨d,hdd,h⟩:=aLa.1 h;have hne:s.opd x ≠ .tup []:=fun hh=>by rw[hh,Qgj] at hy;cases hy
     obtain⟨f',hf',hs'⟩:=dn _ h;exact⟨f',aLa.2 ⟨d,alF x _ d hne hdd,hf'⟩,hs'⟩
  ·cases h
 case indexAddr t x i=>
  obtain⟨ti,I,h⟩:=aLa.1 h;obtain⟨q,hq,h⟩:=aLa.1 h;obtain⟨y,hy,h⟩:=aLa.1 h;rw[I,aLc,m.rdInto hq,aLc]
  try simp only at h hy ⊢
  rw[m.valo hy,aLc];split at h
  ·rename_i S f xs
   try simp only at h ⊢
   cases hc:decide (ti.sh=.list S)&&f.islh with
   | false=>rw[hc] at h;cases h
   | true=>
    simp only[hc,aLB] at h ⊢;obtain⟨d,hdd,h⟩:=aLa.1 h;have hne:s.opd x ≠ .tup []:=fun hh=>by rw[hh,Qgj] at hy;cases hy
    cases hz:f.isz with
    | true=>simp only[hz,aLB,aLb] at hdd ⊢;subst hdd;exact gd _ _ h
    | false=>
     simp only[hz,aLC] at hdd ⊢;obtain⟨f',hf',hs'⟩:=gd _ _ h;exact⟨f',aLa.2 ⟨d,alL x _ d hy hdd,hf'⟩,hs'⟩
  ·cases h
 case index t x i=>
  obtain⟨ti,I,h⟩:=aLa.1 h;obtain⟨q,hq,h⟩:=aLa.1 h;rw[I,aLc,m.rdInto hq,aLc]
  try simp only at h ⊢
  cases hr:s.rd (s.opd x) with
  | none=>rw[hr] at h;simp at h
  | some u=>
   rw[hr] at h;rw[m.rdo hr];split at h
   ·rename_i str h1 h2;simp only[aLb] at h2;subst h2;exact gd _ _ h
   ·cases h
 case extract x i=>
  rcases m.opd x with U | U
  ·rw[U]
   split at h
   ·rename_i l t hl ht
    have hne:s.opd x ≠ .tup []:=fun hh=>by rw[hh] at hl;simp only[Desc.tup.injEq] at hl;subst hl;simp at h
    have he:=Qhg m ht hne
    try simp only[hl,ht]
    split at h
    ·rename_i y hy
     try simp only[hy] at h ⊢
     cases hz:y.fl.isz with
     | true=>simp only[hz,aLB] at h ⊢;exact dn _ h
     | false=>
      simp only[hz,aLC] at h ⊢;exact dn1 _ (m.setS (i:=t) he _) h
    ·cases h
   ·cases h
  ·rw[U] at h;split at h
   ·rename_i hl ht;simp only[Desc.tup.injEq] at hl;subst hl;simp at h
   ·cases h
 case call c=>
  split at h
  ·rename_i x hcal hargs
   try simp only[hcal,hargs]
   obtain⟨ti,I,h⟩:=aLa.1 h;rw[I,aLc];rcases m.opd x with U | U
   ·rw[U]
    generalize hdd:s.opd x=d at h ⊢;have vv:((s.val d).bind fun y=>bif decide (y.sh=ti.sh)&&okS y.sh y.fl then match y with
       | ⟨.str,_,str⟩=>some (Eff.done (s.dst o.dst (.v (.int .i64) .z (List.length str:Int))))
       | ⟨.list _,_,xs⟩=>some (Eff.done (s.dst o.dst (.v (.int .i64) .z (List.length xs:Int))))
       | _=>none
      else none)=some f->∃f',((b.val d).bind fun y=>bif decide (y.sh=ti.sh)&&okS y.sh y.fl then match y with
       | ⟨.str,_,str⟩=>some (Eff.done (b.dst o.dst (.v (.int .i64) .z (List.length str:Int))))
       | ⟨.list _,_,xs⟩=>some (Eff.done (b.dst o.dst (.v (.int .i64) .z (List.length xs:Int))))
       | _=>none
      else none)=some f'/\Z0 s b f f':=by
     intro h;obtain⟨y,hy,h⟩:=aLa.1 h;rw[m.val hy,aLc];cases hc:decide (y.sh=ti.sh)&&okS y.sh y.fl with
     | false=>rw[hc] at h;cases h
     | true=>
      simp only[hc,aLB] at h ⊢;split at h
      ·exact dn _ h
      ·exact dn _ h
      ·cases h
    cases d with
    | nil=>
     try simp only at h ⊢
     cases hc:QmU ti.sh with
     | false=>rw[hc] at h;cases h
     | true=>simp only[hc,aLB] at h ⊢;exact dn _ h
    | _=>exact vv h
   ·rw[U] at h;simp[Qgj] at h
  ·rename_i x y hcal hargs
   try simp only[hcal,hargs]
   obtain⟨q,hq,h⟩:=aLa.1 h;obtain⟨u,hu,h⟩:=aLa.1 h;rw[m.rdInto hq,aLc]
   try simp only at h hu ⊢
   rw[m.rdInto hu,aLc];by_cases hk:q.1=u.1
   ·simp only[hk,if_true] at h ⊢;exact dn _ h
   ·simp[hk] at h
  ·rename_i x hcal hargs
   try simp only[hcal,hargs]
   obtain⟨t0,ht0,h⟩:=aLa.1 h;rw[ht0,aLc];exact m.Qhk hds h
  ·rename_i x y hcal hargs
   try simp only[hcal,hargs]
   obtain⟨t0,ht0,h⟩:=aLa.1 h;obtain⟨t1,ht1,h⟩:=aLa.1 h;rw[ht0,aLc,ht1,aLc];exact m.Qgb hds h
  ·rename_i _ as fo hcal
   try simp only[hcal]
   rcases m.opd fo with U | U
   ·rw[U]
    generalize hdd:s.opd fo=d at h ⊢;have vv:Dx.QfS s o.dst d c.args.toList=some f->∃f',Dx.QfS b o.dst d c.args.toList=some f'/\Z0 s b f f':=fun h=>m.QfS hds h
    cases d with
    | clos j caps=>
     cases caps with
     | nil=>
      simp only at h ⊢;cases hj:assoc j C.nps with
      | none=>rw[hj] at h;exact m.Qim hds h
      | some N=>rw[hj] at h;exact m.newE hd h
     | cons q l=>exact vv h
    | _=>exact vv h
   ·rw[U] at h;simp[Dx.QfS] at h
  ·cases h
 all_goals cases h
end Go.Dx
namespace Go.Dx
theorem Qhe {e e':Env} (h1:e.sl.length=e'.sl.length) (h2:e.bl.length=e'.bl.length) (h:∀r,e.root r=e'.root r):e=e':=by
 exact congr (congrArg Env.mk (Cs.ext' h1 fun i=>h (.s i))) (Cs.ext' h2 fun i=>h (.b i))
theorem Qhn {a:Nat}:∀{l:List Nat},memN a l=true↔a ∈ l
 | []=>by simp[memN]
 | b::l=>by
  simp only[memN,aMC,Qhn]
  simp_all
def Root.far (e:Env):Root->Prop | .s i=>e.sl.length<=i | .b i=>e.bl.length<=i
theorem Qjh {e:Env} {r:Root} (h:r.far e):e.root r=Cel.dead:=by cases r;exact e.sl.out _ h;exact e.bl.out _ h
theorem Cs.restr_f (c:Cel) (m:List Nat) (l:Cs) (i:Nat):((l.restr c m).f i=l.f i/\(memN i m=true\/l.length<=i))\/((l.restr c m).f i=c/\memN i m=false/\¬l.length<=i):=by
 show ((bif memN i m then l.f i else bif Nat.blt i l.length then c else Cel.dead)=_/\_)\/((bif memN i m then l.f i else bif Nat.blt i l.length then c else Cel.dead)=_/\_)
 cases hm:memN i m with
 | true=>simp_all
 | false=>
  rcases aMg i l.length with h | h
  ·rw[show Nat.blt i l.length=true by rw[Nat.blt_eq];exact h];exact .inr ⟨rfl,rfl,by omega⟩
  ·rw[Qmy h];exact .inl ⟨(l.out i h).symm,.inr h⟩
theorem Qbv (c:Cel) (T:Msk) (e:Env) (r:Root):((QeB c T e).root r=e.root r/\(T.has r=true\/r.far e))\/((QeB c T e).root r=c/\T.has r=false/\¬r.far e):=by
 cases r
 ·exact e.sl.restr_f c T.s _
 ·exact e.bl.restr_f c T.b _
theorem QdA {c:Cel} {T:Msk} {e:Env} {r:Root} (h:T.has r=true\/r.far e):(QeB c T e).root r=e.root r:=by
 rcases Qbv c T e r with I | ⟨_,h2,h3⟩
 ·simp_all
 simp_all
theorem Qju (T:Msk) (e:Env):Mo (QS T e) e:=⟨rfl,rfl,fun r=>(Qbv forb T e r).imp (·.1) (fun h=>by rw[QS,h.1];rfl)⟩
theorem QpW {T:Msk} {e e':Env} (h1:e.sl.length=e'.sl.length) (h2:e.bl.length=e'.bl.length) (h:∀r,T.has r=true->e.root r=e'.root r):QS T e=QS T e':=by
 refine Qhe h1 h2 fun r=>?_
 have I:r.far e↔r.far e':=by cases r;simp[Root.far,h1];simp[Root.far,h2]
 rcases Qbv forb T e r with ⟨k,k2⟩ | ⟨k,k2,k3⟩
 ·rw[QS,k,QS,QdA (k2.imp id I.1)]
  rcases k2 with k2 | k2
  ·simp_all
  ·rw[Qjh k2,Qjh (I.1 k2)]
 ·rcases Qbv forb T e' r with ⟨_,q | q⟩ | ⟨q,_⟩
  ·simp_all
  ·simp_all
  ·rw[QS,k,QS,q]
theorem Qns {T:Msk} {s s':Env} {r:Root}:(chgE T s s').has r=true↔T.has r=true/\chgC (s.root r) (s'.root r)=true:=by
 cases r<;>simp only[chgE,Msk.has,Qhn,aMv]<;>rfl
theorem Qrr {T:Msk} {s s':Env} (r:Root) (h:(chgE T s s').has r=true):T.has r=true:=(Qns.1 h).1
theorem Cs.mrg_f (m:List Nat) (l' l:Cs) (I:l'.length=l.length) (i:Nat):(Cs.mrg m l' l).f i=if memN i m=true then l'.f i else l.f i:=by
 show (bif memN i m&&Nat.blt i l.length then l'.f i else l.f i)=_
 cases memN i m with
 | false=>rfl
 | true=>
  rcases aMg i l.length with h | h
  ·rw[show Nat.blt i l.length=true by rw[Nat.blt_eq];exact h];rfl
  ·rw[Qmy h,l'.out i (I ▸ h),l.out i h];rfl
theorem Qge {W:Msk} {s e:Env} (h1:s.sl.length=e.sl.length) (h2:s.bl.length=e.bl.length) (r:Root):(mrgE W s e).root r=if W.has r=true then s.root r else e.root r:=by
 cases r
 ·exact Cs.mrg_f _ _ _ h1 _
 ·exact Cs.mrg_f _ _ _ h2 _
theorem Qcp {W:Msk} {s e:Env}:(mrgE W s e).sl.length=e.sl.length/\(mrgE W s e).bl.length=e.bl.length:=⟨rfl,rfl⟩
theorem QlN:∀(a:List Nat) (i:Nat),(Qdc a).testBit i=memN i a
 | [],i=>by simp[Qdc,memN]
 | b::l,i=>by
  show ((2 ^ b) ||| (Qdc l)).testBit i=(Nat.beq i b || memN i l)
  rw[Nat.testBit_or,QlN l i];cases h:Nat.beq i b with
  | true=>simp_all
  | false=>simp[Ne.symm (Nat.ne_of_beq_eq_false h)]
def Msk.dj (a b:Msk):Prop:=∀r,a.has r=true->b.has r=false
theorem Qpt {a b:Msk} (h:Qjn a b=true):a.dj b:=by
 simp only[Qjn,aLg] at h;have one:∀(x y:List Nat) (i:Nat),Nat.beq (Nat.land (Qdc x) (Qdc y)) 0=true->memN i x=true->memN i y=false:=fun x y i hh hi=>by
  have:((Qdc x)&&& (Qdc y)).testBit i=false:=by
   simp_all
  rw[Nat.testBit_and,QlN,QlN] at this
  simp_all
 intro r I;cases r
 ·exact one _ _ _ h.1 I
 ·exact one _ _ _ h.2 I
theorem QhV (n j:Nat):bitN n j=n.testBit j:=by
 have:bitN n j=Nat.beq ((n >>> j) % 2) 1:=by
  show Nat.beq (1&&& (n >>> j)) 1=_
  simp_all
 rw[this];have h2:n.testBit j=decide ((n >>> j) % 2=1):=by
  simp_all
 rw[h2];cases hb:Nat.beq ((n >>> j) % 2) 1 with
 | true=>simp_all
 | false=>have:=Nat.ne_of_beq_eq_false hb;simp[this]
theorem QvQ {I:List Tr} {o:Oper} {j:Nat} (h:bitN (Qif I o) j=true):∃d,d ∈ ZU o/\(j=d\/bitN (((I[d]?).map (·.anc)).getD 0) j=true):=by
 have key:∀l:List Nat,bitN (ancL I l) j=true->∃d,d ∈ l/\(j=d\/bitN (((I[d]?).map (·.anc)).getD 0) j=true):=by
  intro l;induction l with
  | nil=>intro h;rw[QhV] at h;simp[ancL] at h
  | cons d l J=>
   intro h;rw[QhV] at h;have h:(((2 ^ d) ||| (((I[d]?).map (·.anc)).getD 0)) ||| (ancL I l)).testBit j=true:=h
   rw[Nat.testBit_or,Nat.testBit_or,aMC,aMC] at h;rcases h with (h | h) | h
   ·grind
   ·exact⟨d,by simp,.inr (by rw[QhV];exact h)⟩
   ·obtain⟨U,h1,h2⟩:=J (by rw[QhV];exact h)
    grind
 exact key _ h
theorem QpD {c d:Cel} (hv:d.ver=c.ver) (hd:Qi4 c.d d.d/\d.id=c.id/\d.hv=c.hv) (I:QhA c.d d.d=true):d=c:=by
 obtain⟨J,U,ci,ch⟩:=c;obtain⟨dv,dd,di,dh⟩:=d;obtain⟨hd,hi,hh⟩:=hd;subst hv hi hh;rcases hd with rfl | ⟨S,F,F',X,rfl,rfl⟩
 ·rfl
 ·simp[QhA] at I
  simp_all
theorem Qwq {T:Msk} {s s':Env} (h:Zi s s') (hf:∀r,T.has r=false->s'.root r=s.root r) {r:Root} (J:(chgE T s s').has r=false):s'.root r=s.root r:=by
 cases U:T.has r with
 | false=>simp_all
 | true=>
  have I:chgC (s.root r) (s'.root r)=false:=by
   cases I:chgC (s.root r) (s'.root r) with
   | false=>rfl
   | true=>rw[Qns.2 ⟨U,I⟩] at J;cases J
  simp only[chgC,Bool.not_eq_false',aLg] at I;have hv:(s'.root r).ver=(s.root r).ver:=(aLw I.1).symm
  exact QpD hv ((h.le r).2 hv) I.2
theorem Syn.merge {T:Msk} {s b s' b':Env} (m:Mo s b) (h:Syn s b s' b') (J:Zi s s') (U:∀r,T.has r=false->s'.root r=s.root r):b'=mrgE (chgE T s s') s' b:=by
 have l1:s'.sl.length=b.sl.length:=h.sl.trans m.sl
 have l2:s'.bl.length=b.bl.length:=h.bl.trans m.bl
 refine Qhe h.le.sl h.le.bl fun r=>?_
 rw[Qge l1 l2];cases I:(chgE T s s').has r with
 | true=>
  rw[if_pos rfl];rcases h.cell r with ⟨h1,h1'⟩ | ⟨_,h2⟩
  ·rcases m.cell r with hm | hm
   ·simp_all
   ·have:=(Qns.1 I).2
    rw[h1] at this;simp[chgC,hm,QhA] at this
  simp_all
 | false=>
  rcases h.cell r with ⟨_,h1⟩ | ⟨h1,h2⟩
  ·grind
  ·rw[<-h2,Qwq J U I];exact h1
variable {C:Ctx}
theorem Z0.gives {s b:Env} {f f':Eff} (h:Z0 s b f f') {s':Env} (I:f.gives s'):∃b',f'.gives b'/\Syn s b s' b':=by
 cases h with
 | done h=>obtain rfl:s'=_:=I;exact⟨_,rfl,h⟩
 | grd h=>obtain⟨rfl,rfl⟩:=I;exact⟨_,⟨rfl,rfl⟩,h⟩
 | call h=>obtain⟨y,hm,U⟩:=I;obtain⟨b',J,hs⟩:=h y s' U;exact⟨b',⟨y,hm,J⟩,hs⟩
theorem Qfn {frz:Fz} {o:Oper} {e e':Env} {f:Eff} (h:Qn C frz e o=some f) (U:f.gives e'):Zi e e':=by
 obtain⟨f',I,hs⟩:=(Mo.refl e).Qn (fun _ _=>⟨rfl,rfl⟩) h
 rw[h] at I;simp at I;subst I;cases hs with
 | done h=>obtain rfl:e'=_:=U;exact h.le
 | grd h=>obtain⟨_,rfl⟩:=U;exact h.le
 | call h=>
  obtain⟨y,hm,hy⟩:=U;obtain⟨b',J,hs⟩:=h y e' hy;rw[hy] at J;simp at J;subst J;exact hs.le
theorem QhG (e:Env) (o:Option Tmp) (d:Desc):Zi e (e.dst o d):=by cases o with | none=>exact .refl e | some i=>exact .setS e i d
theorem Qp3 {T:Msk} {e:Env} {o:Oper} (hd:QbE T e o=true) {i:Nat} (hi:o.dst=some i):(T.has (.s i)=true\/Root.far e (.s i))/\(T.has (.b i)=true\/Root.far e (.b i)):=by
 simpa [QbE,hi,Root.far] using hd
theorem Qop {c c':Cel} {T:Msk} {e:Env} {o:Oper} (hd:QbE T e o=true):∀i,o.dst=some i->(QeB c T e).root (.s i)=(QeB c' T e).root (.s i)/\(QeB c T e).root (.b i)=(QeB c' T e).root (.b i):=fun i hi=>by
 have h:=Qp3 hd hi
 exact⟨(QdA h.1).trans (QdA h.1).symm,(QdA h.2).trans (QdA h.2).symm⟩
theorem QoA {T:Msk} {e s' b':Env} (h:Syn (QS T e) (QeB Cel.dead T e) s' b') {r:Root} (I:T.has r=false):s'.root r=(QS T e).root r:=by
 rcases h.cell r with h1 | ⟨h1,h2⟩
 ·simp_all
 ·rcases Qbv forb T e r with ⟨k,k2 | k2⟩ | ⟨k,_,k3⟩
  ·simp_all
  ·rw[QS,k,Qjh k2]
   exact Qjh (by cases r;exact Nat.le_trans (Nat.le_of_eq h.sl) k2;exact Nat.le_trans (Nat.le_of_eq h.bl) k2)
  ·rcases Qbv Cel.dead T e r with ⟨_,q | q⟩ | ⟨q,_⟩
   ·simp_all
   ·simp_all
   ·rw[QS,k,q] at h1;cases h1
theorem QnZ (T:Msk) (e:Env):Mo (QS T e) (QeB Cel.dead T e):=⟨rfl,rfl,fun r=>(Qbv forb T e r).imp (fun h=>by rw[QS,h.1,QdA h.2]) (fun h=>by rw[QS,h.1];rfl)⟩
theorem Qr4 {frz:Fz} {T:Msk} {o:Oper} {e:Env} (hd:QbE T e o=true) {f:Eff} {s':Env} (U:Qn C frz (QS T e) o=some f) (hg:f.gives s') (r:Root) (hr:T.has r=false):s'.root r=(QS T e).root r:=by
 obtain⟨f',_,I⟩:=(QnZ T e).Qn (Qop hd) U;obtain⟨b',_,J⟩:=I.gives hg;exact QoA J hr
theorem Qrt {T:Msk} {e I:Env} {o:Oper} (h1:I.sl.length=e.sl.length) (h2:I.bl.length=e.bl.length) (hd:QbE T I o=true):QbE T e o=true:=by
 unfold QbE at hd ⊢
 simp_all
theorem Qmq {T:Msk} {e:Env} {o:Oper} (hd:QbE T e o=true):∀i,o.dst=some i->(QS T e).root (.s i)=e.root (.s i)/\(QS T e).root (.b i)=e.root (.b i):=fun i hi=>⟨QdA (Qp3 hd hi).1,QdA (Qp3 hd hi).2⟩
theorem Qmi {frz:Fz} {T:Msk} {o:Oper} {e I:Env} (h1:I.sl.length=e.sl.length) (h2:I.bl.length=e.bl.length) (ha:∀r,T.has r=true->I.root r=e.root r) (hd:QbE T I o=true)
  {f:Eff} {s':Env} (U:Qn C frz (QS T I) o=some f) (hg:f.gives s'):∃f',Qn C frz e o=some f'/\f'.gives (mrgE (chgE T (QS T I) s') s' e):=by
 rw[QpW h1 h2 ha] at U ⊢;have hd:=Qrt h1 h2 hd
 obtain⟨f',hf',J⟩:=(Qju T e).Qn (Qmq hd) U;obtain⟨b',hb',hsy⟩:=J.gives hg;refine⟨f',hf',?_⟩;rw[<-hsy.merge (Qju T e) (Qfn U hg) (Qr4 hd U hg)]
 simp_all
theorem Qmp {T:Msk} {o:Oper} {e I:Env} (h1:I.sl.length=e.sl.length) (h2:I.bl.length=e.bl.length) (J:∀r,T.has r=true->I.root r=e.root r) (hd:QbE T I o=true) :
  e.dst o.dst .und=mrgE (chgE T (QS T I) ((QS T I).dst o.dst .und)) ((QS T I).dst o.dst .und) e:=by
 rw[QpW h1 h2 J];have hd:=Qrt h1 h2 hd
 exact Syn.merge (Qju T e) ((Qju T e).dst (fun i hi=>(Qmq hd i hi).1) .und) (QhG _ _ _) fun r U=>QoA ((QnZ T e).dst (fun i hi=>(Qop hd i hi).1) .und) U
end Go.Dx
