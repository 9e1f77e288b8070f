/- A LIBRARY: an executor over the code of a program, proved sound: what its letters say of a function is so (contract_of); how a row is closed by it (law_calls) -/
import Derived.Test.YtafmdbgjajnnkaaGreatDoorDxb
import Derived.Orders
import Derived.Below
import Derived.WideKeyArgs
import Derived.ChangeArms
import Derived.ProofKit
set_option linter.unusedVariables false
set_option linter.unusedSimpArgs false
namespace Go.Dx
variable {s b:Env} {C:Ctx}
theorem Mo.bound (m:Mo s b) {d:Int} {o:Option Operand} {l:Int} (h:bound s d o=some l):bound b d o=some l:=by
 cases o with
 | none=>exact h
 | some x=>
  simp only[Dx.bound] at h ⊢
  obtain⟨y,hy,h⟩:=aLd.1 h
  rw[m.rdInto hy,Option.map_some,h]
theorem Mo.placeSh (m:Mo s b) {r:Root} {ver:Nat} {p:List Step} {S:Sh} (h:s.placeSh r ver p=some S):b.placeSh r ver p=some S:=by
 unfold Env.placeSh at h ⊢
 rcases m.cell r with hr | hr
 ·rw[<-hr];exact h
 ·rw[hr] at h;cases hc:Nat.beq ((s.root r).stamp p) ver<;>simp[hc] at h
theorem Qj4 (m:Mo s b) {x:Operand} {t:Nat} (ht:x.slot=some t) (h:s.opd x ≠ .tup []):s.s t=b.s t:=m.of_v (r:=.s t) (by rw[show (s.root (.s t)).d=s.opd x from QcR ht];exact h)
theorem Mo.QiD (m:Mo s b) {dst:Option Tmp} (hds:∀i,dst=some i->s.root (.s i)=b.root (.s i)) {st xt:TypeId} {so xo:Operand} {f:Eff} (h:QiD C s dst st xt so xo=some f):∃f',QiD C b dst st xt so xo=some f'/\Yl s b f f':=by
 unfold Dx.QiD at h ⊢
 obtain⟨ti,hti,h⟩:=aLa.1 h
 rw[hti,aLc]
 split at h
 ·rename_i te S htd hsh
  (try simp only[htd,hsh] at h);(try simp only[htd,hsh])
  obtain⟨tj,htj,h⟩:=aLa.1 h
  rw[htj,aLc]
  cases hc:Nat.beq xt st&&tj.td.zok with
  | false=>rw[hc] at h;cases h
  | true=>
   simp only[hc,aLB] at h ⊢
   obtain⟨⟨s1,y⟩,h1,h⟩:=aLa.1 h
   obtain⟨xs,hxs,h⟩:=aLa.1 h
   obtain⟨b1,hb1,hs1⟩:=m.takeo h1
   rw[hb1,aLc]
   try simp only at h hxs ⊢
   rw[hxs,aLc]
   generalize hyf:y.fl=yf at h ⊢
   cases yf with
   | o f1=>
    try simp only at h ⊢
    obtain⟨⟨s2,q⟩,h2,h⟩:=aLa.1 h
    have fin:∀{b2:Env},Syn s1 b1 s2 b2->∃f',(bif Qr S f1 (f1.meet q.1)&&Qr S q.1 (f1.meet q.1)&&okS S (f1.meet q.1) then
       some (Eff.grd (decide (List.length xs+List.length q.2<=LIM)) (b2.dst dst (.v (.list S) (.o (f1.meet q.1)) (List.append xs q.2)))) else none)=some f'/\Yl s b f f':=by
     intro b2 hs2
     cases hcc:Qr S f1 (f1.meet q.1)&&Qr S q.1 (f1.meet q.1)&&okS S (f1.meet q.1) with
     | false=>simp only[hcc,aLC] at h;cases h
     | true=>
      simp only[hcc,aLB,aLb] at h ⊢
      subst h
      exact⟨_,rfl,.grd ((hs1.trans hs2).trans (((hs1.trans hs2).mo m).dst (fun i hi=>(hs1.trans hs2).eq (hds i hi)) _))⟩
    have m1:=hs1.mo m
    rcases m1.opd xo with hx | hx
    ·rw[hx]
     generalize hdd:s1.opd xo=d at h2 ⊢
     have vv:((s1.val d).bind fun u=>(asS ⟨u.sh,u.x⟩ (.list S)).bind fun ys=>match u.fl with
        | .z=>some (s1,Fl.z,ys)
        | .o .z=>some (s1,.z,ys)
        | .o _=>(s1.take xo.slot (.list S) d).bind fun (q:Env×Dv)=>(asS ⟨q.2.sh,q.2.x⟩ (.list S)).bind fun zs=>match q.2.fl with
          | .o g=>some (q.1,g,zs)
          | _=>none
        | _=>none)=some (s2,q)->∃b2,((b1.val d).bind fun u=>(asS ⟨u.sh,u.x⟩ (.list S)).bind fun ys=>match u.fl with
        | .z=>some (b1,Fl.z,ys)
        | .o .z=>some (b1,.z,ys)
        | .o _=>(b1.take xo.slot (.list S) d).bind fun (q:Env×Dv)=>(asS ⟨q.2.sh,q.2.x⟩ (.list S)).bind fun zs=>match q.2.fl with
          | .o g=>some (q.1,g,zs)
          | _=>none
        | _=>none)=some (b2,q)/\Syn s1 b1 s2 b2:=by
      intro h2
      obtain⟨u,hu,h2⟩:=aLa.1 h2
      obtain⟨ys,hys,h2⟩:=aLa.1 h2
      rw[m1.val hu,aLc,hys,aLc]
      have same:∀{z:Fl×List S.den},some (s1,z)=some (s2,q)->∃b2,some (b1,z)=some (b2,q)/\Syn s1 b1 s2 b2:=fun h=>by
       simp only[aLb,aLe] at h;obtain⟨rfl,rfl⟩:=h;exact⟨b1,rfl,.refl s1 b1⟩
      have tk:((s1.take xo.slot (.list S) d).bind fun (q:Env×Dv)=>(asS ⟨q.2.sh,q.2.x⟩ (.list S)).bind fun zs=>match q.2.fl with
          | .o g=>some (q.1,g,zs)
          | _=>none)=some (s2,q)->∃b2,((b1.take xo.slot (.list S) d).bind fun (q:Env×Dv)=>(asS ⟨q.2.sh,q.2.x⟩ (.list S)).bind fun zs=>match q.2.fl with
          | .o g=>some (q.1,g,zs)
          | _=>none)=some (b2,q)/\Syn s1 b1 s2 b2:=by
       intro h2
       obtain⟨⟨s3,v⟩,h3,h2⟩:=aLa.1 h2
       obtain⟨zs,hzs,h2⟩:=aLa.1 h2
       obtain⟨b3,hb3,hs3⟩:=m1.take (fun i hi=>(QcR hi).trans hdd) h3
       rw[hb3,aLc]
       try simp only at h2 hzs ⊢
       rw[hzs,aLc]
       generalize v.fl=vf at h2 ⊢
       cases vf with
       | o g=>
        try simp only at h2 ⊢
        simp only[aLb,aLe] at h2
        obtain⟨rfl,rfl⟩:=h2
        exact⟨b3,rfl,hs3⟩
       | _=>cases h2
      generalize u.fl=uf at h2 ⊢
      cases uf with
      | z=>exact same h2
      | x=>cases h2
      | p a c=>cases h2
      | h f0 i0=>cases h2
      | o g=>
       cases g with
       | z=>exact same h2
       | _=>exact tk h2
     have fin2:∀{X:Option (Env×Fl×List S.den)},(∃b2,X=some (b2,q)/\Syn s1 b1 s2 b2)->∃f',(X.bind fun (q:Env×Fl×List S.den)=>bif Qr S f1 (f1.meet q.2.1)&&Qr S q.2.1 (f1.meet q.2.1)&&okS S (f1.meet q.2.1) then
       some (Eff.grd (decide (List.length xs+List.length q.2.2<=LIM)) (q.1.dst dst (.v (.list S) (.o (f1.meet q.2.1)) (List.append xs q.2.2)))) else none)=some f'/\Yl s b f f':=by
      rintro X ⟨b2,rfl,hs2⟩
      exact fin hs2
     refine fin2 ?_
     cases d with
     | nil=>
      simp only[aLb,aLe] at h2 ⊢
      obtain⟨rfl,rfl⟩:=h2
      exact⟨b1,⟨rfl,rfl⟩,.refl s1 b1⟩
     | _=>exact vv h2
    ·rw[hx] at h2;simp[Qhw] at h2
   | _=>cases h
 ·cases h
theorem Mo.Qky (m:Mo s b) {dst:Option Tmp} (hds:∀i,dst=some i->s.root (.s i)=b.root (.s i)) {st:TypeId} {x:Operand} {f:Eff} (h:Qky C s dst st x=some f):∃f',Qky C b dst st x=some f'/\Yl s b f f':=by
 unfold Dx.Qky at h ⊢
 obtain⟨ti,hti,h⟩:=aLa.1 h
 rw[hti,aLc]
 rcases m.opd x with hx | hx
 ·rw[hx]
  split at h
  ·rename_i te S t ver l hh htd hsh hox
   (try simp only[htd,hsh,hox])
   obtain⟨tj,htj,h⟩:=aLa.1 h
   rw[htj,aLc]
   rcases m.cell (.s t) with hr | hr
   ·have hr':b.s t=s.s t:=hr.symm
    rw[hr']
    cases hc:tj.td.zok&&Nat.beq (s.s t).ver ver with
    | false=>rw[hc] at h;cases h
    | true=>
     simp only[hc,aLB] at h ⊢
     split at h
     ·rename_i S2 f2 X hdd
      (try simp only[hdd])
      obtain⟨Y,hY,h⟩:=aLa.1 h
      rw[hY,aLc]
      cases hcc:Qr S (Fl.full S) f2&&okS S f2 with
      | false=>rw[hcc] at h;cases h
      | true=>
       simp only[hcc,aLB,aLb] at h ⊢
       subst h
       have h4:=m.setR (r:=.s t) hdd false (.v (.list S) (.o f2) (clr l hh Y))
       exact⟨_,rfl,.done (h4.trans ((h4.mo m).dst (fun i hi=>h4.eq (hds i hi)) _))⟩
     ·cases h
   ·have hr':(s.s t).d=.tup []:=by
     have:(s.root (.s t)).d=.tup []:=by rw[hr]
     exact this
    cases hc:tj.td.zok&&Nat.beq (s.s t).ver ver with
    | false=>rw[hc] at h;cases h
    | true=>
     simp only[hc,aLB,hr'] at h
     cases h
  ·cases h
 ·rw[hx] at h
  split at h
  ·rename_i hox;cases hox
  ·cases h
theorem Mo.Qq (m:Mo s b) {frz:Bool} {o:Oper} (hd:∀i,o.dst=some i->s.root (.s i)=b.root (.s i)/\s.root (.b i)=b.root (.b i)) {f:Eff} (h:Qq C frz s o=some f):∃f',Qq C frz b o=some f'/\Yl s b f f':=by
 have hds:∀i,o.dst=some i->s.root (.s i)=b.root (.s i):=fun i hi=>(hd i hi).1
 have D:=fun d=>m.dst hds d
 have dn:∀d,some (Eff.done (s.dst o.dst d))=some f->∃f',some (Eff.done (b.dst o.dst d))=some f'/\Yl s b f f':=fun d h=>by simp only[aLb] at h;subst h;exact⟨_,rfl,.done (D d)⟩
 have gd:∀c d,some (Eff.grd c (s.dst o.dst d))=some f->∃f',some (Eff.grd c (b.dst o.dst d))=some f'/\Yl s b f f':=fun c d h=>by simp only[aLb] at h;subst h;exact⟨_,rfl,.grd (D d)⟩
 have dn1:∀{s1 b1:Env} d,Syn s b s1 b1->some (Eff.done (s1.dst o.dst d))=some f->∃f',some (Eff.done (b1.dst o.dst d))=some f'/\Yl s b f f':=fun d hs h=>by
  simp only[aLb] at h;subst h;exact⟨_,rfl,.done (hs.trans ((hs.mo m).dst (fun i hi=>hs.eq (hds i hi)) d))⟩
 have gd1:∀{s1 b1:Env} c d,Syn s b s1 b1->some (Eff.grd c (s1.dst o.dst d))=some f->∃f',some (Eff.grd c (b1.dst o.dst d))=some f'/\Yl s b f f':=fun c d hs h=>by
  simp only[aLb] at h;subst h;exact⟨_,rfl,.grd (hs.trans ((hs.mo m).dst (fun i hi=>hs.eq (hds i hi)) d))⟩
 have root_of:∀{r:Root} {ver:Nat} {p:List Step} {y:Dv},s.val (.bor r ver p)=some y->s.root r=b.root r:=fun {r ver p y} hy=>by
  obtain⟨S,F,X,hd⟩:=QBi (show s.look r ver p=some y from hy)
  exact m.v hd
 have alF:∀(x:Operand) (st:List Step) (d:Desc),s.opd x ≠ .tup []->(match s.opd x with | .bor r ver p=>some (Desc.bor r ver (p++st)) | _=>x.slot.map fun t=>.bor (.s t) (s.s t).hv st)=some d->
   (match b.opd x with | .bor r ver p=>some (Desc.bor r ver (p++st)) | _=>x.slot.map fun t=>.bor (.s t) (b.s t).hv st)=some d:=by
  intro x st d hne h
  rw[(m.opd x).resolve_right hne]
  have fin:(x.slot.map fun t=>Desc.bor (.s t) (s.s t).hv st)=some d->(x.slot.map fun t=>Desc.bor (.s t) (b.s t).hv st)=some d:=fun h=>by
   obtain⟨t,ht,h⟩:=aLd.1 h
   rw[ht,Option.map_some,<-Qj4 m ht hne,h]
  generalize s.opd x=dd at h ⊢
  cases dd<;>first | exact h | exact fin h
 have alS:∀(x:Operand) (st:List Step) (d:Desc) {y:Dv},s.val (s.opd x)=some y->(match s.opd x with | .bor r ver p=>some (Desc.bor r (s.root r).ver (p++st)) | _=>x.slot.map fun t=>.bor (.s t) (s.s t).ver st)=some d->
   (match b.opd x with | .bor r ver p=>some (Desc.bor r (b.root r).ver (p++st)) | _=>x.slot.map fun t=>.bor (.s t) (b.s t).ver st)=some d:=by
  intro x st d y hy h
  have hne:s.opd x ≠ .tup []:=fun hh=>by rw[hh,Qhw] at hy;cases hy
  rw[(m.opd x).resolve_right hne]
  have fin:(x.slot.map fun t=>Desc.bor (.s t) (s.s t).ver st)=some d->(x.slot.map fun t=>Desc.bor (.s t) (b.s t).ver st)=some d:=fun h=>by
   obtain⟨t,ht,h⟩:=aLd.1 h
   rw[ht,Option.map_some,<-Qj4 m ht hne,h]
  generalize s.opd x=dd at h hy ⊢
  cases dd with
  | bor r ver p=>simp only at h ⊢;rw[<-root_of hy];exact h
  | _=>exact fin h
 have alL:∀(x:Operand) (st:List Step) (d:Desc) {y:Dv},s.val (s.opd x)=some y->(match s.opd x with | .bor r ver p=>some (Desc.loc r (s.root r).ver (p++st)) | _=>x.slot.map fun t=>.loc (.s t) (s.s t).ver st)=some d->
   (match b.opd x with | .bor r ver p=>some (Desc.loc r (b.root r).ver (p++st)) | _=>x.slot.map fun t=>.loc (.s t) (b.s t).ver st)=some d:=by
  intro x st d y hy h
  have hne:s.opd x ≠ .tup []:=fun hh=>by rw[hh,Qhw] at hy;cases hy
  rw[(m.opd x).resolve_right hne]
  have fin:(x.slot.map fun t=>Desc.loc (.s t) (s.s t).ver st)=some d->(x.slot.map fun t=>Desc.loc (.s t) (b.s t).ver st)=some d:=fun h=>by
   obtain⟨t,ht,h⟩:=aLd.1 h
   rw[ht,Option.map_some,<-Qj4 m ht hne,h]
  generalize s.opd x=dd at h hy ⊢
  cases dd with
  | bor r ver p=>simp only at h ⊢;rw[<-root_of hy];exact h
  | _=>exact fin h
 unfold Dx.Qq at h ⊢
 try simp only at h ⊢
 cases hop:o.op<;>rw[hop] at h<;>(try simp only at h ⊢)
 case move x=>
  have htp:∀l,(s.opd x).tupOf=some l->s.opd x ≠ .tup []:=fun l hl hh=>by rw[hh] at hl;cases hl
  split at h
  ·rename_i l t hl hsl
   have hx:b.opd x=s.opd x:=(m.opd x).resolve_right (htp l hl)
   rw[hx,hl]
   rw[hsl];(try simp only)
   have hs1:=m.setS (i:=t) (Qj4 m hsl (htp l hl)) .dead
   exact dn1 _ hs1 h
  rename_i hno
  have hno':∀l t,(b.opd x).tupOf=some l->x.slot=some t->False:=fun l t hl ht=>by
   rcases m.opd x with hx | hx
   ·rw[hx] at hl;exact hno l t hl ht
   ·rw[hx] at h;simp[Dx.Zj,bare] at h
  obtain⟨⟨s1,d⟩,h1,h⟩:=aLa.1 h
  split
  ·rename_i l t hl ht;exact (hno' l t hl ht).elim
  rcases m.opd x with hx | hx
  ·obtain⟨b1,hb1,hs1⟩:=m.Zj (fun i hi=>QcR hi) h1
   rw[hx,hb1,aLc];exact dn1 d hs1 h
  ·rw[hx] at h1;simp[Dx.Zj,bare] at h1
 case assign x=>
  rcases m.opd x with hx | hx
  ·rw[hx]
   generalize hdd:s.opd x=d at h ⊢
   cases d with
   | v S F X=>
    try simp only at h ⊢
    obtain⟨⟨s1,y⟩,h1,h⟩:=aLa.1 h
    obtain⟨b1,hb1,hs1⟩:=m.take (fun i hi=>(QcR hi).trans hdd) h1
    rw[hb1,aLc];exact dn1 _ hs1 h
   | bor r ver p=>
    try simp only at h ⊢
    obtain⟨⟨s1,y⟩,h1,h⟩:=aLa.1 h
    obtain⟨b1,hb1,hs1⟩:=m.take (fun i hi=>(QcR hi).trans hdd) h1
    rw[hb1,aLc];exact dn1 _ hs1 h
   | nil=>
    try simp only at h ⊢
    obtain⟨ti,hti,h⟩:=aLa.1 h
    obtain⟨⟨s1,y⟩,h1,h⟩:=aLa.1 h
    obtain⟨b1,hb1,hs1⟩:=m.take (fun i hi=>by cases hi) h1
    rw[hti,aLc,hb1,aLc];exact dn1 _ hs1 h
   | tup l=>simp[bare] at h
   | dead=>simp only[bare,aLB] at h ⊢;exact dn _ h
   | und=>simp only[bare,aLB] at h ⊢;exact dn _ h
   | loc r v p=>simp only[bare,aLB] at h ⊢;exact dn _ h
   | rp S x=>simp only[bare,aLB] at h ⊢;exact dn _ h
   | rpp S x=>simp only[bare,aLB] at h ⊢;exact dn _ h
   | clos j c=>simp only[bare,aLB] at h ⊢;exact dn _ h
  ·rw[hx] at h;simp[bare] at h
 case pick c x y=>
  obtain⟨c',hc,h⟩:=aLa.1 h
  obtain⟨d,hp,h⟩:=aLa.1 h
  rw[m.rdBoolo hc,aLc,m.Qn2 hp,aLc];exact dn d h
 case alloc t=>
  obtain⟨ti,hti,h⟩:=aLa.1 h
  obtain⟨i,hi,h⟩:=aLa.1 h
  rw[hti,aLc,hi,aLc]
  cases hz:ti.td.zok with
  | false=>simp[hz] at h
  | true=>
   simp only[hz,aLB] at h ⊢
   obtain⟨s1,h1,h⟩:=aLa.1 h
   obtain⟨b1,hb1,hs1⟩:=m.QbN (hd i hi).1 (hd i hi).2 h1
   rw[hb1,aLc]
   simp only[aLb] at h;subst h
   exact⟨_,rfl,.done hs1⟩
 case box t x=>
  obtain⟨ti,hti,h⟩:=aLa.1 h
  obtain⟨i,hi,h⟩:=aLa.1 h
  rw[hti,aLc,hi,aLc]
  have hrp:∀y,(s.opd x).rpOf=some y->b.opd x=s.opd x:=fun y hy=>by
   rcases m.opd x with hx | hx
   ·exact hx
   ·rw[hx] at hy;cases hy
  cases hro:(s.opd x).rpOf with
  | some y=>
   rw[hrp y hro,hro]
   rw[hro] at h
   simp only at h ⊢
   have h':some (Eff.done (s.dst o.dst (.rpp y.1 y.2)))=some f:=by rw[hi];exact h
   have:=dn _ h'
   rw[hi] at this;exact this
  | none=>
  rw[hro] at h
  simp only at h
  obtain⟨⟨s1,d⟩,h1,h⟩:=aLa.1 h
  obtain⟨s2,h2,h⟩:=aLa.1 h
  obtain⟨b1,hb1,hs1⟩:=m.valD h1
  obtain⟨b2,hb2,hs2⟩:=(hs1.mo m).QbN (hs1.eq (hd i hi).1) (hs1.eq (hd i hi).2) h2
  have hbo:(b.opd x).rpOf=none:=by
   rcases m.opd x with hx | hx
   ·rw[hx];exact hro
   ·exfalso
    unfold Dx.valD at h1
    rw[hx] at h1
    simp[Qkm] at h1
  rw[hbo]
  simp only
  rw[hb1,aLc]
  simp only[hb2,aLc]
  simp only[aLb] at h;subst h
  refine⟨_,rfl,.done ?_⟩
  have h12:=hs1.trans hs2
  have m2:=h12.mo m
  have hbi:s2.root (.b i)=b2.root (.b i):=h12.eq (hd i hi).2
  unfold leave
  rcases m.opd x with hx | hx
  ·rw[hx]
   cases hsl:x.slot with
   | none=>exact h12
   | some tt=>
    generalize hdd:s.opd x=dd
    cases dd with
    | v S F X=>
     cases d with
     | v S2 F2 X2=>
      simp only
      cases hc:F.isz || Nat.beq tt i with
      | true=>exact h12
      | false=>
       simp only[aLC]
       have he:s.root (.s tt)=b.root (.s tt):=Qj4 m hsl (by rw[hdd];simp)
       rw[show s2.b i=b2.b i from hbi]
       exact h12.trans (m2.setS (h12.eq he) _)
     | _=>exact h12
    | _=>cases d<;>exact h12
  ·exfalso
   unfold Dx.valD at h1
   rw[hx] at h1
   simp[Qkm] at h1
 case build t ps=>
  obtain⟨ti,hti,h⟩:=aLa.1 h
  rw[hti,aLc]
  split at h
  ·rename_i fs htd
   cases hc:Qe7 ps.toList&&ps.toList.all (fun p=>Nat.blt p.1 fs.length) with
   | false=>rw[hc] at h;cases h
   | true=>
    simp only[hc,aLB] at h ⊢
    obtain⟨⟨s1,l⟩,h1,h⟩:=aLa.1 h
    obtain⟨y,hy,h⟩:=aLa.1 h
    obtain⟨b1,hb1,hs1⟩:=m.YP _ _ h1
    rw[hb1,aLc]
    simp only[hy,aLc];exact dn1 _ hs1 h
  ·cases h
 case buildSlice t n ps=>
  obtain⟨ti,hti,h⟩:=aLa.1 h
  rw[hti,aLc]
  split at h
  ·rename_i te S htd hsh
   (try simp only[htd,hsh] at h);(try simp only[htd,hsh])
   obtain⟨tj,htj,h⟩:=aLa.1 h
   rw[htj,aLc]
   cases hc:tj.td.zok&&Qe7 ps.toList&&ps.toList.all (fun p=>Nat.blt p.1 n)&&Nat.ble (n * S.size) 16777216 with
   | false=>rw[hc] at h;cases h
   | true=>
    simp only[hc,aLB] at h ⊢
    obtain⟨⟨s1,l⟩,h1,h⟩:=aLa.1 h
    obtain⟨b1,hb1,hs1⟩:=m.Qfn _ _ h1
    rw[hb1,aLc]
    try simp only at h ⊢
    cases hcc:l.all (fun u=>Qr S u.1 (l.foldr (fun u f=>Fl.meet u.1 f) (Fl.full S))) with
    | false=>rw[hcc] at h;cases h
    | true=>simp only[hcc,aLB] at h ⊢;exact dn1 _ hs1 h
  ·cases h
 case load t x=>
  obtain⟨ti,hti,h⟩:=aLa.1 h
  rw[hti,aLc]
  rcases m.opd x with hx | hx
  ·rw[hx]
   generalize hdd:s.opd x=d at h ⊢
   cases d with
   | loc r ver p=>
    try simp only at h ⊢
    obtain⟨⟨s1,d1⟩,h1,h⟩:=aLa.1 h
    obtain⟨b1,hb1,hs1⟩:=m.QnL h1
    rw[hb1,aLc];exact dn1 _ hs1 h
   | rp S x=>
    try simp only at h ⊢
    cases hc:decide (S=ti.sh) with
    | false=>rw[hc] at h;cases h
    | true=>simp only[hc,aLB] at h ⊢;exact dn _ h
   | rpp S x=>
    try simp only at h ⊢
    cases hc:Q1 ti.sh with
    | true=>rw[hc] at h;cases h
    | false=>simp only[hc,aLC] at h ⊢;exact dn _ h
   | _=>cases h
  ·rw[hx] at h;cases h
 case store t x y=>
  obtain⟨ti,hti,h⟩:=aLa.1 h
  obtain⟨⟨s1,d1⟩,h1,h⟩:=aLa.1 h
  obtain⟨b1,hb1,hs1⟩:=m.valD h1
  rw[hti,aLc,hb1,aLc]
  try simp only at h ⊢
  rcases (hs1.mo m).opd x with hx | hx
  ·rw[hx]
   generalize hdd:s1.opd x=d at h ⊢
   cases d with
   | loc r ver p=>
    cases d1 with
    | v S f y'=>
     try simp only at h ⊢
     rcases (hs1.mo m).cell r with hr | hr
     ·rw[<-hr]
      cases hv:Nat.beq ((s1.root r).stamp p) ver with
      | false=>rw[hv] at h;cases h
      | true=>
       simp only[hv,aLB] at h ⊢
       split at h
       ·rename_i S2 F2 X2 hd2
        obtain⟨z,hz,h⟩:=aLa.1 h
        simp only[hz,aLc]
        have h4:=(hs1.mo m).setR hd2 (QE p) (.v S2 z.1 z.2)
        cases hh:QgJ S2 F2 p with
        | none=>rw[hh] at h;exact dn1 _ (hs1.trans h4) h
        | some u=>rw[hh] at h;exact gd1 _ _ (hs1.trans h4) h
       ·cases h
     ·rw[hr] at h;cases hv:Nat.beq ((s1.root r).stamp p) ver<;>simp[hv] at h
    | _=>cases h
   | _=>cases h
  ·rw[hx] at h;cases h
 case nilCheck x=>
  rcases m.opd x with hx | hx
  ·rw[hx]
   generalize hdd:s.opd x=d at h ⊢
   cases d<;>simp only at h ⊢<;>first | exact dn _ h | cases h
  ·rw[hx] at h;cases h
 case binOp op t x y ty=>exact m.binE hds h
 case unOp op t x=>
  cases hr:s.rd (s.opd x) with
  | none=>rw[hr] at h;simp at h
  | some u=>
   rw[hr] at h;rw[m.rdo hr]
   split at h
   ·rename_i q h1;simp only[aLb] at h1;subst h1;exact dn _ h
   ·rename_i k q h1;simp only[aLb] at h1;subst h1;exact dn _ h
   ·cases h
 case convert st t x=>
  unfold Dx.QAD at h ⊢
  obtain⟨si,hsi,h⟩:=aLa.1 h
  obtain⟨ti,hti,h⟩:=aLa.1 h
  obtain⟨v,hv,h⟩:=aLa.1 h
  rw[hsi,aLc,hti,aLc,m.rdo hv,aLc]
  cases hc:decide (v.1=si.sh) with
  | false=>rw[hc] at h;cases h
  | true=>
   simp only[hc,aLB] at h ⊢
   split at h<;>rename_i h1<;>(try simp only[h1] at h ⊢)<;>first | exact dn _ h | cases h
 case makeFunc fn fi cs=>
  cases fn with
  | func j=>
   try simp only at h ⊢
   cases hc:fi.toList.isEmpty&&(cs.toList.map s.opd).all Zv with
   | false=>rw[hc] at h;cases h
   | true=>
    have hmap:cs.toList.map b.opd=cs.toList.map s.opd:=by
     apply List.map_congr_left
     intro x hx
     rcases m.opd x with h1 | h1
     ·exact h1
     ·simp only[aLg,List.all_eq_true,List.mem_map] at hc
      have:=hc.2 _ ⟨x,hx,rfl⟩
      rw[h1] at this;simp[Zv] at this
    rw[hmap]
    simp only[hc,aLB] at h ⊢;exact dn _ h
  | _=>cases h
 case makeSlice t l c=>
  obtain⟨ti,hti,h⟩:=aLa.1 h
  rw[hti,aLc]
  split at h
  ·rename_i te S htd hsh
   (try simp only[htd,hsh] at h);(try simp only[htd,hsh])
   obtain⟨tj,htj,h⟩:=aLa.1 h
   obtain⟨q,hq,h⟩:=aLa.1 h
   obtain⟨u,hu,h⟩:=aLa.1 h
   rw[htj,aLc,m.rdInto hq,aLc,m.rdInto hu,aLc]
   cases hc:tj.td.zok&&Qrs l c with
   | false=>rw[hc] at h;cases h
   | true=>simp only[hc,aLB] at h ⊢;exact gd _ _ h
  ·cases h
 case slice t x lo hi mx=>
  cases mx with
  | some mx=>cases h
  | none=>
   try simp only at h ⊢
   obtain⟨ti,hti,h⟩:=aLa.1 h
   rw[hti,aLc]
   unfold Dx.QyL at h ⊢
   obtain⟨l,hl,h⟩:=aLa.1 h
   obtain⟨y,hy,h⟩:=aLa.1 h
   rw[m.bound hl,aLc,m.valo hy,aLc]
   split at h
   ·rename_i f str
    try simp only at h ⊢
    cases hc:decide (ti.sh=.str)&&!f.isx with
    | false=>rw[hc] at h;cases h
    | true=>
     simp only[hc,aLB] at h ⊢
     obtain⟨u,hu,h⟩:=aLa.1 h
     rw[m.bound hu,aLc];exact gd _ _ h
   ·rename_i S f xs
    try simp only at h ⊢
    cases hc:decide (ti.sh=.list S)&&f.isl with
    | false=>rw[hc] at h;cases h
    | true=>
     simp only[hc,aLB] at h ⊢
     obtain⟨u,hu,h⟩:=aLa.1 h
     obtain⟨d,hdd,h⟩:=aLa.1 h
     rw[m.bound hu,aLc]
     have hne:s.opd x ≠ .tup []:=fun hh=>by rw[hh,Qhw] at hy;cases hy
     cases hz:f.isz with
     | true=>simp only[hz,aLB,aLb] at hdd ⊢;subst hdd;exact gd _ _ h
     | false=>
      simp only[hz,aLC] at hdd ⊢
      obtain⟨f',hf',hs'⟩:=gd _ _ h
      exact⟨f',aLa.2 ⟨d,alS x _ d hy hdd,hf'⟩,hs'⟩
   ·cases h
 case fieldAddr t x n=>
  obtain⟨ti,hti,h⟩:=aLa.1 h
  rw[hti,aLc]
  split at h
  ·rename_i fs htd
   (try simp only[htd] at h);(try simp only[htd])
   cases hc:Nat.blt n fs.length with
   | false=>rw[hc] at h;cases h
   | true=>
    simp only[hc,aLB] at h ⊢
    rcases m.opd x with hx | hx
    ·rw[hx]
     generalize hdd:s.opd x=d at h ⊢
     cases d with
     | loc r ver p=>
      try simp only at h ⊢
      obtain⟨S,hS,h⟩:=aLa.1 h
      rw[m.placeSh hS,aLc]
      cases hcc:decide (S=ti.sh) with
      | false=>rw[hcc] at h;cases h
      | true=>simp only[hcc,aLB] at h ⊢;exact dn _ h
     | rp S y=>
      try simp only at h ⊢
      cases hcc:decide (S=ti.sh) with
      | false=>rw[hcc] at h;cases h
      | true=>
       simp only[hcc,aLB] at h ⊢
       obtain⟨z,hz,h⟩:=aLa.1 h
       rw[hz,aLc];exact dn _ h
     | _=>cases h
    ·rw[hx] at h;cases h
  ·cases h
 case field t x n=>
  obtain⟨ti,hti,h⟩:=aLa.1 h
  rw[hti,aLc]
  split at h
  ·rename_i fs htd
   (try simp only[htd] at h);(try simp only[htd])
   obtain⟨y,hy,h⟩:=aLa.1 h
   rw[m.valo hy,aLc]
   cases hc:Nat.blt n fs.length&&decide (y.sh=ti.sh)&&okS y.sh y.fl with
   | false=>rw[hc] at h;cases h
   | true=>
    simp only[hc,aLB] at h ⊢
    obtain⟨z,hz,h⟩:=aLa.1 h
    rw[hz,aLc]
    cases hzz:z.fl.isz with
    | true=>simp only[hzz,aLB] at h ⊢;exact dn _ h
    | false=>
     simp only[hzz,aLC] at h ⊢
     obtain⟨d,hdd,h⟩:=aLa.1 h
     have hne:s.opd x ≠ .tup []:=fun hh=>by rw[hh,Qhw] at hy;cases hy
     obtain⟨f',hf',hs'⟩:=dn _ h
     exact⟨f',aLa.2 ⟨d,alF x _ d hne hdd,hf'⟩,hs'⟩
  ·cases h
 case indexAddr t x i=>
  obtain⟨ti,hti,h⟩:=aLa.1 h
  obtain⟨q,hq,h⟩:=aLa.1 h
  obtain⟨y,hy,h⟩:=aLa.1 h
  rw[hti,aLc,m.rdInto hq,aLc]
  try simp only at h hy ⊢
  rw[m.valo hy,aLc]
  split at h
  ·rename_i S f xs
   try simp only at h ⊢
   cases hc:decide (ti.sh=.list S)&&f.islh with
   | false=>rw[hc] at h;cases h
   | true=>
    simp only[hc,aLB] at h ⊢
    obtain⟨d,hdd,h⟩:=aLa.1 h
    have hne:s.opd x ≠ .tup []:=fun hh=>by rw[hh,Qhw] at hy;cases hy
    cases hz:f.isz with
    | true=>simp only[hz,aLB,aLb] at hdd ⊢;subst hdd;exact gd _ _ h
    | false=>
     simp only[hz,aLC] at hdd ⊢
     obtain⟨f',hf',hs'⟩:=gd _ _ h
     exact⟨f',aLa.2 ⟨d,alL x _ d hy hdd,hf'⟩,hs'⟩
  ·cases h
 case index t x i=>
  obtain⟨ti,hti,h⟩:=aLa.1 h
  obtain⟨q,hq,h⟩:=aLa.1 h
  rw[hti,aLc,m.rdInto hq,aLc]
  try simp only at h ⊢
  cases hr:s.rd (s.opd x) with
  | none=>rw[hr] at h;simp at h
  | some u=>
   rw[hr] at h;rw[m.rdo hr]
   split at h
   ·rename_i str h1 h2;simp only[aLb] at h2;subst h2;exact gd _ _ h
   ·cases h
 case extract x i=>
  rcases m.opd x with hx | hx
  ·rw[hx]
   split at h
   ·rename_i l t hl ht
    have hne:s.opd x ≠ .tup []:=fun hh=>by rw[hh] at hl;simp only[Desc.tup.injEq] at hl;subst hl;simp at h
    have he:=Qj4 m ht hne
    try simp only[hl,ht]
    split at h
    ·rename_i y hy
     try simp only[hy] at h ⊢
     cases hz:y.fl.isz with
     | true=>simp only[hz,aLB] at h ⊢;exact dn _ h
     | false=>
      simp only[hz,aLC] at h ⊢
      exact dn1 _ (m.setS (i:=t) he _) h
    ·cases h
   ·cases h
  ·rw[hx] at h;split at h
   ·rename_i hl ht;simp only[Desc.tup.injEq] at hl;subst hl;simp at h
   ·cases h
 case call c=>
  split at h
  ·rename_i x hcal hargs
   try simp only[hcal,hargs]
   obtain⟨ti,hti,h⟩:=aLa.1 h
   rw[hti,aLc]
   rcases m.opd x with hx | hx
   ·rw[hx]
    generalize hdd:s.opd x=d at h ⊢
    have vv:((s.val d).bind fun y=>bif decide (y.sh=ti.sh)&&okS y.sh y.fl then match y with
       | ⟨.str,_,str⟩=>some (Eff.done (s.dst o.dst (.v (.int .i64) .z (List.length str:Int))))
       | ⟨.list _,_,xs⟩=>some (Eff.done (s.dst o.dst (.v (.int .i64) .z (List.length xs:Int))))
       | _=>none
      else none)=some f->∃f',((b.val d).bind fun y=>bif decide (y.sh=ti.sh)&&okS y.sh y.fl then match y with
       | ⟨.str,_,str⟩=>some (Eff.done (b.dst o.dst (.v (.int .i64) .z (List.length str:Int))))
       | ⟨.list _,_,xs⟩=>some (Eff.done (b.dst o.dst (.v (.int .i64) .z (List.length xs:Int))))
       | _=>none
      else none)=some f'/\Yl s b f f':=by
     intro h
     obtain⟨y,hy,h⟩:=aLa.1 h
     rw[m.val hy,aLc]
     cases hc:decide (y.sh=ti.sh)&&okS y.sh y.fl with
     | false=>rw[hc] at h;cases h
     | true=>
      simp only[hc,aLB] at h ⊢
      split at h
      ·exact dn _ h
      ·exact dn _ h
      ·cases h
    cases d with
    | nil=>
     try simp only at h ⊢
     cases hc:Qud ti.sh with
     | false=>rw[hc] at h;cases h
     | true=>simp only[hc,aLB] at h ⊢;exact dn _ h
    | _=>exact vv h
   ·rw[hx] at h;simp[Qhw] at h
  ·rename_i x y hcal hargs
   try simp only[hcal,hargs]
   obtain⟨q,hq,h⟩:=aLa.1 h
   obtain⟨u,hu,h⟩:=aLa.1 h
   rw[m.rdInto hq,aLc]
   try simp only at h hu ⊢
   rw[m.rdInto hu,aLc]
   by_cases hk:q.1=u.1
   ·simp only[hk,if_true] at h ⊢;exact dn _ h
   ·simp[hk] at h
  ·rename_i x hcal hargs
   try simp only[hcal,hargs]
   obtain⟨t0,ht0,h⟩:=aLa.1 h
   rw[ht0,aLc]
   exact m.Qky hds h
  ·rename_i x y hcal hargs
   try simp only[hcal,hargs]
   obtain⟨t0,ht0,h⟩:=aLa.1 h
   obtain⟨t1,ht1,h⟩:=aLa.1 h
   rw[ht0,aLc,ht1,aLc]
   exact m.QiD hds h
  ·rename_i _ as fo hcal
   try simp only[hcal]
   rcases m.opd fo with hx | hx
   ·rw[hx]
    generalize hdd:s.opd fo=d at h ⊢
    have vv:Dx.QhK s o.dst d c.args.toList=some f->∃f',Dx.QhK b o.dst d c.args.toList=some f'/\Yl s b f f':=fun h=>m.QhK hds h
    cases d with
    | clos j caps=>
     cases caps with
     | nil=>
      simp only at h ⊢
      cases hj:assoc j C.nps with
      | none=>rw[hj] at h;exact m.QkQ hds h
      | some N=>rw[hj] at h;exact m.newE hd h
     | cons q l=>exact vv h
    | _=>exact vv h
   ·rw[hx] at h;simp[Dx.QhK] at h
  ·cases h
 all_goals cases h
end Go.Dx
namespace Go.Dx
theorem Qyx {l l':List Cel} (hl:l.length=l'.length) (h:∀i,l.getD i Cel.dead=l'.getD i Cel.dead):l=l':=by
 apply List.ext_getElem hl
 intro i h1 h2
 have:=h i
 simpa [aLk,aLf h1,aLf h2] using this
theorem Qrx {e e':Env} (h1:e.sl.length=e'.sl.length) (h2:e.bl.length=e'.bl.length) (h:∀r,e.root r=e'.root r):e=e':=by
 cases e with
 | mk sl bl=>
  cases e' with
  | mk sl' bl'=>
   have hs:sl=sl':=Qyx h1 (fun i=>h (.s i))
   have hb:bl=bl':=Qyx h2 (fun i=>h (.b i))
   rw[hs,hb]
theorem QE9 {α:Type} (a:α) (l:List α) (d:α):(a::l).getD 0 d=a:=rfl
theorem QE7 {α:Type} (a:α) (l:List α) (i:Nat) (d:α):(a::l).getD (i+1) d=l.getD i d:=rfl
theorem QFg {α:Type} (i:Nat) (d:α):([]:List α).getD i d=d:=rfl
def forb:Cel:=⟨0,.tup [],0,0⟩
theorem Y5:∀(m:List Bool) (l:List Cel),(QgH m l).length=l.length
 | [],l=>rfl
 | b::m,[]=>rfl
 | b::m,c::l=>by simp[QgH,Y5 m l]
theorem Qok:∀(m:List Bool) (l:List Cel) (i:Nat),(QgH m l).getD i Cel.dead=l.getD i Cel.dead\/((QgH m l).getD i Cel.dead=forb/\m.getD i false=false)
 | [],l,i=>.inl rfl
 | b::m,[],i=>.inl rfl
 | b::m,c::l,0=>by
  cases b with
  | true=>exact .inl rfl
  | false=>exact .inr ⟨rfl,rfl⟩
 | b::m,c::l,i+1=>Qok m l i
theorem QqL:∀(m:List Bool) (l l':List Cel),l.length=l'.length->m.length=l.length->(∀i,m.getD i false=true->l.getD i Cel.dead=l'.getD i Cel.dead)->QgH m l=QgH m l'
 | [],[],[],_,_,_=>rfl
 | b::m,c::l,c'::l',h1,h2,h=>by
  simp only[aLh,Nat.add_right_cancel_iff] at h1 h2
  simp only[QgH]
  rw[QqL m l l' h1 h2 (fun i hi=>h (i+1) hi)]
  cases b with
  | true=>rw[show c=c' from h 0 rfl]
  | false=>rfl
 | [],[],_::_,h1,_,_=>by simp at h1
 | [],_::_,_,_,h2,_=>by simp at h2
 | _::_,[],_,_,h2,_=>by simp at h2
 | _::_,_::_,[],h1,_,_=>by simp at h1
theorem QjU (T:Msk) (e:Env) (r:Root):(Qo T e).root r=e.root r\/((Qo T e).root r=forb/\T.has r=false):=by
 cases r with
 | s i=>exact Qok T.s e.sl i
 | b i=>exact Qok T.b e.bl i
theorem Qog (T:Msk) (e:Env):Mo (Qo T e) e:=⟨Y5 _ _,Y5 _ _,fun r=>(QjU T e r).imp id (fun h=>by rw[h.1];rfl)⟩
theorem Qoc (l:List Nat):∀n i,(mkMask l i n).length=n
 | 0,i=>rfl
 | n+1,i=>by simp[mkMask,Qoc l n]
structure Msk.fits (T:Msk) (e:Env):Prop where
 s:T.s.length=e.sl.length
 b:T.b.length=e.bl.length
theorem Qn4 (ops:List Oper) (e:Env) (o:Oper):(touch ops e o).fits e:=⟨Qoc _ _ _,Qoc _ _ _⟩
theorem QyY {T:Msk} {e e':Env} (hf:T.fits e) (h1:e.sl.length=e'.sl.length) (h2:e.bl.length=e'.bl.length) (h:∀r,T.has r=true->e.root r=e'.root r):Qo T e=Qo T e':=by
 unfold Qo
 rw[QqL T.s e.sl e'.sl h1 hf.s (fun i hi=>h (.s i) hi),QqL T.b e.bl e'.bl h2 hf.b (fun i hi=>h (.b i) hi)]
theorem QsD:∀(l l':List Cel) (i:Nat),l.length=l'.length->(chgL l l').getD i false = !(Nat.beq (l.getD i Cel.dead).ver (l'.getD i Cel.dead).ver&&Qgy (l.getD i Cel.dead).d (l'.getD i Cel.dead).d)
 | [],[],i,_=>by simp[chgL,Cel.dead,Qgy]
 | c::l,d::l',0,_=>rfl
 | c::l,d::l',i+1,h=>QsD l l' i (by simpa using h)
 | [],_::_,_,h=>by simp at h
 | _::_,[],_,h=>by simp at h
theorem Qyy {s s':Env} (h1:s.sl.length=s'.sl.length) (h2:s.bl.length=s'.bl.length) (r:Root):(chgE s s').has r = !(Nat.beq (s.root r).ver (s'.root r).ver&&Qgy (s.root r).d (s'.root r).d):=by
 cases r with
 | s i=>exact QsD _ _ i h1
 | b i=>exact QsD _ _ i h2
theorem QsL:∀(m:List Bool) (l l':List Cel),(mrgL m l l').length=l'.length
 | b::m,c::l,d::l'=>by simp[mrgL,QsL m l l']
 | [],l,l'=>by cases l<;>cases l'<;>rfl
 | b::m,[],l'=>by cases l'<;>rfl
 | b::m,c::l,[]=>rfl
theorem QsJ:∀(m:List Bool) (l l':List Cel) (i:Nat),l.length=l'.length->(mrgL m l l').getD i Cel.dead=if m.getD i false=true then l.getD i Cel.dead else l'.getD i Cel.dead
 | b::m,c::l,d::l',0,_=>by cases b<;>rfl
 | b::m,c::l,d::l',i+1,h=>QsJ m l l' i (by simpa using h)
 | [],l,l',i,_=>by cases l<;>cases l'<;>simp[mrgL]
 | b::m,[],[],i,_=>by simp[mrgL]
 | b::m,[],_::_,i,h=>by simp at h
 | b::m,c::l,[],i,h=>by simp at h
theorem Qiu {W:Msk} {s e:Env} (h1:s.sl.length=e.sl.length) (h2:s.bl.length=e.bl.length) (r:Root):(mrgE W s e).root r=if W.has r=true then s.root r else e.root r:=by
 cases r with
 | s i=>exact QsJ _ _ _ i h1
 | b i=>exact QsJ _ _ _ i h2
theorem Jz {W:Msk} {s e:Env}:(mrgE W s e).sl.length=e.sl.length/\(mrgE W s e).bl.length=e.bl.length:=⟨QsL _ _ _,QsL _ _ _⟩
theorem QqT:∀(a b:List Bool),QjN a b=true->∀i,a.getD i false=true->b.getD i false=false
 | x::a,y::b,h,0,hx=>by
  simp only[QjN,aLg,Bool.not_eq_true',Bool.and_eq_false_iff] at h
  have hx:x=true:=hx
  show y=false
  rw[hx] at h
  rcases h.1 with h | h
  ·cases h
  ·exact h
 | x::a,y::b,h,i+1,hx=>by
  simp only[QjN,aLg] at h
  exact QqT a b h.2 i hx
 | [],b,_,i,hx=>by simp at hx
 | x::a,[],_,i,hx=>rfl
theorem Qs2:∀(a:List Bool) (i:Nat),(Jq a).testBit i=a.getD i false
 | [],i=>by simp[Jq]
 | b::l,0=>by
  cases b
  ·show Nat.testBit (2 * Jq l) 0=false
   rw[Nat.testBit_zero];simp
  ·show Nat.testBit (2 * Jq l+1) 0=true
   rw[Nat.testBit_zero];simp
 | b::l,i+1=>by
  have ih:=Qs2 l i
  cases b
  ·show Nat.testBit (2 * Jq l) (i+1)=l.getD i false
   rw[Nat.testBit_succ,show 2 * Jq l / 2=Jq l by omega,ih]
  ·show Nat.testBit (2 * Jq l+1) (i+1)=l.getD i false
   rw[Nat.testBit_succ,show (2 * Jq l+1) / 2=Jq l by omega,ih]
theorem QyI:∀(a b:List Bool),(∀i,a.getD i false=true->b.getD i false=false)->QjN a b=true
 | x::a,y::b,h=>by
  simp only[QjN,aLg,Bool.not_eq_true',Bool.and_eq_false_iff]
  refine⟨?_,QyI a b fun i hi=>h (i+1) hi⟩
  cases x with
  | false=>exact .inl rfl
  | true=>exact .inr (h 0 rfl)
 | [],b,_=>by cases b<;>rfl
 | x::a,[],_=>rfl
theorem Qtl {a b:Msk} (h:Qk4 a b=true):a.disj b=true:=by
 simp only[Qk4,aLg] at h
 have one:∀(x y:List Bool),Nat.beq (Nat.land (Jq x) (Jq y)) 0=true->QjN x y=true:=fun x y hh=>by
  refine QyI x y fun i hi=>?_
  have h0:=aLw hh
  have:((Jq x)&&& (Jq y)).testBit i=false:=by
   rw[show (Jq x)&&& (Jq y)=0 from h0];simp
  rw[Nat.testBit_and,Qs2,Qs2,hi] at this
  simpa using this
 simp only[Msk.disj,aLg]
 exact⟨one _ _ h.1,one _ _ h.2⟩
theorem Qln (n j:Nat):bitN n j=n.testBit j:=by
 have:bitN n j=Nat.beq ((n >>> j) % 2) 1:=by
  show Nat.beq (1&&& (n >>> j)) 1=_
  rw[Nat.one_and_eq_mod_two]
 rw[this]
 have h2:n.testBit j=decide ((n >>> j) % 2=1):=by
  simp[Nat.testBit,Nat.one_and_eq_mod_two]
 rw[h2]
 cases hb:Nat.beq ((n >>> j) % 2) 1 with
 | true=>have:=aLw hb;simp[this]
 | false=>have:=Nat.ne_of_beq_eq_false hb;simp[this]
theorem QD9 {trs:List Tr} {o:Oper} {j:Nat} (h:bitN (J1 trs o) j=true):∃d,d ∈ Zs o/\(j=d\/bitN (((trs[d]?).map (·.anc)).getD 0) j=true):=by
 have key:∀l:List Nat,bitN (ancL trs l) j=true->∃d,d ∈ l/\(j=d\/bitN (((trs[d]?).map (·.anc)).getD 0) j=true):=by
  intro l
  induction l with
  | nil=>intro h;rw[Qln] at h;simp[ancL] at h
  | cons d l ih=>
   intro h
   rw[Qln] at h
   have h:(((2 ^ d) ||| (((trs[d]?).map (·.anc)).getD 0)) ||| (ancL trs l)).testBit j=true:=h
   rw[Nat.testBit_or,Nat.testBit_or,Bool.or_eq_true,Bool.or_eq_true] at h
   rcases h with (h | h) | h
   ·rw[Nat.testBit_two_pow] at h
    exact⟨d,by simp,.inl (by simpa using h:d=j).symm⟩
   ·exact⟨d,by simp,.inr (by rw[Qln];exact h)⟩
   ·obtain⟨d',h1,h2⟩:=ih (by rw[Qln];exact h)
    exact⟨d',by simp[h1],h2⟩
 exact key _ h
theorem Qx6 {a b:Msk} (h:a.disj b=true) {r:Root} (hr:a.has r=true):b.has r=false:=by
 simp only[Msk.disj,aLg] at h
 cases r with
 | s i=>exact QqT _ _ h.1 i hr
 | b i=>exact QqT _ _ h.2 i hr
theorem Qoa:∀(a b:List Bool),subL a b=true->∀i,a.getD i false=true->b.getD i false=true
 | x::a,y::b,h,0,hx=>by
  simp only[subL,aLg,Bool.or_eq_true,Bool.not_eq_true'] at h
  have hx:x=true:=hx
  show y=true
  rcases h.1 with h | h
  ·rw[hx] at h;cases h
  ·exact h
 | x::a,y::b,h,i+1,hx=>by
  simp only[subL,aLg] at h
  exact Qoa a b h.2 i hx
 | x::a,[],h,0,hx=>by
  simp only[subL,aLg,Bool.not_eq_true'] at h
  have hx:x=true:=hx
  rw[hx] at h;cases h.1
 | x::a,[],h,i+1,hx=>by
  simp only[subL,aLg] at h
  have:=Qoa a [] h.2 i hx
  simp at this
 | [],b,_,i,hx=>by simp at hx
theorem QEj {a b:Msk} (h:a.sub b=true) {r:Root} (hr:a.has r=true):b.has r=true:=by
 simp only[Msk.sub,aLg] at h
 cases r with
 | s i=>exact Qoa _ _ h.1 i hr
 | b i=>exact Qoa _ _ h.2 i hr
theorem QxL {c d:Cel} (hv:d.ver=c.ver) (hd:Qn5 c.d d.d/\d.id=c.id/\d.hv=c.hv) (hf:Qgy c.d d.d=true):d=c:=by
 obtain⟨cv,cd,ci,ch⟩:=c
 obtain⟨dv,dd,di,dh⟩:=d
 obtain⟨hd,hi,hh⟩:=hd
 simp only at hv hd hf hi hh
 subst hv hi hh
 rcases hd with rfl | ⟨S,F,F',X,rfl,rfl⟩
 ·rfl
 ·simp only[Qgy,aLg,aLF] at hf
  obtain⟨_,hf⟩:=hf
  subst hf;rfl
theorem QDN {s s':Env} (h:Za s s') {r:Root} (hr:(chgE s s').has r=false):s'.root r=s.root r:=by
 rw[Qyy h.sl.symm h.bl.symm] at hr
 simp only[Bool.not_eq_false',aLg] at hr
 have hv:(s'.root r).ver=(s.root r).ver:=(aLw hr.1).symm
 exact QxL hv ((h.le r).2 hv) hr.2
theorem Syn.merge {s b s' b':Env} (m:Mo s b) (h:Syn s b s' b') (hs:Za s s'):b'=mrgE (chgE s s') s' b:=by
 have l1:s'.sl.length=b.sl.length:=h.sl.trans m.sl
 have l2:s'.bl.length=b.bl.length:=h.bl.trans m.bl
 apply Qrx
 ·rw[h.le.sl,Jz.1]
 ·rw[h.le.bl,Jz.2]
 ·intro r
  rw[Qiu l1 l2]
  cases hc:(chgE s s').has r with
  | true=>
   rw[if_pos rfl]
   rcases h.cell r with ⟨h1,h1'⟩ | ⟨_,h2⟩
   ·rcases m.cell r with hm | hm
    ·rw[h1',h1,hm]
    ·rw[Qyy hs.sl.symm hs.bl.symm,h1,hm] at hc
     simp[Qgy] at hc
   ·exact h2.symm
  | false=>
   rw[if_neg (by simp)]
   rcases h.cell r with ⟨_,h1⟩ | ⟨h1,h2⟩
   ·exact h1
   ·rw[<-h2,QDN hs hc];exact h1
variable {C:Ctx}
theorem Yl.gives {s b:Env} {f f':Eff} (h:Yl s b f f') {s':Env} (hg:f.gives s'):∃b',f'.gives b'/\Syn s b s' b':=by
 cases h with
 | done h=>obtain rfl:s'=_:=hg;exact⟨_,rfl,h⟩
 | grd h=>obtain⟨rfl,rfl⟩:=hg;exact⟨_,⟨rfl,rfl⟩,h⟩
 | call h=>obtain⟨y,hm,hy⟩:=hg;obtain⟨b',hb',hs⟩:=h y s' hy;exact⟨b',⟨y,hm,hb'⟩,hs⟩
theorem Qd2 {frz:Bool} {o:Oper} {e e':Env} {f:Eff} (h:Qq C frz e o=some f) (hg:f.gives e'):Za e e':=by
 obtain⟨f',hf',hs⟩:=(Mo.refl e).Qq (fun _ _=>⟨rfl,rfl⟩) h
 rw[h] at hf'
 simp only[aLb] at hf'
 subst hf'
 cases hs with
 | done h=>obtain rfl:e'=_:=hg;exact h.le
 | grd h=>obtain⟨_,rfl⟩:=hg;exact h.le
 | call h=>
  obtain⟨y,hm,hy⟩:=hg
  obtain⟨b',hb',hs⟩:=h y e' hy
  rw[hy] at hb'
  simp only[aLb] at hb'
  subst hb';exact hs.le
theorem Qkl (e:Env) (o:Option Tmp) (d:Desc):Za e (e.dst o d):=by cases o with | none=>exact .refl e | some i=>exact .setS e i d
theorem Qom {frz:Bool} {T:Msk} {o:Oper} {e e0:Env} (hf:T.fits e0) (h1:e0.sl.length=e.sl.length) (h2:e0.bl.length=e.bl.length) (ha:∀r,T.has r=true->e0.root r=e.root r) (hd:Qcq T e0 o=true)
  {f:Eff} {s':Env} (hs:Qq C frz (Qo T e0) o=some f) (hg:f.gives s'):∃f',Qq C frz e o=some f'/\f'.gives (mrgE (chgE (Qo T e0) s') s' e):=by
 have he:=QyY hf h1 h2 ha
 rw[he] at hs ⊢
 have hD:∀i,o.dst=some i->(Qo T e).root (.s i)=e.root (.s i)/\(Qo T e).root (.b i)=e.root (.b i):=by
  intro i hi
  simp only[Qcq,hi,aLg,Bool.or_eq_true,Nat.ble_eq] at hd
  constructor
  ·rcases hd.1 with h | h
   ·exact (QjU T e (.s i)).resolve_right (fun hh=>by rw[h] at hh;cases hh.2)
   ·show (Qo T e).sl.getD i Cel.dead=e.sl.getD i Cel.dead
    rw[Ji (by rw[show (Qo T e).sl.length=e.sl.length from Y5 _ _,<-h1];exact h),Ji (by rw[<-h1];exact h)]
  ·rcases hd.2 with h | h
   ·exact (QjU T e (.b i)).resolve_right (fun hh=>by rw[h] at hh;cases hh.2)
   ·show (Qo T e).bl.getD i Cel.dead=e.bl.getD i Cel.dead
    rw[Ji (by rw[show (Qo T e).bl.length=e.bl.length from Y5 _ _,<-h2];exact h),Ji (by rw[<-h2];exact h)]
 obtain⟨f',hf',hsyn⟩:=(Qog T e).Qq hD hs
 obtain⟨b',hb',hsy⟩:=hsyn.gives hg
 refine⟨f',hf',?_⟩
 rw[<-hsy.merge (Qog T e) (Qd2 hs hg)]
 exact hb'
theorem Qty {T:Msk} {o:Oper} {e e0:Env} (hf:T.fits e0) (h1:e0.sl.length=e.sl.length) (h2:e0.bl.length=e.bl.length) (ha:∀r,T.has r=true->e0.root r=e.root r) (hd:Qcq T e0 o=true) :
  e.dst o.dst .und=mrgE (chgE (Qo T e0) ((Qo T e0).dst o.dst .und)) ((Qo T e0).dst o.dst .und) e:=by
 have he:=QyY hf h1 h2 ha
 rw[he]
 refine Syn.merge (Qog T e) ((Qog T e).dst (fun i hi=>?_) .und) (Qkl _ _ _)
 simp only[Qcq,hi,aLg,Bool.or_eq_true,Nat.ble_eq] at hd
 rcases hd.1 with h | h
 ·exact (QjU T e (.s i)).resolve_right (fun hh=>by rw[h] at hh;cases hh.2)
 ·show (Qo T e).sl.getD i Cel.dead=e.sl.getD i Cel.dead
  rw[Ji (by rw[show (Qo T e).sl.length=e.sl.length from Y5 _ _,<-h1];exact h),Ji (by rw[<-h1];exact h)]
end Go.Dx
namespace Go.Dx
variable {P:Program} {B:Base} {C:Ctx}
structure Ent where
 anc:Nat
 T:Msk
 W:Msk
 s:Env
def Ent.tr (E:Ent):Tr:=⟨E.anc,E.T,E.W⟩
def QG (S:Nat->Bool):Nat->List Ent->Env->Env
 | _,[],e=>e
 | j,E::l,e=>QG S (j+1) l (bif S j then mrgE E.W E.s e else e)
def Qrz (P:Program) (B:Base) (ops:Array Oper) (i:Nat) (e0:Env) (E:Ent):Prop:=
 ∀(e:Env),e0.sl.length=e.sl.length->e0.bl.length=e.bl.length->(∀r,E.T.has r=true->e0.root r=e.root r)->∀(g:Gh) (a:Act) (w:World) (Q:Exit->Act->World->Prop) (K:Act->World->Prop),Rel P B g e a w->
  (∀g' a' w',Rel P B g' (mrgE E.W E.s e) a' w'->(∃o v,ops[i]? = some o/\a'=a.put o.dst v)->K a' w')->wpOp P ops Q i K a w
structure QuO (ops:Array Oper) (L0:List Ent) (e:Env) (E:Ent):Prop where
 sl:E.s.sl.length=e.sl.length
 bl:E.s.bl.length=e.bl.length
 sub:E.W.sub E.T=true
 op:∃o,ops[L0.length]? = some o/\E.anc=J1 (L0.map Ent.tr) o/\(∀d,d ∈ Zs o->d<L0.length)
 ap:YB E.anc E.T E.W 0 (L0.map Ent.tr)=true
def Yf (P:Program) (B:Base) (ops:Array Oper) (ex:Nat->Bool):List Ent->List Ent->Env->Prop
 | _,[],_=>True
 | L0,E::l,e=>(ex L0.length=true\/Qrz P B ops L0.length e E)/\QuO ops L0 e E/\Yf P B ops ex (L0++[E]) l (mrgE E.W E.s e)
theorem Qcx (S:Nat->Bool):∀(l:List Ent) (j:Nat) (e:Env),(QG S j l e).sl.length=e.sl.length/\(QG S j l e).bl.length=e.bl.length
 | [],_,_=>⟨rfl,rfl⟩
 | E::l,j,e=>by
  simp only[QG]
  cases S j with
  | false=>exact Qcx S l (j+1) e
  | true=>
   have:=Qcx S l (j+1) (mrgE E.W E.s e)
   exact⟨this.1.trans Jz.1,this.2.trans Jz.2⟩
def QqA (e:Env) (L:List Ent):Prop:=∀E,E ∈ L->E.s.sl.length=e.sl.length/\E.s.bl.length=e.bl.length
theorem QgA {S S':Nat->Bool} {r:Root}:∀(l:List Ent) (j:Nat) (e e':Env),QqA e l->e'.sl.length=e.sl.length->e'.bl.length=e.bl.length->e.root r=e'.root r->
  (∀k E,l[k]? = some E->S (j+k) ≠ S' (j+k)->E.W.has r=false)->(QG S j l e).root r=(QG S' j l e').root r
 | [],j,e,e',_,_,_,h,_=>h
 | E::l,j,e,e',hl,l1,l2,h,hd=>by
  simp only[QG]
  obtain⟨h1,h2⟩:=hl E aLm
  have lens:∀(b:Bool) (x:Env),(bif b then mrgE E.W E.s x else x).sl.length=x.sl.length/\(bif b then mrgE E.W E.s x else x).bl.length=x.bl.length:=fun b x=>by cases b<;>simp[Jz]
  refine QgA l (j+1) _ _ (fun E' hE'=>?_) ?_ ?_ ?_ (fun k E' hk hne=>?_)
  ·rw[(lens _ _).1,(lens _ _).2];exact hl E' (aLp _ hE')
  ·rw[(lens _ _).1,(lens _ _).1];exact l1
  ·rw[(lens _ _).2,(lens _ _).2];exact l2
  ·have h0:=hd 0 E rfl
   simp only[Nat.add_zero] at h0
   have k1:(mrgE E.W E.s e).root r=if E.W.has r=true then E.s.root r else e.root r:=Qiu h1 h2 r
   have k2:(mrgE E.W E.s e').root r=if E.W.has r=true then E.s.root r else e'.root r:=Qiu (h1.trans l1.symm) (h2.trans l2.symm) r
   cases hS:S j<;>cases hS':S' j<;>simp only[aLB,aLC]
   ·exact h
   ·rw[k2,h0 (by rw[hS,hS'];simp)];simpa using h
   ·rw[k1,h0 (by rw[hS,hS'];simp)];simpa using h
   ·rw[k1,k2];split
    ·rfl
    ·exact h
  ·exact hd (k+1) E' (by simpa using hk) (by rw[show j+(k+1)=j+1+k by omega];exact hne)
theorem QqG {S:Nat->Bool} {i:Nat} {Ei:Ent} {r:Root} (hr:Ei.W.has r=true):∀(l:List Ent) (j:Nat) (e:Env),QqA e l->j<=i->l[i - j]? = some Ei->
  (∀k E,l[k]? = some E->i<j+k->S (j+k)=true->E.W.has r=false)->(QG (fun k=>S k || Nat.beq k i) j l e).root r=Ei.s.root r
 | [],j,e,_,_,hk,_=>by simp at hk
 | E::l,j,e,hl,hji,hk,hd=>by
  simp only[QG]
  obtain⟨h1,h2⟩:=hl E aLm
  have lens:∀(b:Bool) (x:Env),(bif b then mrgE E.W E.s x else x).sl.length=x.sl.length/\(bif b then mrgE E.W E.s x else x).bl.length=x.bl.length:=fun b x=>by cases b<;>simp[Jz]
  by_cases hij:j=i
  ·subst hij
   rw[Nat.sub_self] at hk
   simp only[aLt,aLb] at hk
   subst hk
   have hb:(S j || Nat.beq j j)=true:=by simp
   rw[hb]
   simp only[aLB]
   have:(QG (fun k=>S k || Nat.beq k j) (j+1) l (mrgE E.W E.s e)).root r=(QG (fun _=>false) (j+1) l (mrgE E.W E.s e)).root r:=by
    refine QgA l (j+1) _ _ (fun E' hE'=>?_) rfl rfl rfl (fun k E' hk hne=>?_)
    ·rw[Jz.1,Jz.2];exact hl E' (aLp _ hE')
    ·refine hd (k+1) E' (by simpa using hk) (by omega) ?_
     simp only[ne_eq,Bool.not_eq_false] at hne
     rcases Bool.or_eq_true _ _ ▸ hne with h | h
     ·rw[show j+(k+1)=j+1+k by omega];exact h
     ·have:=aLw h;omega
   rw[this]
   have hn:∀(l:List Ent) (j:Nat) (e:Env),QG (fun _=>false) j l e=e:=by
    intro l;induction l with
    | nil=>intro j e;rfl
    | cons E l ih=>intro j e;simp only[QG,aLC];exact ih _ _
   rw[hn,Qiu h1 h2,if_pos hr]
  ·refine QqG hr l (j+1) _ (fun E' hE'=>?_) (by omega) ?_ (fun k E' hk' hik hS=>?_)
   ·rw[(lens _ _).1,(lens _ _).2];exact hl E' (aLp _ hE')
   ·rw[show i - j=(i - (j+1))+1 by omega] at hk;simpa using hk
   ·exact hd (k+1) E' (by simpa using hk') (by omega) (by rw[show j+(k+1)=j+1+k by omega];exact hS)
theorem Yf.get {ops:Array Oper} {ex:Nat->Bool}:∀(l L0:List Ent) (e:Env) (k:Nat) (E:Ent),Yf P B ops ex L0 l e->l[k]? = some E->
  (ex (L0.length+k)=true\/Qrz P B ops (L0.length+k) (QG (fun j=>decide (j<L0.length+k)) L0.length l e) E)/\QuO ops (L0++l.take k) e E
 | [],_,_,k,E,_,hk=>by simp at hk
 | E0::l,L0,e,0,E,h,hk=>by
  simp only[aLt,aLb] at hk
  subst hk
  obtain⟨h1,h2,h3⟩:=h
  have hn:∀(l:List Ent) (j m:Nat) (e:Env),m<=j->QG (fun j=>decide (j<m)) j l e=e:=by
   intro l;induction l with
   | nil=>intro j m e _;rfl
   | cons E l ih=>intro j m e hm;simp only[QG,show decide (j<m)=false by simp;omega,aLC];exact ih _ _ _ (by omega)
  rw[Nat.add_zero,hn _ _ _ _ (Nat.le_refl _)]
  exact⟨h1,by simpa using h2⟩
 | E0::l,L0,e,k+1,E,h,hk=>by
  obtain⟨h1,h2,h3⟩:=h
  obtain⟨h4,h5⟩:=Yf.get l (L0++[E0]) _ k E h3 (by simpa using hk)
  simp only[aLi,aLh,aLj] at h4
  have e1:L0.length+0+1+k=L0.length+(k+1):=by omega
  constructor
  ·simp only[QG,show decide (L0.length<L0.length+(k+1))=true by simp,aLB]
   rw[show L0.length+(0+1)+k=L0.length+(k+1) by omega] at h4
   exact h4
  ·have:L0++List.take (k+1) (E0::l)=L0++[E0]++List.take k l:=by simp
   rw[this]
   exact⟨by rw[h5.sl,Jz.1],by rw[h5.bl,Jz.2],h5.sub,h5.op,h5.ap⟩
theorem Qsa {anc:Nat} {T W:Msk}:∀(l:List Tr) (j k:Nat) (t:Tr),YB anc T W j l=true->l[k]? = some t->bitN anc (j+k)=true\/(W.disj t.T=true/\t.W.disj T=true)
 | [],_,k,t,_,hk=>by simp at hk
 | t0::l,j,0,t,h,hk=>by
  simp only[aLt,aLb] at hk
  subst hk
  simp only[YB,aLg,Bool.or_eq_true] at h
  exact h.1.imp id fun hh=>⟨Qtl hh.1,Qtl hh.2⟩
 | t0::l,j,k+1,t,h,hk=>by
  simp only[YB,aLg] at h
  have:=Qsa l (j+1) k t h.2 (by simpa using hk)
  rw[show j+(k+1)=j+1+k by omega];exact this
theorem QsE {a:Nat}:∀{l:List Nat},memN a l=true↔a ∈ l
 | []=>by simp[memN]
 | b::l=>by
  simp only[memN,Bool.or_eq_true,List.mem_cons,QsE (l:=l)]
  constructor
  ·rintro (h | h)
   ·exact .inl (aLw h)
   ·exact .inr h
  ·rintro (rfl | h)
   ·exact .inl (by simp)
   ·exact .inr h
theorem Qj1 {ops:Array Oper} {ex:Nat->Bool} {L:List Ent} {e0:Env} (hlen:L.length=ops.size) (hT:Yf P B ops ex [] L e0) {i:Nat} (hi:i<ops.size):∃E,L[i]? = some E/\(ex i=true\/Qrz P B ops i (QG (fun j=>decide (j<i)) 0 L e0) E)/\QuO ops (L.take i) e0 E:=by
 have hi':i<L.length:=by omega
 have h:=Yf.get L [] e0 i L[i] hT (aLf hi')
 simp only[aLj,Nat.zero_add,aLx] at h
 exact⟨L[i],aLf hi',h.1,h.2⟩
theorem QBU {ops:Array Oper} {ex:Nat->Bool} {L:List Ent} {e0:Env} (hlen:L.length=ops.size) (hT:Yf P B ops ex [] L e0) {S:Nat->Bool} (hS:∀i o,S i=true->ops[i]? = some o->∀d,d ∈ Zs o->S d=true):∀(i:Nat) (E:Ent) (o:Oper),L[i]? = some E->ops[i]? = some o->(∀d,d ∈ Zs o->S d=true)->∀j,bitN E.anc j=true->S j=true:=by
 intro i
 induction i using Nat.strongRecOn with
 | _ i ih=>
  intro E o hE ho hd j hj
  have hi:i<ops.size:=by
   rcases Nat.lt_or_ge i ops.size with h | h
   ·exact h
   ·rw[Array.getElem?_eq_none h] at ho;cases ho
  obtain⟨E',hE',_,hside⟩:=Qj1 hlen hT hi
  rw[hE] at hE';simp only[aLb] at hE';subst hE'
  have hlt:(L.take i).length=i:=by simp;omega
  obtain⟨o',ho',hanc,hdl⟩:=hside.op
  rw[hlt] at ho' hdl
  rw[ho] at ho';simp only[aLb] at ho';subst ho'
  rw[hanc] at hj
  obtain⟨d,hdd,hj⟩:=QD9 hj
  have hdi:=hdl d hdd
  rcases hj with rfl | hj
  ·exact hd _ hdd
  ·have hdL:((L.take i).map Ent.tr)[d]? = some (L[d]'(by omega)).tr:=by
    rw[List.getElem?_map,List.getElem?_take,if_pos hdi,aLf (by omega)];rfl
   rw[hdL] at hj
   simp only[Option.map_some,Option.getD_some] at hj
   have hod:ops[d]? = some (ops[d]'(by omega)):=Array.getElem?_eq_getElem (by omega)
   exact ih d hdi _ _ (aLf (by omega)) hod (fun d' hd'=>hS d _ (hd d hdd) hod d' hd') j hj
theorem Qz6 {ops:Array Oper} {ex:Nat->Bool} {L:List Ent} {e0:Env} (hlen:L.length=ops.size) (hT:Yf P B ops ex [] L e0) {i j:Nat} {Ei Ej:Ent} (hij:j<i) (hi:L[i]? = some Ei) (hj:L[j]? = some Ej):bitN Ei.anc j=true\/(Ei.W.disj Ej.T=true/\Ej.W.disj Ei.T=true):=by
 have hi':i<L.length:=(aLy.1 hi).1
 obtain⟨E',hE',_,hside⟩:=Qj1 hlen hT (i:=i) (by omega)
 rw[hi] at hE';simp only[aLb] at hE';subst hE'
 have:=Qsa _ 0 j Ej.tr hside.ap (by rw[List.getElem?_map,List.getElem?_take,if_pos hij,hj];rfl)
 rwa [Nat.zero_add] at this
theorem Qj0 {ops:Array Oper} {ex:Nat->Bool} {L:List Ent} {e0:Env} (hlen:L.length=ops.size) (hT:Yf P B ops ex [] L e0):QqA e0 L:=by
 intro E hE
 obtain⟨i,hi,rfl⟩:=List.getElem_of_mem hE
 obtain⟨E',hE',_,hside⟩:=Qj1 hlen hT (i:=i) (by omega)
 rw[aLf hi] at hE';simp only[aLb] at hE';subst hE'
 exact⟨hside.sl,hside.bl⟩
theorem QrW {ops:Array Oper} {ex:Nat->Bool} {L:List Ent} {e0:Env} (hlen:L.length=ops.size) (hT:Yf P B ops ex [] L e0) {S:Nat->Bool} (hS:∀i o,S i=true->ops[i]? = some o->∀d,d ∈ Zs o->S d=true) {i:Nat} {Ei:Ent} {o:Oper} (hE:L[i]? = some Ei) (ho:ops[i]? = some o) (hni:S i=false) (hd:∀d,d ∈ Zs o->S d=true)
  {j:Nat} {Ej:Ent} (hj:L[j]? = some Ej) (hne:S j ≠ decide (j<i)) (hji:j ≠ i):Ej.W.disj Ei.T=true:=by
 rcases Nat.lt_or_ge j i with hlt | hge
 ·have hSj:S j=false:=by simpa [hlt] using hne
  rcases Qz6 hlen hT hlt hE hj with h | h
  ·have:=QBU hlen hT hS i Ei o hE ho hd j h
   rw[this] at hSj;cases hSj
  ·exact h.2
 ·have hlt:i<j:=by omega
  have hSj:S j=true:=by
   have:decide (j<i)=false:=by simp;omega
   rw[this] at hne;simpa using hne
  rcases Qz6 hlen hT hlt hj hE with h | h
  ·have hjs:j<ops.size:=by rw[<-hlen];exact (aLy.1 hj).1
   have hoj:ops[j]? = some (ops[j]'hjs):=Array.getElem?_eq_getElem hjs
   have:=QBU hlen hT hS j Ej _ hj hoj (hS j _ hSj hoj) i h
   rw[this] at hni;cases hni
  ·exact h.1
theorem QsO {ops:Array Oper} {ex:Nat->Bool} {L:List Ent} {e0:Env} (hlen:L.length=ops.size) (hT:Yf P B ops ex [] L e0) {S:Nat->Bool} (hS:∀i o,S i=true->ops[i]? = some o->∀d,d ∈ Zs o->S d=true) {i:Nat} {Ei:Ent} {o:Oper} (hE:L[i]? = some Ei) (ho:ops[i]? = some o) (hni:S i=false) (hd:∀d,d ∈ Zs o->S d=true)
  {r:Root} (hr:Ei.T.has r=true):(QG (fun j=>decide (j<i)) 0 L e0).root r=(QG S 0 L e0).root r:=by
 refine QgA L 0 e0 e0 (Qj0 hlen hT) rfl rfl rfl (fun k E hk hne=>?_)
 rw[Nat.zero_add] at hne
 by_cases hki:k=i
 ·subst hki
  simp only[Nat.lt_irrefl,decide_false] at hne
  exact absurd hni.symm hne
 ·have:=QrW hlen hT hS hE ho hni hd hk (Ne.symm hne) hki
  cases hW:E.W.has r with
  | false=>rfl
  | true=>have:=Qx6 this hW;rw[hr] at this;cases this
theorem QrJ {ops:Array Oper} {ex:Nat->Bool} {L:List Ent} {e0:Env} (hlen:L.length=ops.size) (hT:Yf P B ops ex [] L e0) {S:Nat->Bool} (hS:∀i o,S i=true->ops[i]? = some o->∀d,d ∈ Zs o->S d=true) {i:Nat} {Ei:Ent} {o:Oper} (hE:L[i]? = some Ei) (ho:ops[i]? = some o) (hni:S i=false) (hd:∀d,d ∈ Zs o->S d=true) :
  QG (fun k=>S k || Nat.beq k i) 0 L e0=mrgE Ei.W Ei.s (QG S 0 L e0):=by
 have hl:=Qj0 hlen hT Ei (List.mem_of_getElem? hE)
 have hi:i<ops.size:=by rw[<-hlen];exact (aLy.1 hE).1
 obtain⟨E',hE',_,hside⟩:=Qj1 hlen hT hi
 rw[hE] at hE';simp only[aLb] at hE';subst hE'
 have hf:=Qcx S L 0 e0
 have hf':=Qcx (fun k=>S k || Nat.beq k i) L 0 e0
 apply Qrx
 ·rw[Jz.1,hf.1,hf'.1]
 ·rw[Jz.2,hf.2,hf'.2]
 ·intro r
  rw[Qiu (hl.1.trans hf.1.symm) (hl.2.trans hf.2.symm)]
  cases hW:Ei.W.has r with
  | true=>
   rw[if_pos rfl]
   refine QqG hW L 0 e0 (Qj0 hlen hT) (Nat.zero_le _) (by simpa using hE) (fun k E hk hik hSk=>?_)
   rw[Nat.zero_add] at hik hSk
   have hap:=QrW hlen hT hS hE ho hni hd hk (by rw[hSk,show decide (k<i)=false from aLD (by omega)];simp) (by omega)
   cases hW':E.W.has r with
   | false=>rfl
   | true=>have h1:=Qx6 hap hW';rw[QEj hside.sub hW] at h1;cases h1
  | false=>
   rw[if_neg (by simp)]
   refine QgA L 0 e0 e0 (Qj0 hlen hT) rfl rfl rfl (fun k E hk hne=>?_)
   rw[Nat.zero_add] at hne
   by_cases hki:k=i
   ·subst hki;rw[hE] at hk;simp only[aLb] at hk;subst hk;exact hW
   ·have:Nat.beq k i=false:=by
     cases hb:Nat.beq k i with
     | false=>rfl
     | true=>exact absurd (aLw hb) hki
    rw[this,Bool.or_false] at hne
    exact absurd rfl hne
theorem QxH {ops:Array Oper} {ex:Nat->Bool} {L:List Ent} {e0:Env} (hlen:L.length=ops.size) (hT:Yf P B ops ex [] L e0) {Q:Exit->Act->World->Prop} {S:World->Prop} {R:Act->Prop} (hR:∀(i:Nat) (o:Oper) (a:Act) (v:Value),ex i=false->ops[i]? = some o->R a->R (a.put o.dst v)) (hSv:∀(listed:Nat->Bool) g a w,(∀i,ex i=true->listed i=true)->Rel P B g (QG listed 0 L e0) a w->R a->S w) (hQ:∀g a w,Rel P B g (QG (fun _=>true) 0 L e0) a w->R a->Q .normal a w) :
  ∀(fuel:Nat) (listed:Array Bool) (g:Gh) (a:Act) (w:World),listed.size=ops.size->((List.range ops.size).countP (fun j=>!listed.getD j false))<=fuel->
   (∀i o,listed.getD i false=true->ops[i]? = some o->∀d,d ∈ Zs o->listed.getD d false=true)->(∀i,ex i=true->listed.getD i false=true)->Rel P B g (QG (fun j=>listed.getD j false) 0 L e0) a w->R a->wpAnyH P .any ops Q S fuel listed a w:=by
 have key:∀(listed:Array Bool) (g:Gh) (a:Act) (w:World),listed.size=ops.size->Region.ready .any ops listed=[]->Rel P B g (QG (fun j=>listed.getD j false) 0 L e0) a w->R a->Q .normal a w:=by
  intro listed g a w hsz hr hrel hRa
  have hall:∀i,i<ops.size->listed.getD i false=true:=by
   intro i
   induction i using Nat.strongRecOn with
   | _ i ih=>
    intro hi
    cases hl:listed.getD i false with
    | true=>rfl
    | false=>
     exfalso
     have hmem:i ∈ Region.ready .any ops listed:=by
      rw[mem_ready]
      have hoi:ops[i]? = some (ops[i]'hi):=Array.getElem?_eq_getElem hi
      refine⟨?_,_,hoi,fun e he hb=>?_⟩
      ·have:i<listed.size:=by omega
       simp[Array.getD,this] at hl ⊢;exact hl
      ·obtain⟨E,hE,_,hside⟩:=Qj1 hlen hT hi
       have hlt:(L.take i).length=i:=by simp;omega
       obtain⟨o',ho',_,hdl⟩:=hside.op
       rw[hlt] at ho' hdl
       rw[hoi] at ho';simp only[aLb] at ho';subst ho'
       have hd:e.on ∈ Zs (ops[i]'hi):=by
        simp only[Zs,List.mem_map,List.mem_filter]
        exact⟨e,⟨by simpa using he,hb⟩,rfl⟩
       have:=hdl _ hd
       exact ih _ this (by omega)
     rw[hr] at hmem;cases hmem
  refine hQ g a w ?_ hRa
  have:QG (fun _=>true) 0 L e0=QG (fun j=>listed.getD j false) 0 L e0:=by
   have hf:=Qcx (fun _=>true) L 0 e0
   have hf':=Qcx (fun j=>listed.getD j false) L 0 e0
   refine Qrx (hf.1.trans hf'.1.symm) (hf.2.trans hf'.2.symm) (fun r=>?_)
   refine QgA L 0 e0 e0 (Qj0 hlen hT) rfl rfl rfl (fun k E hk hne=>?_)
   have hk':k<ops.size:=by rw[<-hlen];exact (aLy.1 hk).1
   rw[Nat.zero_add,hall k hk'] at hne
   exact absurd rfl hne
  rw[this];exact hrel
 intro fuel
 induction fuel with
 | zero=>
  intro listed g a w hsz hc hS hex hrel hRa
  have hr:Region.ready .any ops listed=[]:=by
   apply List.eq_nil_iff_forall_not_mem.2
   intro i hi
   rw[mem_ready] at hi
   obtain⟨h1,o,ho,_⟩:=hi
   have hio:i<ops.size:=by
    rcases Nat.lt_or_ge i ops.size with h | h
    ·exact h
    ·rw[Array.getElem?_eq_none h] at ho;cases ho
   have h0:(List.range ops.size).countP (fun j=>!listed.getD j false)=0:=by omega
   rw[List.countP_eq_zero] at h0
   have:=h0 i (List.mem_range.2 hio)
   have hil:i<listed.size:=by omega
   simp[Array.getD,hil] at this h1
   rw[h1] at this;cases this
  exact⟨hr,key listed g a w hsz hr hrel hRa⟩
 | succ fuel ih=>
  intro listed g a w hsz hc hS hex hrel hRa
  refine⟨fun hr=>key listed g a w hsz hr hrel hRa,fun i hi=>?_⟩
  rw[mem_ready] at hi
  obtain⟨h1,o,ho,hdeps⟩:=hi
  have hio:i<ops.size:=by
   rcases Nat.lt_or_ge i ops.size with h | h
   ·exact h
   ·rw[Array.getElem?_eq_none h] at ho;cases ho
  have hil:i<listed.size:=by omega
  have hni:listed.getD i false=false:=by simp[Array.getD,hil] at h1 ⊢;exact h1
  have hd:∀d,d ∈ Zs o->listed.getD d false=true:=by
   intro d hd
   simp only[Zs,List.mem_map,List.mem_filter] at hd
   obtain⟨x,⟨hx,hb⟩,rfl⟩:=hd
   exact hdeps x (by simpa using hx) hb
  obtain⟨E,hE,hok,hside⟩:=Qj1 hlen hT hio
  have hexi:ex i=false:=by
   cases hx:ex i with
   | false=>rfl
   | true=>have:=hex i hx;rw[hni] at this;cases this
  have hok:=hok.resolve_left (by rw[hexi];simp)
  have hset:∀j,(listed.setIfInBounds i true).getD j false=(listed.getD j false || Nat.beq j i):=by
   intro j
   by_cases hji:j=i
   ·subst hji
    simp[Array.getD,hil]
   ·rw[getD_set_ne false (Ne.symm hji)]
    have:Nat.beq j i=false:=by
     cases hb:Nat.beq j i with
     | false=>rfl
     | true=>exact absurd (aLw hb) hji
    rw[this,Bool.or_false]
  have hfl:=Qcx (fun j=>decide (j<i)) L 0 e0
  have hfl':=Qcx (fun j=>listed.getD j false) L 0 e0
  refine hok _ (hfl.1.trans hfl'.1.symm) (hfl.2.trans hfl'.2.symm) (fun r hr=>QsO hlen hT hS hE ho hni hd hr) g a w Q _ hrel (fun g' a' w' hrel' hput=>?_)
  obtain⟨o',v,ho',rfl⟩:=hput
  have hfold:Rel P B g' (QG (fun j=>(listed.setIfInBounds i true).getD j false) 0 L e0) (a.put o'.dst v) w':=by
   have:(fun j=>(listed.setIfInBounds i true).getD j false)=(fun k=>listed.getD k false || Nat.beq k i):=funext hset
   rw[this,QrJ hlen hT hS hE ho hni hd];exact hrel'
  have hex':∀j,ex j=true->(listed.setIfInBounds i true).getD j false=true:=fun j hj=>by rw[hset,hex j hj];rfl
  have hRa':=hR i o' a v hexi ho' hRa
  refine⟨hSv _ g' _ w' hex' hfold hRa',ih _ g' _ w' (by simpa using hsz) ?_ ?_ hex' hfold hRa'⟩
  ·have hlt:(List.range ops.size).countP (fun j=>!(listed.setIfInBounds i true).getD j false)<(List.range ops.size).countP (fun j=>!listed.getD j false):=by
    have gen:∀(l:List Nat),i ∈ l->l.countP (fun j=>!(listed.setIfInBounds i true).getD j false)<l.countP (fun j=>!listed.getD j false):=by
     intro l
     have le:∀(l:List Nat),l.countP (fun j=>!(listed.setIfInBounds i true).getD j false)<=l.countP (fun j=>!listed.getD j false):=fun l=>List.countP_mono_left (fun j _ hj=>by
      simp only[hset j,Bool.not_eq_true',Bool.or_eq_false_iff] at hj ⊢;exact hj.1)
     induction l with
     | nil=>intro h;cases h
     | cons x l ihl=>
      intro hx
      simp only[List.countP_cons]
      by_cases hxi:x=i
      ·subst hxi
       have h2:=le l
       rw[if_neg (by rw[hset x,hni];simp),if_pos (by rw[hni];rfl)];omega
      ·have hx':i ∈ l:=(List.mem_cons.1 hx).resolve_left (Ne.symm hxi)
       have h2:=ihl hx'
       have h3:(listed.setIfInBounds i true).getD x false=listed.getD x false:=getD_set_ne false (Ne.symm hxi)
       rw[h3];omega
    exact gen _ (List.mem_range.2 hio)
   omega
  ·intro j oj hj hoj d hdj
   rw[hset] at hj ⊢
   rcases Bool.or_eq_true _ _ ▸ hj with hj | hj
   ·rw[hS j oj hj hoj d hdj];rfl
   ·have:=aLw hj
    subst this
    rw[ho] at hoj;simp only[aLb] at hoj;subst hoj
    rw[hd d hdj];rfl
end Go.Dx
namespace Go.Dx
variable {P:Program} {B:Base} {C:Ctx}
theorem Qrt {e:Env} {g:Tmp} {c:Bool} (h:(e.s g).d=.v .bool .z c):setG e g c=e:=by
 have hr:(e.root (.s g)).d=.v .bool .z c:=h
 apply Qrx
 ·exact Qhq.1
 ·exact Qhq.2
 ·intro r
  unfold setG
  rw[ZC hr]
  split
  ·rename_i hh;subst hh;rw[<-hr]
  ·rfl
theorem Qr6 {e:Env} {g:Tmp} {c:Bool} (h:Qt6 e g=some c):(e.s g).d=.v .bool .z c:=by
 unfold Qt6 at h
 split at h
 ·rename_i hd;simp only[aLb] at h;subst h;exact hd
 ·cases h
theorem Qv9 {ops:Array Oper} {g:Gh} {e:Env} {a:Act} {w:World} (h:Rel P B g e a w) {j:Nat} {t:Tmp} (hs:(ops[j]?).bind (·.dst)=some t) {b:Bool} (hd:(e.s t).d=.v .bool .z b):yielded ops a.tmps j=some b:=by
 have h1:=h.sl t
 rw[hd] at h1
 have hv:=Qhb (P:=P) rfl h1
 unfold yielded
 rw[hs,aLc]
 rcases Nat.lt_or_ge t a.tmps.size with hl | hl
 ·rw[Array.getD_eq_getD_getElem?,Array.getElem?_eq_getElem hl] at hv
  simp only[Option.getD_some] at hv
  rw[Array.getElem?_eq_getElem hl,hv]
 ·rw[Array.getD_eq_getD_getElem?,Array.getElem?_eq_none hl] at hv
  cases hv
theorem QvK {ops:Array Oper} {g:Gh} {e:Env} {a:Act} {w:World} (h:Rel P B g e a w) {j:Nat} {t:Tmp} (hs:(ops[j]?).bind (·.dst)=some t) (hd:(e.s t).d=.und):yielded ops a.tmps j=none:=by
 have h1:=h.sl t
 rw[hd] at h1
 have hv:a.tmps.getD t undef=undef:=h1
 unfold yielded
 rw[hs,aLc]
 rcases Nat.lt_or_ge t a.tmps.size with hl | hl
 ·rw[Array.getD_eq_getD_getElem?,Array.getElem?_eq_getElem hl] at hv
  simp only[Option.getD_some] at hv
  rw[Array.getElem?_eq_getElem hl,hv]
  rfl
 ·rw[Array.getElem?_eq_none hl]
theorem Qsv {e:Env} {g:Tmp} (h:Qm7 e g=true):(e.s g).d=.und:=by
 unfold Qm7 at h
 split at h
 ·assumption
 ·cases h
def Deci (ops:Array Oper) (e:Env) (T:Root->Prop) (o:Oper) (act:Bool):Prop:=
 (o.guard=none/\act=true)\/∃j want t,o.guard=some (j,want)/\(ops[j]?).bind (·.dst)=some t/\T (.s t)/\((e.s t).d=.v .bool .z (if act then want else !want)\/((e.s t).d=.und/\act=false))
theorem Qv1 {ops:Array Oper} {g:Gh} {e0 e:Env} {a:Act} {w:World} {T:Root->Prop} {o:Oper} {act:Bool} (h:Rel P B g e a w) (hd:Deci ops e0 T o act) (ha:∀r,T r->e0.root r=e.root r):Region.wanted o (yielded ops a.tmps)=act:=by
 rcases hd with ⟨h1,rfl⟩ | ⟨j,want,t,h1,h2,h3,h4⟩
 ·simp[Region.wanted,h1]
 ·have het:e.s t=e0.s t:=(ha _ h3).symm
  rcases h4 with h4 | ⟨h4,rfl⟩
  ·have h5:(e.s t).d=.v .bool .z (if act then want else !want):=by rw[het];exact h4
   have:=Qv9 h h2 h5
   simp only[Region.wanted,h1,this]
   cases act<;>cases want<;>rfl
  ·have:=QvK h h2 (by rw[het];exact h4)
   simp only[Region.wanted,h1,this]
   rfl
theorem Qv5 (hT:Q0 P C) (hC:Qb5 P B.g0 B.dm C) {ops:Array Oper} {i:Nat} {o:Oper} {e0:Env} {T:Msk} {anc:Nat} (ho:ops[i]? = some o) (hg:Deci ops e0 (fun r=>T.has r=true) o true) (hf:T.fits e0) (hd:Qcq T e0 o=true)
  {frz:Bool} {f:Eff} {s':Env} (hs:Qq C frz (Qo T e0) o=some f) (hfs:f.gives s'):Qrz P B ops i e0 ⟨anc,T,chgE (Qo T e0) s',s'⟩:=by
 intro e h1 h2 ha g a w Q K hrel hK
 obtain⟨f',hf',hg'⟩:=Qom hf h1 h2 ha hd hs hfs
 have hst:=Ql9 hT hC hrel hf' hg'
 unfold wpOp
 rw[ho]
 simp only
 rw[Qv1 hrel hg ha,if_pos rfl]
 exact .inl (hst K Q (fun g' a' w' hr ⟨v,hv⟩=>hK g' a' w' hr ⟨o,v,ho,hv⟩))
theorem QAe {ops:Array Oper} {i:Nat} {o:Oper} {e0:Env} {T:Msk} {anc:Nat} (ho:ops[i]? = some o) (hg:Deci ops e0 (fun r=>T.has r=true) o false) (hf:T.fits e0) (hd:Qcq T e0 o=true) :
  Qrz P B ops i e0 ⟨anc,T,chgE (Qo T e0) ((Qo T e0).dst o.dst .und),(Qo T e0).dst o.dst .und⟩:=by
 intro e h1 h2 ha g a w Q K hrel hK
 unfold wpOp
 rw[ho]
 simp only
 rw[Qv1 hrel hg ha,if_neg (by simp)]
 obtain⟨g',_,_,hr⟩:=hrel.dst 0 o.dst (d:=.und) (v:=undef) rfl
 rw[Qty hf h1 h2 ha hd] at hr
 exact hK g' _ w hr ⟨o,undef,ho,rfl⟩
theorem QAj (hT:Q0 P C) (hC:Qb5 P B.g0 B.dm C) {R:Type} {id:Nat} {ops:Array Oper} {k:Env->Option R} {r:R}:∀(l:List Oper) (L0:List Ent) (e:Env),(∀j,l[j]? = ops[L0.length+j]?)->regD C id ops.toList L0.length l (L0.map Ent.tr) e k=some r->
  ∃L,L.length=l.length/\Yf P B ops (fun _=>false) L0 L e/\Za e (QG (fun _=>true) L0.length L e)/\k (QG (fun _=>true) L0.length L e)=some r:=by
 intro l
 induction l with
 | nil=>intro L0 e _ h;exact⟨[],rfl,trivial,.refl e,h⟩
 | cons o l ih=>
  intro L0 e hl h
  have ho:ops[L0.length]? = some o:=by simpa using (hl 0).symm
  have go:∀(e:Env) (T:Msk) (s s':Env),T.fits e->s=Qo T e->Qrz P B ops L0.length e ⟨J1 (L0.map Ent.tr) o,T,chgE s s',s'⟩->Za e (mrgE (chgE s s') s' e)->s'.sl.length=e.sl.length->s'.bl.length=e.bl.length->
    (bif (chgE s s').sub T&&Qcq T e o&&(Zs o).all (fun d=>Nat.blt d L0.length)&&YB (J1 (L0.map Ent.tr) o) T (chgE s s') 0 (L0.map Ent.tr) then
     regD C id ops.toList (L0.length+1) l (L0.map Ent.tr++[⟨J1 (L0.map Ent.tr) o,T,chgE s s'⟩]) (mrgE (chgE s s') s' e) k else none)=some r->
    ∃L,L.length=(o::l).length/\Yf P B ops (fun _=>false) L0 L e/\Za e (QG (fun _=>true) L0.length L e)/\k (QG (fun _=>true) L0.length L e)=some r:=by
   intro e T s s' hfit hs hok hle l1 l2 h
   cases hc:(chgE s s').sub T&&Qcq T e o&&(Zs o).all (fun d=>Nat.blt d L0.length)&&YB (J1 (L0.map Ent.tr) o) T (chgE s s') 0 (L0.map Ent.tr) with
   | false=>rw[hc] at h;cases h
   | true=>
    rw[hc,aLB] at h
    simp only[aLg,List.all_eq_true] at hc
    obtain⟨⟨⟨hsub,hdst⟩,hdep⟩,hap⟩:=hc
    let E:Ent:=⟨J1 (L0.map Ent.tr) o,T,chgE s s',s'⟩
    have h':regD C id ops.toList (L0++[E]).length l ((L0++[E]).map Ent.tr) (mrgE (chgE s s') s' e) k=some r:=by
     simp only[aLi,aLh,aLj,List.map_append,List.map_cons,List.map_nil]
     exact h
    obtain⟨L,hL,htr,hle2,hk⟩:=ih (L0++[E]) _ (fun j=>by
     have:=hl (j+1)
     simp only[aLi,aLh,aLj]
     rw[show L0.length+(0+1)+j=L0.length+(j+1) by omega]
     simpa using this) h'
    simp only[aLi,aLh,aLj,Nat.zero_add] at hle2 hk
    refine⟨E::L,by simp[hL],⟨.inr hok,⟨l1,l2,hsub,⟨o,ho,rfl,fun d hd=>?_⟩,hap⟩,htr⟩,?_,?_⟩
    ·have:=hdep d hd;rwa [Nat.blt_eq] at this
    ·simp only[QG,aLB];exact hle.trans hle2
    ·simp only[QG,aLB];exact hk
  have act:∀(e:Env),Deci ops e (fun r=>(touch ops.toList e o).has r=true) o true->runE (Qq C (memP id L0.length C.frz) (Qo (touch ops.toList e o) e) o) (fun s'=>
    bif (chgE (Qo (touch ops.toList e o) e) s').sub (touch ops.toList e o)&&Qcq (touch ops.toList e o) e o&&(Zs o).all (fun d=>Nat.blt d L0.length)&&YB (J1 (L0.map Ent.tr) o) (touch ops.toList e o) (chgE (Qo (touch ops.toList e o) e) s') 0 (L0.map Ent.tr) then
     regD C id ops.toList (L0.length+1) l (L0.map Ent.tr++[⟨J1 (L0.map Ent.tr) o,touch ops.toList e o,chgE (Qo (touch ops.toList e o) e) s'⟩]) (mrgE (chgE (Qo (touch ops.toList e o) e) s') s' e) k else none)=some r->
    ∃L,L.length=(o::l).length/\Yf P B ops (fun _=>false) L0 L e/\Za e (QG (fun _=>true) L0.length L e)/\k (QG (fun _=>true) L0.length L e)=some r:=by
   intro e hdec h
   obtain⟨f,s',hs,hf,hk⟩:=QjO h
   have hfit:=Qn4 ops.toList e o
   have hk0:=hk
   cases hc:(chgE (Qo (touch ops.toList e o) e) s').sub (touch ops.toList e o)&&Qcq (touch ops.toList e o) e o&&(Zs o).all (fun d=>Nat.blt d L0.length)&&YB (J1 (L0.map Ent.tr) o) (touch ops.toList e o) (chgE (Qo (touch ops.toList e o) e) s') 0 (L0.map Ent.tr) with
   | false=>rw[hc] at hk;cases hk
   | true=>
    simp only[aLg] at hc
    have hd:=hc.1.1.2
    have hle:=Qd2 hs hf
    obtain⟨f',hf',hg'⟩:=Qom hfit rfl rfl (fun _ _=>rfl) hd hs hf
    exact go e _ _ s' hfit rfl (Qv5 hT hC ho hdec hfit hd hs hf) (Qd2 hf' hg') (hle.sl.trans (Y5 _ _)) (hle.bl.trans (Y5 _ _)) hk0
  have skip:∀(e:Env),Deci ops e (fun r=>(touch ops.toList e o).has r=true) o false->
    (bif (chgE (Qo (touch ops.toList e o) e) ((Qo (touch ops.toList e o) e).dst o.dst .und)).sub (touch ops.toList e o)&&Qcq (touch ops.toList e o) e o&&(Zs o).all (fun d=>Nat.blt d L0.length)&&YB (J1 (L0.map Ent.tr) o) (touch ops.toList e o) (chgE (Qo (touch ops.toList e o) e) ((Qo (touch ops.toList e o) e).dst o.dst .und)) 0 (L0.map Ent.tr) then
     regD C id ops.toList (L0.length+1) l (L0.map Ent.tr++[⟨J1 (L0.map Ent.tr) o,touch ops.toList e o,chgE (Qo (touch ops.toList e o) e) ((Qo (touch ops.toList e o) e).dst o.dst .und)⟩]) (mrgE (chgE (Qo (touch ops.toList e o) e) ((Qo (touch ops.toList e o) e).dst o.dst .und)) ((Qo (touch ops.toList e o) e).dst o.dst .und) e) k else none)=some r->
    ∃L,L.length=(o::l).length/\Yf P B ops (fun _=>false) L0 L e/\Za e (QG (fun _=>true) L0.length L e)/\k (QG (fun _=>true) L0.length L e)=some r:=by
   intro e hdec hk
   have hfit:=Qn4 ops.toList e o
   have hk0:=hk
   cases hc:(chgE (Qo (touch ops.toList e o) e) ((Qo (touch ops.toList e o) e).dst o.dst .und)).sub (touch ops.toList e o)&&Qcq (touch ops.toList e o) e o&&(Zs o).all (fun d=>Nat.blt d L0.length)&&YB (J1 (L0.map Ent.tr) o) (touch ops.toList e o) (chgE (Qo (touch ops.toList e o) e) ((Qo (touch ops.toList e o) e).dst o.dst .und)) 0 (L0.map Ent.tr) with
   | false=>rw[hc] at hk;cases hk
   | true=>
    simp only[aLg] at hc
    have hd:=hc.1.1.2
    have hle:=Qkl (Qo (touch ops.toList e o) e) o.dst .und
    have hsk:=Qty hfit rfl rfl (fun _ _=>rfl) hd
    exact go e _ _ _ hfit rfl (QAe ho hdec hfit hd) (by rw[<-hsk];exact Qkl _ _ _) (hle.sl.trans (Y5 _ _)) (hle.bl.trans (Y5 _ _)) hk0
  unfold regD at h
  simp only at h
  split at h
  ·rename_i hgd
   exact act e (.inl ⟨hgd,rfl⟩) h
  ·rename_i j want hgd
   split at h
   ·cases h
   ·rename_i t ht
    have ht':(ops[j]?).bind (·.dst)=some t:=by simpa [Qjj] using ht
    cases hu:Qm7 e t with
    | true=>
     rw[hu,aLB] at h
     cases hth:(touch ops.toList e o).has (.s t) with
     | false=>rw[hth] at h;cases h
     | true=>rw[hth,aLB] at h;exact skip e (.inr ⟨j,want,t,hgd,ht',hth,.inr ⟨Qsv hu,rfl⟩⟩) h
    | false=>
    rw[hu,aLC] at h
    split at h
    ·cases h
    ·rename_i c hc
     have hcd:=Qr6 hc
     have yes:c=want->(bif (touch ops.toList (setG e t want) o).has (.s t) then runE (Qq C (memP id L0.length C.frz) (Qo (touch ops.toList (setG e t want) o) (setG e t want)) o) (fun s'=>
       bif (chgE (Qo (touch ops.toList (setG e t want) o) (setG e t want)) s').sub (touch ops.toList (setG e t want) o)&&Qcq (touch ops.toList (setG e t want) o) (setG e t want) o&&(Zs o).all (fun d=>Nat.blt d L0.length)&&YB (J1 (L0.map Ent.tr) o) (touch ops.toList (setG e t want) o) (chgE (Qo (touch ops.toList (setG e t want) o) (setG e t want)) s') 0 (L0.map Ent.tr) then
       regD C id ops.toList (L0.length+1) l (L0.map Ent.tr++[⟨J1 (L0.map Ent.tr) o,touch ops.toList (setG e t want) o,chgE (Qo (touch ops.toList (setG e t want) o) (setG e t want)) s'⟩]) (mrgE (chgE (Qo (touch ops.toList (setG e t want) o) (setG e t want)) s') s' (setG e t want)) k else none) else none)=some r->
       ∃L,L.length=(o::l).length/\Yf P B ops (fun _=>false) L0 L e/\Za e (QG (fun _=>true) L0.length L e)/\k (QG (fun _=>true) L0.length L e)=some r:=by
      intro hcw h
      subst hcw
      rw[Qrt hcd] at h
      cases hth:(touch ops.toList e o).has (.s t) with
      | false=>rw[hth] at h;cases h
      | true=>rw[hth,aLB] at h;exact act e (.inr ⟨j,c,t,hgd,ht',hth,.inl (by simpa using hcd)⟩) h
     have no:c=(!want)->(bif (touch ops.toList (setG e t (!want)) o).has (.s t) then
       (bif (chgE (Qo (touch ops.toList (setG e t (!want)) o) (setG e t (!want))) ((Qo (touch ops.toList (setG e t (!want)) o) (setG e t (!want))).dst o.dst .und)).sub (touch ops.toList (setG e t (!want)) o)&&Qcq (touch ops.toList (setG e t (!want)) o) (setG e t (!want)) o&&(Zs o).all (fun d=>Nat.blt d L0.length)&&YB (J1 (L0.map Ent.tr) o) (touch ops.toList (setG e t (!want)) o) (chgE (Qo (touch ops.toList (setG e t (!want)) o) (setG e t (!want))) ((Qo (touch ops.toList (setG e t (!want)) o) (setG e t (!want))).dst o.dst .und)) 0 (L0.map Ent.tr) then
       regD C id ops.toList (L0.length+1) l (L0.map Ent.tr++[⟨J1 (L0.map Ent.tr) o,touch ops.toList (setG e t (!want)) o,chgE (Qo (touch ops.toList (setG e t (!want)) o) (setG e t (!want))) ((Qo (touch ops.toList (setG e t (!want)) o) (setG e t (!want))).dst o.dst .und)⟩]) (mrgE (chgE (Qo (touch ops.toList (setG e t (!want)) o) (setG e t (!want))) ((Qo (touch ops.toList (setG e t (!want)) o) (setG e t (!want))).dst o.dst .und)) ((Qo (touch ops.toList (setG e t (!want)) o) (setG e t (!want))).dst o.dst .und) (setG e t (!want))) k else none) else none)=some r->
       ∃L,L.length=(o::l).length/\Yf P B ops (fun _=>false) L0 L e/\Za e (QG (fun _=>true) L0.length L e)/\k (QG (fun _=>true) L0.length L e)=some r:=by
      intro hcw h
      have hw:want = !c:=by rw[hcw];simp
      rw[<-hcw,Qrt hcd] at h
      cases hth:(touch ops.toList e o).has (.s t) with
      | false=>rw[hth] at h;cases h
      | true=>rw[hth,aLB] at h;exact skip e (.inr ⟨j,want,t,hgd,ht',hth,.inl (by rw[hcd,hcw];simp)⟩) h
     cases want<;>cases c<;>simp only[aLB,aLC] at h
     ·exact yes rfl h
     ·exact no rfl h
     ·exact no rfl h
     ·exact yes rfl h
theorem QCy {y:Operand} (h:isNil y=true):y=.const (.slice none 0 0):=by
 unfold isNil at h
 split at h
 ·rfl
 ·cases h
theorem QEy (hT:Q0 P C) {g:Gh} {e:Env} {a:Act} {w:World} (h:Rel P B g e a w) {o:Oper} {em:Bool} (hn:QAV C e o=some em):∃b,(em=false->b=false)/\QK P B a w o (e.dst o.dst (.v .bool .z b)):=by
 unfold QAV at hn
 split at hn
 ·rename_i t x y ty ho
  cases hy:isNil y with
  | false=>rw[hy] at hn;cases hn
  | true=>
   rw[hy,aLB] at hn
   obtain rfl:=QCy hy
   split at hn
   ·rename_i ti hti
    split at hn
    ·rename_i s l hrd
     cases hd:decide (ti.sh=.list s) with
     | false=>rw[hd] at hn;cases hn
     | true=>
      rw[hd,aLB] at hn
      simp only[aLb] at hn
      subst hn
      obtain⟨Tx,hx,_,_⟩:=QD h x
      obtain⟨S1,f1,o1,r1,_⟩:=Qc1 h hx hrd
      obtain⟨el,te,hu,_⟩:=Qi0 hT hti (aLG hd)
      have hval:∃A n cap,a.eval x=.slice A n cap/\List.length l=n/\(A=none->n=0):=by
       obtain⟨hf,hr⟩:=r1
       have hc:(a.eval x).cells = #[a.eval x]:=hf
       cases f1 with
       | z=>
        obtain⟨A,n,cap,h1,h2,h3,h4⟩:=hr
        simp only[Qk,hc] at h1
        refine⟨A,n,cap,by simpa using h1,h2,fun hA=>?_⟩
        rcases Nat.eq_zero_or_pos n with h0 | h0
        ·exact h0
        ·obtain⟨b,off,hA2,_⟩:=h4 h0
         rw[hA] at hA2;cases hA2
       | o fo=>
        obtain⟨A,n,cap,h1,h2,h3,h4⟩:=hr
        simp only[Qk,hc] at h1
        refine⟨A,n,cap,by simpa using h1,h2,fun hA=>?_⟩
        rcases h4 with ⟨_,h0,_⟩ | ⟨b,off,arr,e0,hA2,_⟩
        ·exact h0
        ·rw[hA] at hA2;cases hA2
       | x=>simp[okS] at o1
       | p fa fb=>simp[okS] at o1
       | h f0 i0=>simp[okS] at o1
      obtain⟨A,n,cap,hv,hl,hA⟩:=hval
      refine⟨A.isNone,fun he=>?_,.plain (v:=.bool A.isNone) h (QmK ho ?_ ?_) ⟨rfl,fun _=>rfl⟩⟩
      ·cases A with
       | some ad=>rfl
       | none=>
        have:=hA rfl
        have hl0:l=[]:=List.eq_nil_of_length_eq_zero (by omega)
        rw[hl0] at he;cases he
      ·rw[hv]
       simp[eqGuard,Act.eval]
      ·rw[hv]
       have hq:(Op.equal t (.slice A n cap) (.slice none 0 0)).run P w=.ok A.isNone w:=by
        have key:∀d,(Op.equalIn (d+1) t (.slice A n cap) (.slice none 0 0)).run P w=.ok A.isNone w:=by
         intro d
         unfold Op.equalIn
         cases A<;>simp[run_underlying hu]
        exact key (Op.maxDepth - 1)
       simp[binOp,Act.eval,hq]
    ·cases hn
   ·cases hn
 ·cases hn
theorem QAH {R:Type} {a b:Option R} {r:R} (h:agree a b=some r):a=some r/\b=some r:=by
 unfold agree at h
 split at h
 ·rename_i he;exact⟨h,he ▸ h⟩
 ·cases h
theorem QDM (hT:Q0 P C) (hC:Qb5 P B.g0 B.dm C) {R:Type} {id:Nat} {ops:Array Oper} {k:Env->Option R} {r:R} {Rk:Act->Prop} (hR:∀(i:Nat) (o:Oper) (a:Act) (v:Value),ops[i]? = some o->Rk a->Rk (a.put o.dst v)) {Q:Exit->Act->World->Prop} {e00:Env}
  (hQ:∀g e a w,Rel P B g e a w->Za e00 e->Rk a->k e=some r->Q .normal a w):∀(l:List Oper) (i:Nat) (e:Env) (g:Gh) (a:Act) (w:World),(∀j,l[j]? = ops[i+j]?)->regK C id ops.toList i l e k=some r->Rel P B g e a w->Za e00 e->Rk a->wpOps P ops Q (List.range' i l.length) a w:=by
 intro l
 induction l with
 | nil=>intro i e g a w _ h hr hle hk;exact hQ g e a w hr hle hk h
 | cons o l ih=>
  intro i e g a w hl h hr hle hk
  have ho:ops[i]? = some o:=by simpa using (hl 0).symm
  have hl':∀j,l[j]? = ops[i+1+j]?:=fun j=>by have:=hl (j+1);rw[show i+1+j=i+(j+1) by omega];simpa using this
  rw[aLh,List.range'_succ,wpOps_cons]
  unfold wpOp
  rw[ho]
  simp only
  have act:∀(e:Env),Rel P B g e a w->Za e00 e->Region.wanted o (yielded ops a.tmps)=true->runE (Qq C (memP id i C.frz) e o) (fun e=>regK C id ops.toList (i+1) l e k)=some r->
    (if Region.wanted o (yielded ops a.tmps)=true then o.wp P a w (wpOps P ops Q (List.range' (i+1) l.length)) Q\/(o.asks P a w/\LetsOut Q) else wpOps P ops Q (List.range' (i+1) l.length) (a.put o.dst undef) w):=by
   intro e hr hle hw h
   rw[if_pos hw]
   obtain⟨f,e',hs,hf,hk'⟩:=QjO h
   exact .inl (Ql9 hT hC hr hs hf _ Q (fun g' a' w' hr' ⟨v,hv⟩=>ih (i+1) e' g' a' w' hl' hk' hr' (hle.trans (Qd2 hs hf)) (by rw[hv];exact hR i o a v ho hk)))
  unfold regK at h
  simp only at h
  split at h
  ·rename_i hgd
   split at h
   ·rename_i em hn
    rw[if_pos (by simp[Region.wanted,hgd])]
    obtain⟨b,hb,hst⟩:=QEy hT hr hn
    have key:regK C id ops.toList (i+1) l (e.dst o.dst (.v .bool .z b)) k=some r:=by
     cases em with
     | false=>rw[hb rfl];exact h
     | true=>
      rw[aLB] at h
      obtain⟨k1,k2⟩:=QAH h
      cases b with
      | true=>exact k1
      | false=>exact k2
    exact .inl (hst _ Q (fun g' a' w' hr' ⟨v,hv⟩=>ih (i+1) _ g' a' w' hl' key hr' (hle.trans (Qkl e o.dst _)) (by rw[hv];exact hR i o a v ho hk)))
   ·exact act e hr hle (by simp[Region.wanted,hgd]) h
  ·rename_i j want hgd
   split at h
   ·cases h
   ·rename_i t ht
    have ht':(ops[j]?).bind (·.dst)=some t:=by simpa [Qjj] using ht
    cases hu:Qm7 e t with
    | true=>
     rw[hu,aLB] at h
     have hw:Region.wanted o (yielded ops a.tmps)=false:=by simp only[Region.wanted,hgd,QvK hr ht' (Qsv hu)];rfl
     rw[hw,if_neg (by simp)]
     obtain⟨g',_,_,hr'⟩:=hr.dst 0 o.dst (d:=.und) (v:=undef) rfl
     exact ih (i+1) _ g' _ w hl' h hr' (hle.trans (Qkl _ _ _)) (hR i o a undef ho hk)
    | false=>
    rw[hu,aLC] at h
    split at h
    ·cases h
    ·rename_i c hc
     have hcd:=Qr6 hc
     have hy:=Qv9 hr ht' hcd
     have no:c=(!want)->regK C id ops.toList (i+1) l ((setG e t (!want)).dst o.dst .und) k=some r->
       (if Region.wanted o (yielded ops a.tmps)=true then o.wp P a w (wpOps P ops Q (List.range' (i+1) l.length)) Q\/(o.asks P a w/\LetsOut Q) else wpOps P ops Q (List.range' (i+1) l.length) (a.put o.dst undef) w):=by
      intro hcw h
      rw[<-hcw,Qrt hcd] at h
      have hw:Region.wanted o (yielded ops a.tmps)=false:=by simp only[Region.wanted,hgd,hy,hcw];cases want<;>rfl
      rw[hw,if_neg (by simp)]
      obtain⟨g',_,_,hr'⟩:=hr.dst 0 o.dst (d:=.und) (v:=undef) rfl
      exact ih (i+1) _ g' _ w hl' h hr' (hle.trans (Qkl _ _ _)) (hR i o a undef ho hk)
     have yes:c=want->runE (Qq C (memP id i C.frz) (setG e t want) o) (fun e=>regK C id ops.toList (i+1) l e k)=some r->
       (if Region.wanted o (yielded ops a.tmps)=true then o.wp P a w (wpOps P ops Q (List.range' (i+1) l.length)) Q\/(o.asks P a w/\LetsOut Q) else wpOps P ops Q (List.range' (i+1) l.length) (a.put o.dst undef) w):=by
      intro hcw h
      subst hcw
      rw[Qrt hcd] at h
      exact act e hr hle (by simp only[Region.wanted,hgd,hy];cases c<;>rfl) h
     cases want<;>cases c<;>simp only[aLB,aLC] at h
     ·exact yes rfl h
     ·exact no rfl h
     ·exact no rfl h
     ·exact yes rfl h
theorem Rel.drew {g:Gh} {e:Env} {a:Act} {w:World} (h:Rel P B g e a w):Rel P B g e a { w with drawn:=w.drawn+1 }:=
 h.fly rfl (fun _ _ _=>⟨rfl,rfl⟩) ⟨rfl,rfl,rfl,Nat.le_refl _,Nat.le_succ _⟩ h.lt
theorem QAY (hT:Q0 P C) (hC:Qb5 P B.g0 B.dm C) (hm:P.follows .mixedOrders=true) {R:Type} {id:Nat} {ops:Array Oper} {draw:Bool} {k:Env->Option R} {r:R} {Rk:Act->Prop} (hR:∀(i:Nat) (o:Oper) (a:Act) (v:Value),ops[i]? = some o->Rk a->Rk (a.put o.dst v))
  {Q:Exit->Act->World->Prop} {e:Env} {g:Gh} {a:Act} {w:World} (h:(bif draw then regD C id ops.toList 0 ops.toList [] e k else regK C id ops.toList 0 ops.toList e k)=some r) (hr:Rel P B g e a w) (hk:Rk a)
  (hQ:∀g' e' a' w',Rel P B g' e' a' w'->Za e e'->Rk a'->k e'=some r->Q .normal a' w'):(Code.region id ops draw).wp P Q a w:=by
 cases draw with
 | false=>
  simp only[aLC] at h
  refine wp_region ?_
  rw[List.range_eq_range']
  have:=QDM hT hC hR (e00:=e) hQ ops.toList 0 e g a w (fun j=>by simp) h hr (.refl e) hk
  simpa using this
 | true=>
  simp only[aLB] at h
  obtain⟨L,hL,htr,hle,hkk⟩:=QAj (B:=B) hT hC ops.toList [] e (fun j=>by simp) h
  simp only[aLj] at hle hkk
  refine wp_region_any hm ?_
  refine wpAny_of_held (S:=fun _=>True) _ _ _ _ ?_
  refine QxH (by simpa using hL) htr (fun i o a v _=>hR i o a v) (fun _ _ _ _ _ _ _=>trivial) (fun g' a' w' hr' hk'=>hQ g' _ a' w' hr' hle hk' hkk) _ _ g a _ (by simp) (by
   have:=List.countP_le_length (p:=fun j=>!(Array.replicate ops.size false).getD j false) (l:=List.range ops.size)
   simpa using this) (fun i o hi=>?_) (fun i hi=>by cases hi) ?_ hk
  ·exfalso
   by_cases hio:i<ops.size
   ·simp[Array.getD,hio] at hi
   ·simp[Array.getD,hio] at hi
  ·have:QG (fun j=>(Array.replicate ops.size false).getD j false) 0 L e=e:=by
    have hz:(fun j=>(Array.replicate ops.size false).getD j false)=fun _=>false:=by
     funext j
     by_cases hj:j<ops.size
     ·simp[Array.getD,hj]
     ·simp[Array.getD,hj]
    rw[hz]
    have hn:∀(l:List Ent) (j:Nat) (e:Env),QG (fun _=>false) j l e=e:=by
     intro l;induction l with
     | nil=>intro j e;rfl
     | cons E l ih=>intro j e;simp only[QG,aLC];exact ih _ _
    exact hn L 0 e
   rw[this];exact hr.drew
end Go.Dx
namespace Go.Dx
variable {P:Program} {B:Base} {C:Ctx}
theorem QK.rel {a:Act} {w w':World} {o:Oper} {e':Env} {v:Value} (h:QK P B a w o e') (hr:(execOp a.eval o).run P w=.ok (.value v) w'):∃g',Rel P B g' e' (a.put o.dst v) w':=by
 have:=h (fun a' w'=>∃g',Rel P B g' e' a' w') (fun _ _ _=>False) (fun g' a' w' hr _=>⟨g',hr⟩)
 unfold Oper.wp at this
 rw[hr] at this
 exact this
theorem QBW (hT:Q0 P C) (hC:Qb5 P B.g0 B.dm C) {g:Gh} {e:Env} {a:Act} {w:World} (h:Rel P B g e a w) {o:Oper} (he:Qix e o=true) {f:Eff} {e':Env} (hs:Qxr C e o=some f) (hf:f.gives e') :
  ∃v g',(execOp a.eval o).run P w=.ok (.value v) w/\Rel P B g' e' (a.put o.dst v) w/\Za e e'/\((∀t x,o.op ≠ .load t x)->∀w',(execOp a.eval o).run P w'=.ok (.value v) w'):=by
 have hnl:(∀t x,o.op ≠ .load t x)->Qq C false e o=some f:=fun hno=>by
  unfold Qxr at hs
  split at hs
  ·rename_i t x hop;exact absurd hop (hno t x)
  ·exact hs
 unfold Qix at he
 simp only[aLg] at he
 obtain⟨⟨_,_⟩,he⟩:=he
 split at he
 ·rename_i x hop
  have hs:=hnl (fun t x=>by rw[hop];exact fun hh=>by cases hh)
  have hst:=Ql9 hT hC h hs hf
  have hle:=Qd2 hs hf
  have hr:∀w',(execOp a.eval o).run P w'=.ok (.value (a.eval x)) w':=fun w'=>by simp[execOp,hop]
  obtain⟨g',h'⟩:=hst.rel (hr w)
  exact⟨_,g',hr w,h',hle,fun _=>hr⟩
 ·rename_i t x n hop
  have hs:=hnl (fun t x=>by rw[hop];exact fun hh=>by cases hh)
  have hst:=Ql9 hT hC h hs hf
  have hle:=Qd2 hs hf
  split at he
  ·rename_i r ver p hd
   obtain⟨Tx,hx,_,_⟩:=QD h x
   simp only[Qq,hop,aLa] at hs
   obtain⟨ti,hti,hs⟩:=hs
   split at hs
   ·rename_i fs htd
    cases hlt:Nat.blt n fs.length with
    | false=>simp[hlt] at hs
    | true=>
     obtain⟨u,hu⟩:∃u,fs[n]? = some u:=⟨_,aLf (QfJ hlt)⟩
     rw[hd] at hx
     obtain⟨⟨ad,hv⟩,_⟩:=hx
     have hr:∀w',(execOp a.eval o).run P w'=.ok (.value (.pointer (some (ad.add u.1)))) w':=fun w'=>by simp[execOp,hop,hv,QlS hT hti htd hu]
     obtain⟨g',h'⟩:=hst.rel (hr w)
     exact⟨_,g',hr w,h',hle,fun _=>hr⟩
   ·cases hs
  ·cases he
 ·rename_i t x i hop
  have hs:=hnl (fun t x=>by rw[hop];exact fun hh=>by cases hh)
  have hst:=Ql9 hT hC h hs hf
  have hle:=Qd2 hs hf
  obtain⟨Tx,hx,_,_⟩:=QD h x
  obtain⟨Ti,hi,_,_⟩:=QD h i
  simp only[Qq,hop,aLa] at hs
  obtain⟨ti,hti,⟨k,n⟩,hn,y,hy,hs⟩:=hs
  have hiv:=Qha h hi hn
  split at hs
  ·rename_i s fl xs
   cases hc:decide (ti.sh=.list s)&&fl.islh with
   | false=>simp[hc] at hs
   | true=>
    rw[hc,aLB] at hs
    simp only[aLg,aLF] at hc
    obtain⟨hsh,hnx⟩:=hc
    obtain⟨d,hd,hs⟩:=aLa.1 hs
    simp only[aLb] at hs;subst hs;obtain⟨hin,_⟩:=hf
    simp only[inB,aLg,aLF] at hin
    obtain⟨S1,r1,_⟩:=QiU h hx hy (QAb hnx)
    simp only at r1
    obtain⟨A,cap,hv,_,hA⟩:=Qwc hnx r1
    obtain⟨b,off,rfl⟩:=hA (by have h1:=hin.1;have h2:=hin.2;omega)
    have hr:∀w',(execOp a.eval o).run P w'=.ok (.value (.pointer (some ⟨b,off+n.toNat * s.size,none⟩))) w':=fun w'=>by
     have hrun:=Ql3 (w:=w') hT hti hsh (b:=b) (off:=off) (cap:=cap) (k:=k) hin.1 hin.2
     simp[execOp,hop,hv,hiv,hrun]
    obtain⟨g',h'⟩:=hst.rel (hr w)
    exact⟨_,g',hr w,h',hle,fun _=>hr⟩
  ·cases hs
 ·rename_i t x hop
  split at he
  ·rename_i r ver p hd
   simp only[aLg] at he
   obtain⟨_,he⟩:=he
   split at he
   ·rename_i S0 F0 X0 hdr0
    obtain⟨Tx,hx,_,_⟩:=QD h x
    simp only[Qxr,hop,aLd] at hs
    obtain⟨e1,hs,rfl⟩:=hs
    obtain rfl:e'=_:=hf
    unfold QzS at hs
    rw[hd] at hs hx
    simp only at hs
    obtain⟨ti,hti,hs⟩:=aLa.1 hs
    rw[hdr0] at hs
    simp only at hs
    obtain⟨y,hl,hs⟩:=aLa.1 hs
    cases hc:decide (y.sh=ti.sh)&&okS y.sh y.fl with
    | false=>simp[hc] at hs
    | true=>
     rw[hc,aLB] at hs
     simp only[aLb] at hs
     subst hs
     simp only[aLg,aLF] at hc
     obtain⟨hsh,hok⟩:=hc
     obtain⟨b,off,hpt,hver,S,F,X,hdr,hg,hp,hA,hcl,hrep⟩:=Qtd h hx hl (YN hok)
     obtain⟨v,hrun,hform,hcv⟩:=Qly (hT t ti hti) (w:=w) (b:=b) (o:=off) (by rw[<-hsh];exact QfM hok hrep)
     have hr:(execOp a.eval o).run P w=.ok (.value v) w:=by simp[execOp,hop,hpt,hrun]
     have hb:Qs P g e a w Tx (.bor r ((e.root r).stampB p) p) v:=by
      refine⟨Nat.le_refl _,fun _ S' F' X' hdr'=>?_⟩
      rw[hdr] at hdr'
      obtain⟨rfl,rfl,hX⟩:=Yb hdr'
      subst hX
      refine⟨hp,fun _ s hs=>?_⟩
      rw[ZM p hg] at hs
      simp only[aLb] at hs
      subst hs
      rw[hcl,hsh]
      exact⟨hform,fun k hk=>hcv k hk⟩
     obtain⟨g',h'⟩:=Zc h o.dst rfl hb
     exact⟨v,g',hr,h',Qkl e o.dst _,fun hno=>absurd hop (hno t x)⟩
   ·cases he
  ·cases he
 ·cases he
def QjS (ops:Array Oper) (i:Nat):Option Tmp:=(ops[i]?).bind (·.dst)
def Qcu (ops:Array Oper):List Nat->List Value->Act->Act
 | i::es,v::vs,a=>Qcu ops es vs (a.put (QjS ops i) v)
 | _,_,a=>a
def SOf (P:Program) (ops:Array Oper):List Nat->List Value->Act->World->Prop
 | i::es,v::vs,a,w=>(∀o,ops[i]? = some o->(execOp a.eval o).run P w=.ok (.value v) w)/\SOf P ops es vs (a.put (QjS ops i) v) w
 | _,_,_,_=>True
def QaI:List Nat->Array Bool->Array Bool
 | [],l=>l
 | i::es,l=>QaI es (l.setIfInBounds i true)
def QnT (ops:Array Oper):List Nat->Array Bool->Prop
 | [],_=>True
 | i::es,l=>i ∈ Region.ready .any ops l/\QnT ops es (l.setIfInBounds i true)
def Again (P:Program) (ops:Array Oper) (es:List Nat) (a1:Act) (w:World):Prop:=
 ∀i o t tx td,i ∈ es->ops[i]? = some o->o.op=.load t (.tmp tx)->o.dst=some td->∀ev:Operand->Value,ev (.tmp tx)=a1.tmps.getD tx undef->(execOp ev o).run P w=.ok (.value (a1.tmps.getD td undef)) w
theorem Qym {a:Act} {d t:Tmp} {v:Value} (h:d ≠ t):(a.put (some d) v).tmps.getD t undef=a.tmps.getD t undef:=by
 by_cases hd:d<a.tmps.size
 ·rw[Qj2 a d t v hd,if_neg h]
 ·have:a.put (some d) v=a:=by
   cases a with
   | mk t df=>simp only[Act.put,Act.mk.injEq,and_true];exact Array.setIfInBounds_eq_of_size_le (Nat.le_of_not_lt hd)
  rw[this]
theorem QC7 {a:Act} {d:Tmp} {v:Value} (h:d<a.tmps.size):(a.put (some d) v).tmps.getD d undef=v:=by
 rw[Qj2 a d d v h,if_pos rfl]
theorem QlV (ops:Array Oper):∀(es:List Nat) (vs:List Value) (a:Act) (t:Tmp),(∀j,j ∈ es->∀d,QjS ops j=some d->d ≠ t)->(Qcu ops es vs a).tmps.getD t undef=a.tmps.getD t undef
 | [],_,_,_,_=>rfl
 | i::es,[],_,_,_=>rfl
 | i::es,v::vs,a,t,h=>by
  simp only[Qcu]
  rw[QlV ops es vs _ t (fun j hj=>h j (aLp _ hj))]
  cases hd:QjS ops i with
  | none=>rfl
  | some d=>exact Qym (h i aLm d hd)
theorem Qzd (ops:Array Oper):∀(es:List Nat) (vs:List Value) (a:Act),(Qcu ops es vs a).tmps.size=a.tmps.size
 | [],_,_=>rfl
 | i::es,[],_=>rfl
 | i::es,v::vs,a=>by simp only[Qcu];rw[Qzd ops es vs,Qya]
theorem QB3 {ops:Array Oper} {i:Nat} {es:List Nat} {o:Oper} (h:QdN ops.toList (i::es)=true) (ho:ops[i]? = some o):∃d,o.dst=some d/\memN d (QjT o.op.operands.toList)=false/\
  ∀j,j ∈ es->∀d',QjS ops j=some d'->d' ≠ d/\memN d' (QjT o.op.operands.toList)=false:=by
 simp only[QdN,aLg] at h
 obtain⟨h,_⟩:=h
 have ho':ops.toList[i]? = some o:=by simpa using ho
 rw[ho'] at h
 simp only[aLg,List.all_eq_true] at h
 obtain⟨h1,h2⟩:=h
 cases hd:o.dst with
 | none=>rw[hd] at h1;cases h1
 | some d=>
  rw[hd] at h1
  refine⟨d,rfl,by simpa using h1,fun j hj d' hd'=>?_⟩
  have:=h2 j hj
  unfold QjS at hd'
  cases hoj:ops[j]? with
  | none=>rw[hoj] at hd';cases hd'
  | some o'=>
   rw[hoj] at hd'
   have hoj':ops.toList[j]? = some o':=by simpa using hoj
   rw[hoj'] at this
   have hd'2:o'.dst=some d':=hd'
   simp only[QvR,hd,hd'2,aLg,Bool.not_eq_true'] at this
   refine⟨fun e=>?_,this.2⟩
   subst e
   rw[Nat.beq_refl] at this
   cases this.1
theorem QCg (hT:Q0 P C) (hC:Qb5 P B.g0 B.dm C) {R:Type} {ops:Array Oper} {k:Env->Option R} {r:R} (hsel:Region.noSelect ops=true) {Q:Exit->Act->World->Prop} (hQ:∀c a a' w,Q (.panic c) a w->Q (.panic c) a' w) :
  ∀(es:List Nat) (lst:Array Bool) (e:Env) (g:Gh) (a:Act) (w:World),Qua C ops es lst e k=some r->QdN ops.toList es=true->Rel P B g e a w->
  ∃vs g1 e1,vs.length=es.length/\QnT ops es lst/\Rel P B g1 e1 (Qcu ops es vs a) w/\Za e e1/\k e1=some r/\SOf P ops es vs a w/\(∀w',Again P ops es (Qcu ops es vs a) w'->SOf P ops es vs a w')/\
   (∀(S:World->Prop) (fuel:Nat),(∀w',S w'->SOf P ops es vs a w')->S w->wpAnyH P .any ops Q S fuel (QaI es lst) (Qcu ops es vs a) w->wpAnyH P .any ops Q S (fuel+es.length) lst a w):=by
 intro es
 induction es with
 | nil=>
  intro lst e g a w h _ hr
  exact⟨[],g,e,rfl,trivial,hr,.refl e,h,trivial,fun _ _=>trivial,fun S fuel _ _ h=>h⟩
 | cons i es ih=>
  intro lst e g a w h hda hr
  unfold Qua at h
  obtain⟨o,ho,h⟩:=aLa.1 h
  cases hc:Qix e o&&Region.free .any ops lst i&&(Region.ready .any ops lst).contains i with
  | false=>rw[hc] at h;cases h
  | true=>
   rw[hc,aLB] at h
   simp only[aLg] at hc
   obtain⟨⟨hearly,hfree⟩,hready⟩:=hc
   obtain⟨f,e',hs,hf,h⟩:=QjO h
   obtain⟨v,g',hrun,hrel,hle1,hall⟩:=QBW hT hC hr hearly hs hf
   have hdst:QjS ops i=o.dst:=by unfold QjS;rw[ho];rfl
   have hda2:QdN ops.toList es=true:=by simp only[QdN,aLg] at hda;exact hda.2
   rw[<-hdst] at hrel
   obtain⟨vs,g1,e1,hl,hrdy,hrel1,hle,hk,hS,hag,hwp⟩:=ih _ e' g' _ w h hda2 hrel
   obtain⟨d,hd,hdo,hdl⟩:=QB3 hda ho
   refine⟨v::vs,g1,e1,by simp[hl],⟨by simpa using hready,hrdy⟩,hrel1,hle1.trans hle,hk,⟨fun o' ho'=>by rw[ho] at ho';cases ho';exact hrun,hS⟩,fun w' hA=>⟨fun o' ho'=>?_,hag w' (fun j o2 t tx td hj=>hA j o2 t tx td (aLp _ hj))⟩,fun S fuel hSS hSw hk2=>?_⟩
   ·rw[ho] at ho';cases ho'
    by_cases hld:∃t x,o.op=.load t x
    ·obtain⟨t,x,hop⟩:=hld
     have hx:∃tx,x=.tmp tx:=by
      unfold Qix at hearly
      simp only[hop,aLg] at hearly
      obtain⟨⟨_,_⟩,hearly⟩:=hearly
      cases x with
      | tmp tx=>exact⟨tx,rfl⟩
      | const v=>simp only[Env.opd,QmO] at hearly;split at hearly<;>(first | cases hearly | (rename_i hh;split at hh<;>cases hh))
      | global gl=>simp[Env.opd] at hearly
      | func j=>simp[Env.opd] at hearly
     obtain⟨tx,rfl⟩:=hx
     have hmem:memN tx (QjT o.op.operands.toList)=true:=by rw[hop];simp[Op.operands,QjT,memN]
     have hne:d ≠ tx:=by rintro rfl;rw[hmem] at hdo;cases hdo
     have htx:(Qcu ops (i::es) (v::vs) a).tmps.getD tx undef=a.tmps.getD tx undef:=by
      refine QlV ops _ _ _ _ (fun j hj d' hd'=>?_)
      rcases List.mem_cons.1 hj with rfl | hj
      ·rw[hdst,hd] at hd';cases hd';exact hne
      ·rintro rfl;rw[(hdl j hj d' hd').2] at hmem;cases hmem
     have hsz:d<a.tmps.size:=by
      have:=hearly
      unfold Qix at this
      simp only[aLg] at this
      have:=this.1.2
      unfold QDq at this
      rw[hd] at this
      rw[hr.len]
      exact QfJ this
     have hA':=hA i o t tx d aLm ho hop hd a.eval (by rw[htx];rfl)
     rw[hA']
     have:(Qcu ops (i::es) (v::vs) a).tmps.getD d undef=v:=by
      simp only[Qcu]
      rw[QlV ops es vs _ d (fun j hj d' hd'=>(hdl j hj d' hd').1),hdst,hd,QC7 hsz]
     rw[this]
    ·exact hall (fun t x hh=>hld ⟨t,x,hh⟩) w'
   ·have hlen:fuel+(i::es).length=(fuel+es.length)+1:=by simp;omega
    rw[hlen]
    have hy:YieldsIf P ops S o v a:=.inl ⟨by
     unfold Qix at hearly
     simp only[aLg,Option.isNone_iff_eq_none] at hearly
     simp[Region.wanted,hearly.1.1],fun w' hw'=>(hSS w' hw').1 o ho⟩
    refine wpAnyH_take (v:=v) ho hsel hfree hready (fun c a' w' hh=>hQ c _ _ w' hh) hy hSw ?_
    have:=hwp S fuel (fun w' hw'=>(hSS w' hw').2) hSw (by exact hk2)
    rw[hdst] at this
    exact this
def cntU (ops:Array Oper) (l:Array Bool):Nat:=(List.range ops.size).countP (fun j=>!l.getD j false)
theorem QsQ {l:Array Bool} {i:Nat} (hil:i<l.size) (j:Nat):(l.setIfInBounds i true).getD j false=(l.getD j false || Nat.beq j i):=by
 by_cases hji:j=i
 ·subst hji;simp[Array.getD,hil]
 ·rw[getD_set_ne false (Ne.symm hji)]
  have:Nat.beq j i=false:=by
   cases hb:Nat.beq j i with
   | false=>rfl
   | true=>exact absurd (aLw hb) hji
  rw[this,Bool.or_false]
theorem Qx8 {ops:Array Oper} {l:Array Bool} (hsz:l.size=ops.size) {i:Nat} (h:i ∈ Region.ready .any ops l):i<ops.size/\l.getD i false=false/\∀o,ops[i]? = some o->∀d,d ∈ Zs o->l.getD d false=true:=by
 rw[mem_ready] at h
 obtain⟨h1,o,ho,hdeps⟩:=h
 have hio:i<ops.size:=by
  rcases Nat.lt_or_ge i ops.size with h | h
  ·exact h
  ·rw[Array.getElem?_eq_none h] at ho;cases ho
 have hil:i<l.size:=by omega
 refine⟨hio,by simp[Array.getD,hil] at h1 ⊢;exact h1,fun o' ho' d hd=>?_⟩
 rw[ho] at ho';cases ho'
 simp only[Zs,List.mem_map,List.mem_filter] at hd
 obtain⟨x,⟨hx,hb⟩,rfl⟩:=hd
 exact hdeps x (by simpa using hx) hb
theorem QCK {ops:Array Oper} {l:Array Bool} (hsz:l.size=ops.size) {i:Nat} (hio:i<ops.size) (hni:l.getD i false=false):cntU ops (l.setIfInBounds i true)+1<=cntU ops l:=by
 have hset:=QsQ (l:=l) (i:=i) (by omega)
 have gen:∀(m:List Nat),i ∈ m->m.countP (fun j=>!(l.setIfInBounds i true).getD j false)<m.countP (fun j=>!l.getD j false):=by
  intro m
  have le:∀(m:List Nat),m.countP (fun j=>!(l.setIfInBounds i true).getD j false)<=m.countP (fun j=>!l.getD j false):=fun m=>List.countP_mono_left (fun j _ hj=>by
   simp only[hset j,Bool.not_eq_true',Bool.or_eq_false_iff] at hj ⊢;exact hj.1)
  induction m with
  | nil=>intro h;cases h
  | cons x m ihl=>
   intro hx
   simp only[List.countP_cons]
   by_cases hxi:x=i
   ·subst hxi
    have h2:=le m
    rw[if_neg (by rw[hset x,hni];simp),if_pos (by rw[hni];rfl)];omega
   ·have hx':i ∈ m:=(List.mem_cons.1 hx).resolve_left (Ne.symm hxi)
    have h2:=ihl hx'
    have h3:(l.setIfInBounds i true).getD x false=l.getD x false:=getD_set_ne false (Ne.symm hxi)
    rw[h3];omega
 exact gen _ (List.mem_range.2 hio)
theorem QvZ {ops:Array Oper}:∀(es:List Nat) (l:Array Bool),l.size=ops.size->QnT ops es l->(∀i o,l.getD i false=true->ops[i]? = some o->∀d,d ∈ Zs o->l.getD d false=true)->
  (QaI es l).size=ops.size/\cntU ops (QaI es l)+es.length<=cntU ops l/\(∀i,l.getD i false=true->(QaI es l).getD i false=true)/\(∀i,i ∈ es->(QaI es l).getD i false=true)/\
  (∀i o,(QaI es l).getD i false=true->ops[i]? = some o->∀d,d ∈ Zs o->(QaI es l).getD d false=true)
 | [],l,hsz,_,hcl=>⟨hsz,by simp[QaI],fun _ h=>h,(fun _ h=>nomatch h),hcl⟩
 | i::es,l,hsz,hr,hcl=>by
  obtain⟨h1,h2⟩:=hr
  obtain⟨hio,hni,hdep⟩:=Qx8 hsz h1
  have hset:=QsQ (l:=l) (i:=i) (by omega)
  have hc:=QCK hsz hio hni
  obtain⟨k1,k2,k3,k4,k5⟩:=QvZ es (l.setIfInBounds i true) (by simpa using hsz) h2 (fun j o hj ho d hd=>by
   rw[hset] at hj ⊢
   rcases Bool.or_eq_true _ _ ▸ hj with hj | hj
   ·rw[hcl j o hj ho d hd];rfl
   ·have:=aLw hj
    subst this
    rw[hdep o ho d hd];rfl)
  refine⟨k1,by simp only[QaI,aLh];omega,fun j hj=>k3 j (by rw[hset,hj];rfl),fun j hj=>?_,k5⟩
  rcases List.mem_cons.1 hj with rfl | hj
  ·exact k3 j (by rw[hset,Nat.beq_refl,Bool.or_true])
  ·exact k4 j hj
theorem Qsj {ops:Array Oper}:∀(es:List Nat) (l:Array Bool),l.size=ops.size->QnT ops es l->∀j,(QaI es l).getD j false=true->l.getD j false=true\/j ∈ es
 | [],l,_,_,j,h=>.inl h
 | i::es,l,hsz,hr,j,h=>by
  obtain⟨h1,h2⟩:=hr
  obtain⟨hio,_,_⟩:=Qx8 hsz h1
  rcases Qsj es (l.setIfInBounds i true) (by simpa using hsz) h2 j h with h | h
  ·rw[QsQ (by omega)] at h
   rcases Bool.or_eq_true _ _ ▸ h with h | h
   ·exact .inl h
   ·exact .inr (by rw[aLw h];exact aLm)
  ·exact .inr (aLp _ h)
theorem Qrq (s e:Env):mrgE Msk.emp s e=e:=by
 cases e;simp[mrgE,Msk.emp,mrgL]
theorem Qux (r:Root):Msk.emp.has r=false:=by cases r<;>simp[Msk.emp,Msk.has]
def QAI (q:KL) (E:Ent):Prop:=E.W.has (.s q.tx)=false/\E.W.has (.s q.td)=false/\(E.W.has q.r=true->(E.s.root q.r).id=q.id/\(E.s.root q.r).hv=q.hv/\isVS q.S (E.s.root q.r).d=true)
theorem QAz (hT:Q0 P C) (hC:Qb5 P B.g0 B.dm C) {R:Type} {id:Nat} {ops:Array Oper} {es:List Nat} {kl:List KL} {k:Env->Option R} {r:R}:∀(l:List Oper) (L0:List Ent) (e:Env),(∀j,l[j]? = ops[L0.length+j]?)->regH C id ops.toList es kl L0.length l (L0.map Ent.tr) e k=some r->
  ∃L,L.length=l.length/\Yf P B ops (fun i=>memN i es) L0 L e/\Za e (QG (fun _=>true) L0.length L e)/\k (QG (fun _=>true) L0.length L e)=some r/\(∀E,E ∈ L->∀q,q ∈ kl->QAI q E)/\
   (∀j o,l[j]? = some o->memN (L0.length+j) es=false->∀q,q ∈ kl->Qjh o q.tx=true/\Qjh o q.td=true)/\
   (∀j E,L[j]? = some E->memN (L0.length+j) es=true->E.W=.emp):=by
 intro l
 induction l with
 | nil=>intro L0 e _ h;exact⟨[],rfl,trivial,.refl e,h,(fun E hE=>nomatch hE),(fun j o hj=>by simp at hj),(fun j E hj=>by simp at hj)⟩
 | cons o l ih=>
  intro L0 e hl h
  have ho:ops[L0.length]? = some o:=by simpa using (hl 0).symm
  have hl':∀j,l[j]? = ops[L0.length+(0+1)+j]?:=fun j=>by
   have:=hl (j+1)
   rw[show L0.length+(0+1)+j=L0.length+(j+1) by omega]
   simpa using this
  unfold regH at h
  simp only at h
  cases hm:memN L0.length es with
  | true=>
   rw[hm,aLB] at h
   cases hc:(Zs o).all (fun d=>Nat.blt d L0.length) with
   | false=>rw[hc] at h;cases h
   | true=>
    rw[hc,aLB] at h
    simp only[List.all_eq_true] at hc
    let E:Ent:=⟨J1 (L0.map Ent.tr) o,.emp,.emp,e⟩
    have h':regH C id ops.toList es kl (L0++[E]).length l ((L0++[E]).map Ent.tr) e k=some r:=by
     simp only[aLi,aLh,aLj,List.map_append,List.map_cons,List.map_nil]
     exact h
    obtain⟨L,hL,htr,hle2,hk,hkp,hnd,hem⟩:=ih (L0++[E]) e (fun j=>by simpa using hl' j) h'
    simp only[aLi,aLh,aLj,Nat.zero_add] at hle2 hk hnd hem
    refine⟨E::L,by simp[hL],⟨.inl hm,⟨rfl,rfl,by simp[E,Msk.emp,Msk.sub,subL],⟨o,ho,rfl,fun d hd=>?_⟩,?_⟩,?_⟩,?_,?_,fun E' hE' q hq=>?_,fun j o' hj hmj q hq=>?_,fun j E' hj hmj=>?_⟩
    ·have:=hc d hd;rwa [Nat.blt_eq] at this
    ·have:∀(j:Nat) (m:List Tr),YB E.anc Msk.emp Msk.emp j m=true:=by
      intro j m
      induction m generalizing j with
      | nil=>simp only[YB]
      | cons t m ihm=>
       simp only[YB,ihm,Bool.and_true]
       have e1:Qk4 Msk.emp t.T=true:=by simp[Qk4,Msk.emp,Jq]
       have e2:Qk4 t.W Msk.emp=true:=by simp[Qk4,Msk.emp,Jq]
       rw[e1,e2];simp
     exact this _ _
    ·show Yf P B ops _ (L0++[E]) L (mrgE Msk.emp e e)
     rw[Qrq];exact htr
    ·simp only[QG,aLB]
     show Za e (QG _ _ L (mrgE Msk.emp e e))
     rw[Qrq];exact hle2
    ·simp only[QG,aLB]
     show k (QG _ _ L (mrgE Msk.emp e e))=some r
     rw[Qrq];exact hk
    ·rcases List.mem_cons.1 hE' with rfl | hE'
     ·exact⟨Qux _,Qux _,fun hh=>by rw[show E.W=Msk.emp from rfl,Qux] at hh;cases hh⟩
     ·exact hkp E' hE' q hq
    ·cases j with
     | zero=>rw[Nat.add_zero,hm] at hmj;cases hmj
     | succ j=>exact hnd j o' (by simpa using hj) (by rw[show L0.length+1+j=L0.length+(j+1) by omega];exact hmj) q hq
    ·cases j with
     | zero=>simp only[aLt,aLb] at hj;subst hj;rfl
     | succ j=>exact hem j E' (by simpa using hj) (by rw[show L0.length+1+j=L0.length+(j+1) by omega];exact hmj)
  | false=>
   rw[hm,aLC] at h
   split at h
   ·cases h
   ·rename_i hgd
    obtain⟨f,s',hs,hf,hk⟩:=QjO h
    have hfit:=Qn4 ops.toList e o
    cases hc:(chgE (Qo (touch ops.toList e o) e) s').sub (touch ops.toList e o)&&Qcq (touch ops.toList e o) e o&&(Zs o).all (fun d=>Nat.blt d L0.length)&&YB (J1 (L0.map Ent.tr) o) (touch ops.toList e o) (chgE (Qo (touch ops.toList e o) e) s') 0 (L0.map Ent.tr)&&kl.all (QAf (chgE (Qo (touch ops.toList e o) e) s') s' o) with
    | false=>rw[hc] at hk;cases hk
    | true=>
     rw[hc,aLB] at hk
     simp only[aLg,List.all_eq_true] at hc
     obtain⟨⟨⟨⟨hsub,hdst⟩,hdep⟩,hap⟩,hkl⟩:=hc
     have hle:=Qd2 hs hf
     obtain⟨f',hf',hg'⟩:=Qom hfit rfl rfl (fun _ _=>rfl) hdst hs hf
     let E:Ent:=⟨J1 (L0.map Ent.tr) o,touch ops.toList e o,chgE (Qo (touch ops.toList e o) e) s',s'⟩
     have h':regH C id ops.toList es kl (L0++[E]).length l ((L0++[E]).map Ent.tr) (mrgE E.W s' e) k=some r:=by
      simp only[aLi,aLh,aLj,List.map_append,List.map_cons,List.map_nil]
      exact hk
     obtain⟨L,hL,htr,hle2,hkk,hkp,hnd,hem⟩:=ih (L0++[E]) _ (fun j=>by simpa using hl' j) h'
     simp only[aLi,aLh,aLj,Nat.zero_add] at hle2 hkk hnd hem
     have hk1:∀q,q ∈ kl->QAI q E/\Qjh o q.tx=true/\Qjh o q.td=true:=fun q hq=>by
      have:=hkl q hq
      simp only[QAf,aLg,Bool.not_eq_true',Bool.or_eq_true] at this
      obtain⟨⟨⟨⟨a1,a2⟩,a3⟩,a4⟩,a5⟩:=this
      refine⟨⟨a1,a2,fun hh=>?_⟩,a3,a4⟩
      rcases a5 with a5 | a5
      ·rw[show E.W.has q.r=false from a5] at hh;cases hh
      ·exact⟨aLw a5.1.1,aLw a5.1.2,a5.2⟩
     refine⟨E::L,by simp[hL],⟨.inr (Qv5 hT hC ho (.inl ⟨hgd,rfl⟩) hfit hdst hs hf),⟨hle.sl.trans (Y5 _ _),hle.bl.trans (Y5 _ _),hsub,⟨o,ho,rfl,fun d hd=>?_⟩,hap⟩,htr⟩,?_,?_,fun E' hE' q hq=>?_,fun j o' hj hmj q hq=>?_,fun j E' hj hmj=>?_⟩
     ·have:=hdep d hd;rwa [Nat.blt_eq] at this
     ·simp only[QG,aLB];exact (Qd2 hf' hg').trans hle2
     ·simp only[QG,aLB];exact hkk
     ·rcases List.mem_cons.1 hE' with rfl | hE'
      ·exact (hk1 q hq).1
      ·exact hkp E' hE' q hq
     ·cases j with
      | zero=>simp only[aLt,aLb] at hj;subst hj;exact (hk1 q hq).2
      | succ j=>exact hnd j o' (by simpa using hj) (by rw[show L0.length+1+j=L0.length+(j+1) by omega];exact hmj) q hq
     ·cases j with
      | zero=>rw[Nat.add_zero,hm] at hmj;cases hmj
      | succ j=>exact hem j E' (by simpa using hj) (by rw[show L0.length+1+j=L0.length+(j+1) by omega];exact hmj)
def Qxm (e1:Env) (q:KL) (r:Root) (c:Cel):Prop:=(r=.s q.tx->c=e1.s q.tx)/\(r=.s q.td->c=e1.s q.td)/\(r=q.r->c.id=q.id/\c.hv=q.hv/\isVS q.S c.d=true)
theorem Qob {e1:Env} {q:KL} (S:Nat->Bool):∀(L:List Ent) (j:Nat) (e:Env),QqA e L->(∀E,E ∈ L->QAI q E)->(∀r,Qxm e1 q r (e.root r))->∀r,Qxm e1 q r ((QG S j L e).root r)
 | [],_,_,_,_,h=>h
 | E::L,j,e,hl,hk,h=>by
  simp only[QG]
  obtain⟨l1,l2⟩:=hl E aLm
  cases S j with
  | false=>exact Qob S L (j+1) e (fun E' hE'=>hl E' (aLp _ hE')) (fun E' hE'=>hk E' (aLp _ hE')) h
  | true=>
   refine Qob S L (j+1) _ (fun E' hE'=>?_) (fun E' hE'=>hk E' (aLp _ hE')) (fun r=>?_)
   ·simp only[aLB];rw[Jz.1,Jz.2];exact hl E' (aLp _ hE')
   ·simp only[aLB]
    rw[Qiu l1 l2]
    obtain⟨k1,k2,k3⟩:=hk E aLm
    split
    ·rename_i hW
     exact⟨(fun hr=>by subst hr;rw[k1] at hW;cases hW),(fun hr=>by subst hr;rw[k2] at hW;cases hW),(fun hr=>by subst hr;exact k3 hW)⟩
    ·exact h r
theorem Qrg:∀{p q:List Step},Ju p q=true->p=q
 | [],[],_=>rfl
 | .fst::p,.fst::q,h=>by rw[Qrg (p:=p) (q:=q) h]
 | .snd::p,.snd::q,h=>by rw[Qrg (p:=p) (q:=q) h]
 | [],.fst::_,h=>by simp[Ju] at h
 | [],.snd::_,h=>by simp[Ju] at h
 | [],.idx _::_,h=>by simp[Ju] at h
 | [],.sub _ _::_,h=>by simp[Ju] at h
 | .fst::_,[],h=>by simp[Ju] at h
 | .snd::_,[],h=>by simp[Ju] at h
 | .idx _::_,q,h=>by simp[Ju] at h
 | .sub _ _::_,q,h=>by simp[Ju] at h
 | .fst::_,.snd::_,h=>by simp[Ju] at h
 | .snd::_,.fst::_,h=>by simp[Ju] at h
 | .fst::_,.idx _::_,h=>by simp[Ju] at h
 | .snd::_,.idx _::_,h=>by simp[Ju] at h
 | .fst::_,.sub _ _::_,h=>by simp[Ju] at h
 | .snd::_,.sub _ _::_,h=>by simp[Ju] at h
structure KLOk (C:Ctx) (e1:Env) (o:Oper) (q:KL):Prop where
 ex:∃t ti p hd,o.op=.load t (.tmp q.tx)/\o.dst=some q.td/\C.ty t=some ti/\Q1 ti.sh=false/\QE p=true/\getS q.S p=some ti.sh/\
  (e1.s q.tx).d=.loc q.r q.id p/\(e1.s q.td).d=.bor q.r hd p/\hd=q.hv
 rt:(e1.root q.r).id=q.id/\(e1.root q.r).hv=q.hv/\isVS q.S (e1.root q.r).d=true
theorem QC4 {e1:Env} {o:Oper} {m:List KL} (h:QAK C e1 o=some m):(∀q,q ∈ m->KLOk C e1 o q)/\(∀t tx td,o.op=.load t (.tmp tx)->o.dst=some td->∃q,q ∈ m/\q.tx=tx/\q.td=td):=by
 unfold QAK at h
 split at h
 ·rename_i t tx hop
  obtain⟨ti,hti,h⟩:=aLa.1 h
  split at h
  ·rename_i td r id p hd hx
   split at h
   ·rename_i r' hv p' S F X hb hr
    cases hc:decide (r=r')&&QE p&&Ju p p'&&Nat.beq (e1.root r).id id&&Nat.beq (e1.root r).hv hv&&!Q1 ti.sh&&decide (getS S p=some ti.sh) with
    | false=>rw[hc] at h;cases h
    | true=>
     rw[hc,aLB] at h
     simp only[aLb] at h
     subst h
     simp only[aLg,Bool.not_eq_true',aLF] at hc
     obtain⟨⟨⟨⟨⟨⟨rfl,c2⟩,c3⟩,c4⟩,c5⟩,c6⟩,c7⟩:=hc
     obtain rfl:=Qrg c3
     have c4:=aLw c4
     have c5:=aLw c5
     refine⟨fun q hq=>?_,fun t' tx' td' h1 h2=>⟨_,aLs.2 rfl,?_,?_⟩⟩
     ·rw[aLs] at hq
      subst hq
      exact⟨⟨t,ti,p,hv,hop,hd,hti,c6,c2,c7,hx,hb,rfl⟩,c4,c5,by rw[hr];simp[isVS]⟩
     ·rw[hop] at h1;cases h1;rfl
     ·rw[hd] at h2;cases h2;rfl
   ·cases h
  ·cases h
 ·cases h
 ·rename_i h1 h2
  simp only[aLb] at h
  subst h
  exact⟨fun q hq=>(nomatch hq),fun t tx td hop _=>absurd hop (h1 t tx)⟩
theorem QuR {e1:Env} {ops:Array Oper}:∀(es:List Nat) (kl:List KL),klOf C e1 ops.toList es=some kl->(∀q,q ∈ kl->∃o,KLOk C e1 o q)/\(∀i o t tx td,i ∈ es->ops[i]? = some o->o.op=.load t (.tmp tx)->o.dst=some td->∃q,q ∈ kl/\q.tx=tx/\q.td=td/\KLOk C e1 o q)
 | [],kl,h=>by simp only[klOf,aLb] at h;subst h;exact⟨fun q hq=>(nomatch hq),fun i o t tx td hi=>(nomatch hi)⟩
 | j::es,kl,h=>by
  unfold klOf at h
  obtain⟨o,ho,h⟩:=aLa.1 h
  obtain⟨m,hm,h⟩:=aLa.1 h
  obtain⟨m2,hm2,rfl⟩:=aLd.1 h
  obtain⟨h1,h2⟩:=QC4 hm
  obtain⟨h3,h4⟩:=QuR es m2 hm2
  refine⟨fun q hq=>?_,fun i o' t tx td hi ho' hop hd=>?_⟩
  ·rcases List.mem_append.1 hq with hq | hq
   ·exact⟨o,h1 q hq⟩
   ·exact h3 q hq
  ·rcases List.mem_cons.1 hi with rfl | hi
   ·have h5:ops.toList[i]? = some o':=by simpa using ho'
    have:o'=o:=by rw[ho] at h5;exact (Option.some.inj h5).symm
    subst this
    obtain⟨q,hq,e1,e2⟩:=h2 t tx td hop hd
    exact⟨q,List.mem_append_left _ hq,e1,e2,h1 q hq⟩
   ·obtain⟨q,hq,r⟩:=h4 i o' t tx td hi ho' hop hd
    exact⟨q,List.mem_append_right _ hq,r⟩
theorem QCu (hT:Q0 P C) {es:List Nat} {ops:Array Oper} {e1:Env} {kl:List KL} (hkl:klOf C e1 ops.toList es=some kl) {g':Gh} {e':Env} {a' a1:Act} {w':World} (hr:Rel P B g' e' a' w')
  (hq:∀q,q ∈ kl->∀r,Qxm e1 q r (e'.root r)) (ha:∀q,q ∈ kl->a'.tmps.getD q.tx undef=a1.tmps.getD q.tx undef/\a'.tmps.getD q.td undef=a1.tmps.getD q.td undef):Again P ops es a1 w':=by
 intro i o t tx td hi ho hop hd ev hev
 obtain⟨q,hqm,rfl,rfl,hk⟩:=(QuR es kl hkl).2 i o t tx td hi ho hop hd
 obtain⟨t',ti,p,hdv,k1,k2,hti,hli,hn,hS,hx,hb,rfl⟩:=hk.ex
 rw[hop] at k1
 simp only[Op.load.injEq,and_true] at k1
 obtain⟨rfl,_⟩:=k1
 have kx:=(hq q hqm (.s q.tx)).1 rfl
 have kd:=(hq q hqm (.s q.td)).2.1 rfl
 obtain⟨kid,khv,kv⟩:=(hq q hqm q.r).2.2 rfl
 obtain⟨S,F,X,hdr,rfl⟩:∃S F X,(e'.root q.r).d=.v S F X/\S=q.S:=by
  unfold isVS at kv
  split at kv
  ·rename_i S F X hdd;exact⟨S,F,X,hdd,aLG kv⟩
  ·cases kv
 have h1:=hr.sl q.tx
 have h2:=hr.sl q.td
 rw[show e'.s q.tx=e1.s q.tx from kx,hx] at h1
 rw[show e'.s q.td=e1.s q.td from kd,hb] at h2
 have h1:Qa3 g' e' a' w' q.r q.id p (a'.tmps.getD q.tx undef):=h1
 have h2:Qb2 g' e' a' w' q.r q.hv p (a'.tmps.getD q.td undef):=h2
 obtain⟨m1,m2⟩:=(h1.2.2 (by simp only[Cel.stamp,hn,aLB];exact kid)).2 q.S F X hdr
 obtain⟨b,off,hA,hpt⟩:=m2 (Qba p hn hS)
 obtain⟨n1,n2⟩:=h2.2 (by simp only[Cel.stampB,hn,aLB];exact khv) q.S F X hdr
 obtain⟨hform,hcl⟩:=n2 (Qba p hn hS) _ hS
 obtain⟨j1,j2,j3,j4⟩:=Jr w' p (c:=Qm g' a' w' q.r) hn hS
 have hcells:∀k,k<ti.sh.size->Qe w' b off k=Qk (a'.tmps.getD q.td undef) k:=by
  intro k hk
  rw[hcl k hk,j1]
  cases hra:QX g' q.r with
  | none=>rw[hra,j3] at hA;cases hA
  | some u=>
   obtain⟨hb',ho'⟩:=u
   rw[hra,j2] at hA
   simp only[aLb,aLe] at hA
   obtain⟨rfl,rfl⟩:=hA
   rw[QgG g' a' w' hra]
   simp[Qe,Nat.add_assoc]
 have hone:(a'.tmps.getD q.td undef).cells = #[a'.tmps.getD q.td undef]:=by revert hli;revert hform;cases ti.sh<;>intro hform hli<;>first | exact hform | cases hli
 have hsz:ti.sh.size=1:=by revert hli;cases ti.sh<;>intro hli<;>first | rfl | cases hli
 obtain⟨v,hrun,hf2,hc2⟩:=Qly (hT t ti hti) (w:=w') (b:=b) (o:=off) (fun k hk=>by
  obtain rfl:k=0:=by omega
  refine⟨a'.tmps.getD q.td undef,?_,hone⟩
  rw[hcells 0 hk]
  show (a'.tmps.getD q.td undef).cells[0]? = some _
  rw[hone];rfl)
 have hv:v=a'.tmps.getD q.td undef:=by
  have h3:=hc2 0 (by omega)
  have hone2:v.cells = #[v]:=by revert hli;revert hf2;cases ti.sh<;>intro hf2 hli<;>first | exact hf2 | cases hli
  rw[hcells 0 (by omega)] at h3
  simp only[Qk,hone,hone2] at h3
  simpa using h3
 obtain⟨a1x,a1d⟩:=ha q hqm
 rw[<-a1d,<-hv]
 have:ev (.tmp q.tx)=.pointer (some ⟨b,off,none⟩):=by rw[hev,<-a1x,hpt]
 simp[execOp,hop,this,hrun]
theorem QvO (hT:Q0 P C) (hC:Qb5 P B.g0 B.dm C) (hm:P.follows .mixedOrders=true) {R:Type} {id:Nat} {ops:Array Oper} {draw:Bool} {k:Env->Option R} {r:R} {Rk:Act->Prop} (hR:∀(i:Nat) (o:Oper) (a:Act) (v:Value),ops[i]? = some o->Rk a->Rk (a.put o.dst v))
  {Q:Exit->Act->World->Prop} {e:Env} {g:Gh} {a:Act} {w:World} (h:regX C id ops draw e k=some r) (hr:Rel P B g e a w) (hk:Rk a)
  (hQ:∀g' e' a' w',Rel P B g' e' a' w'->Za e e'->Rk a'->k e'=some r->Q .normal a' w'):(Code.region id ops draw).wp P Q a w:=by
 unfold regX at h
 split at h
 ·exact QAY hT hC hm hR h hr hk hQ
 ·rename_i es hes
  cases hc:draw&&Region.noSelect ops&&QdN ops.toList es with
  | false=>rw[hc] at h;cases h
  | true=>
   rw[hc,aLB] at h
   simp only[aLg] at hc
   obtain⟨⟨rfl,hsel⟩,hda⟩:=hc
   let Q':Exit->Act->World->Prop:=fun x a w=>match x with | .panic _=>False | x=>Q x a w
   have hQQ:∀x a w,Q' x a w->Q x a w:=fun x a w hh=>by cases x<;>first | exact hh.elim | exact hh
   refine Code.wp_mono hQQ ?_
   obtain⟨vs,g1,e1,hl,hrdy,hrel1,hle1,hk1,hS0,hag,hwp⟩:=QCg (Q:=Q') hT hC hsel (fun c a a' w hh=>hh) es _ e g a _ h hda hr.drew
   obtain⟨kl,hkl,hreg⟩:=aLa.1 hk1
   obtain⟨L,hL,htr,hle2,hkk,hkp,hnd,hem⟩:=QAz (B:=B) hT hC ops.toList [] e1 (fun j=>by simp) hreg
   simp only[aLj,Nat.zero_add] at hle2 hkk hnd hem
   have hLl:L.length=ops.size:=by simpa using hL
   have hlens:QqA e1 L:=Qj0 hLl htr
   let a1:=Qcu ops es vs a
   let S:World->Prop:=fun w'=>SOf P ops es vs a w'
   let R':Act->Prop:=fun a'=>Rk a'/\∀q,q ∈ kl->a'.tmps.getD q.tx undef=a1.tmps.getD q.tx undef/\a'.tmps.getD q.td undef=a1.tmps.getD q.td undef
   have hput:∀(o:Oper) (a':Act) (v:Value) (t:Tmp),Qjh o t=true->(a'.put o.dst v).tmps.getD t undef=a'.tmps.getD t undef:=by
    intro o a' v t ht
    cases hd:o.dst with
    | none=>rfl
    | some d=>
     refine Qym ?_
     rintro rfl
     simp[Qjh,hd] at ht
   have hRk1:Rk a1:=by
    have:∀(es:List Nat) (vs:List Value) (a:Act),Rk a->Rk (Qcu ops es vs a):=by
     intro es
     induction es with
     | nil=>intro vs a h;exact h
     | cons i es ih=>
      intro vs a h
      cases vs with
      | nil=>exact h
      | cons v vs=>
       refine ih vs _ ?_
       unfold QjS
       cases ho:ops[i]? with
       | none=>exact h
       | some o=>exact hR i o a v ho h
    exact this es vs a hk
   have hker:∀q,q ∈ kl->∀r,Qxm e1 q r (e1.root r):=fun q hq r=>by
    obtain⟨o,ho⟩:=(QuR es kl hkl).1 q hq
    exact⟨(fun h=>by subst h;rfl),(fun h=>by subst h;rfl),(fun h=>by subst h;exact ho.rt)⟩
   have hsz0:(Array.replicate ops.size false).size=ops.size:=by simp
   have hrep:∀j,(Array.replicate ops.size false).getD j false=false:=fun j=>by
    by_cases hj:j<ops.size
    ·simp[Array.getD,hj]
    ·simp[Array.getD,hj]
   obtain⟨k1,k2,k3,k4,k5⟩:=QvZ es _ hsz0 hrdy (fun i o hi=>by rw[hrep] at hi;cases hi)
   have hcnt:cntU ops (Array.replicate ops.size false)<=ops.size:=by
    have:=List.countP_le_length (p:=fun j=>!(Array.replicate ops.size false).getD j false) (l:=List.range ops.size)
    simpa [cntU] using this
   have hex:∀i,memN i es=true->(QaI es (Array.replicate ops.size false)).getD i false=true:=fun i hi=>k4 i (QsE.1 hi)
   have hfold0:QG (fun j=>(QaI es (Array.replicate ops.size false)).getD j false) 0 L e1=e1:=by
    have hon:∀j,(QaI es (Array.replicate ops.size false)).getD j false=true->memN j es=true:=fun j hj=>by
     rcases Qsj es _ hsz0 hrdy j hj with h | h
     ·rw[hrep] at h;cases h
     ·exact QsE.2 h
    have gen:∀(L:List Ent) (j:Nat) (e:Env),(∀k E,L[k]? = some E->memN (j+k) es=true->E.W=.emp)->QG (fun j=>(QaI es (Array.replicate ops.size false)).getD j false) j L e=e:=by
     intro L
     induction L with
     | nil=>intro j e _;rfl
     | cons E L ih=>
      intro j e h
      simp only[QG]
      have ih':=fun e=>ih (j+1) e (fun k E' hk hm=>h (k+1) E' (by simpa using hk) (by rw[show j+(k+1)=j+1+k by omega];exact hm))
      cases hj:(QaI es (Array.replicate ops.size false)).getD j false with
      | false=>simp only[aLC];exact ih' e
      | true=>
       simp only[aLB]
       rw[h 0 E rfl (hon j hj),Qrq]
       exact ih' e
    exact gen L 0 e1 (fun k E hk hm=>hem k E hk (by rw[Nat.zero_add] at hm;exact hm))
   refine wp_region_held (S:=S) hm ?_
   have hfu:(ops.size - es.length)+es.length=ops.size:=by omega
   suffices hsuf:wpAnyH P .any ops Q' S (ops.size - es.length) (QaI es (Array.replicate ops.size false)) (Qcu ops es vs a) { w with drawn:=w.drawn+1 } by
    have:=hwp S (ops.size - es.length) (fun w' hw'=>hw') hS0 hsuf
    rw[hfu] at this
    exact this
   refine QxH (ex:=fun i=>memN i es) (R:=R') hLl htr (fun i o a' v hxi ho ⟨h1,h2⟩=>⟨hR i o a' v ho h1,fun q hq=>?_⟩) (fun listed g' a' w' hex' hrel' hR'=>?_) (fun g' a' w' hr' hk'=>?_) _ _ g1 a1 _ k1 (by unfold cntU at k2 hcnt;omega) k5 hex ?_ ⟨hRk1,fun q hq=>⟨rfl,rfl⟩⟩
   ·have hoi:ops.toList[i]? = some o:=by simpa using ho
    obtain⟨n1,n2⟩:=hnd i o hoi hxi q hq
    exact⟨(hput o a' v q.tx n1).trans (h2 q hq).1,(hput o a' v q.td n2).trans (h2 q hq).2⟩
   ·exact hag w' (QCu hT hkl hrel' (fun q hq=>Qob listed L 0 e1 hlens (fun E hE=>hkp E hE q hq) (hker q hq)) hR'.2)
   ·exact hQ g' _ a' w' hr' (hle1.trans hle2) hk'.1 hkk
   ·rw[hfold0];exact hrel1
end Go.Dx
namespace Go.Dx
variable {P:Program} {B:Base} {C:Ctx} {g:Gh} {a:Act} {w:World}
theorem Qta:∀(l:List Sh) (ds:List ((s:Sh)×s.den)) {t:TupO l},gatO l ds=some t->scat l t=ds
 | [],[],t,h=>rfl
 | [],d::ds,t,h=>by simp[gatO] at h
 | [s],[],t,h=>by simp[gatO] at h
 | [s],[d],t,h=>by
  simp only[gatO] at h
  have:=ZU h
  simp only[scat,this]
 | [s],d::d'::ds,t,h=>by simp[gatO] at h
 | s::s'::l,[],t,h=>by simp[gatO] at h
 | s::s'::l,d::ds,t,h=>by
  simp only[gatO,aLa,aLb] at h
  obtain⟨x,hx,r,hr,rfl⟩:=h
  have h1:=ZU hx
  have h2:=Qta (s'::l) ds hr
  simp only[scat,h2,h1]
inductive Qfr (e':Env) (blk:Bool) (c0 c':Cel):Cel->Prop
 | dead:Qfr e' blk c0 c' ⟨c0.ver+1,.dead,c0.id+1,c0.hv+1⟩
 | st (s:Sh) (f:Fl) (h:Bool) (x:s.den):stD e' blk s f c'.d=some ⟨s,x⟩->(blk=true->c'.id=c0.id)->(h=true->blk=true/\c'.hv=c0.hv)->Qfr e' blk c0 c' ⟨c0.ver+1,.v s f x,bif blk then c0.id else c0.id+1,bif h then c0.hv else c0.hv+1⟩
 | keep:c'=c0->Qfr e' blk c0 c' c0
theorem QEF {e:Env} {blk:Bool} {s:Sh} {f:Fl} {d:Desc} {y:(s:Sh)×s.den} (h:stD e blk s f d=some y):y.1=s:=by
 unfold stD at h
 split at h
 ·rename_i s' f' x
  cases hc:decide (s'=s)&&Qr s' f' f with
  | false=>rw[hc] at h;cases h
  | true=>
   rw[hc,aLB] at h;simp only[aLb] at h;subst h
   simp only[aLg,aLF] at hc;exact hc.1
 ·cases blk with
  | true=>cases h
  | false=>
   simp only[aLC] at h
   cases hfh:f.ish with
   | true=>rw[hfh] at h;cases h
   | false=>
   rw[hfh] at h
   simp only[aLC] at h
   split at h
   ·simp only[aLb] at h;subst h;rfl
   ·cases h
 ·cases blk with
  | true=>cases h
  | false=>
   simp only[aLC] at h
   obtain⟨u,hu,h⟩:=aLa.1 h
   cases hc:decide (u.sh=s)&&u.fl.isz&&f.isz with
   | false=>rw[hc] at h;cases h
   | true=>
    rw[hc,aLB] at h;simp only[aLb] at h;subst h
    simp only[aLg,aLF] at hc;exact hc.1.1
 ·cases h
theorem Qz5 {e:Env} {s:Sh} {f:Fl} {d:Desc} {x:s.den} (h:stD e true s f d=some ⟨s,x⟩):∃f',d=.v s f' x:=by
 unfold stD at h
 split at h
 ·rename_i s' f' x'
  cases hc:decide (s'=s)&&Qr s' f' f with
  | false=>rw[hc] at h;cases h
  | true=>
   rw[hc,aLB] at h
   simp only[aLb,Sigma.mk.injEq] at h
   obtain⟨rfl,hx⟩:=h
   obtain rfl:=eq_of_heq hx
   exact⟨f',rfl⟩
 ·cases h
 ·cases h
 ·cases h
theorem QzV {e':Env} {blk:Bool} {c0 c1:List Cel} (hlen:c1.length=c0.length) (hsame:∀i,(c0.getD i Cel.dead).ver=(c1.getD i Cel.dead).ver->Qn5 (c0.getD i Cel.dead).d (c1.getD i Cel.dead).d/\(c1.getD i Cel.dead).id=(c0.getD i Cel.dead).id/\(c1.getD i Cel.dead).hv=(c0.getD i Cel.dead).hv) :
  ∀(L:List (Nat×LK)) (xs:List ((s:Sh)×s.den)) (acc:List Cel),acc.length=c0.length->QhV e' blk c0 c1 L=some xs->(∀i,Qfr e' blk (c0.getD i Cel.dead) (c1.getD i Cel.dead) (acc.getD i Cel.dead))->
   (injL blk c0 L xs acc).length=c0.length/\∀i,Qfr e' blk (c0.getD i Cel.dead) (c1.getD i Cel.dead) ((injL blk c0 L xs acc).getD i Cel.dead):=by
 intro L
 induction L with
 | nil=>intro xs acc hl hp hc;exact⟨hl,hc⟩
 | cons q L ih=>
  obtain⟨i,lk⟩:=q
  intro xs acc hl hp hc
  have put:∀(c:Cel),Qfr e' blk (c0.getD i Cel.dead) (c1.getD i Cel.dead) c->∀j,Qfr e' blk (c0.getD j Cel.dead) (c1.getD j Cel.dead) ((acc.set i c).getD j Cel.dead):=by
   intro c hcc j
   rw[Yw]
   split
   ·rename_i h;obtain⟨rfl,_⟩:=h;exact hcc
   ·exact hc j
  cases lk with
  | st s f h=>
   simp only[QhV] at hp
   cases hid:(blk&&!(Nat.beq (c0.getD i Cel.dead).id (c1.getD i Cel.dead).id)) || (h&&!(blk&&Nat.beq (c0.getD i Cel.dead).hv (c1.getD i Cel.dead).hv)) with
   | true=>rw[hid] at hp;cases hp
   | false=>
    rw[hid] at hp
    simp only[aLC,aLa,aLd] at hp
    obtain⟨x,hx,xs',hxs,rfl⟩:=hp
    obtain⟨xsh,xx⟩:=x
    have hs:=QEF hx
    simp only at hs
    subst hs
    have hid':blk=true->(c1.getD i Cel.dead).id=(c0.getD i Cel.dead).id:=fun hb=>by
     simp only[Bool.or_eq_false_iff] at hid
     have hid:=hid.1
     rw[hb] at hid
     simp only[Bool.true_and,Bool.not_eq_false'] at hid
     exact (aLw hid).symm
    have hhv':h=true->blk=true/\(c1.getD i Cel.dead).hv=(c0.getD i Cel.dead).hv:=fun hb=>by
     simp only[Bool.or_eq_false_iff] at hid
     have hid:=hid.2
     rw[hb] at hid
     simp only[Bool.true_and,Bool.not_eq_false',aLg] at hid
     exact⟨hid.1,(aLw hid.2).symm⟩
    exact ih xs' _ (by simpa using hl) hxs (put _ (.st xsh f h xx hx hid' hhv'))
  | keep=>
   simp only[QhV] at hp
   cases hk:Nat.beq (c0.getD i Cel.dead).ver (c1.getD i Cel.dead).ver&&Qgy (c0.getD i Cel.dead).d (c1.getD i Cel.dead).d with
   | false=>rw[hk] at hp;cases hp
   | true=>
    rw[hk,aLB] at hp
    simp only[aLg] at hk
    have hv:=aLw hk.1
    exact ih xs _ (by simpa using hl) hp (put _ (.keep (QxL hv.symm (hsame i hv) hk.2)))
theorem Qq3 {e':Env} {blk:Bool} {c0 c1:List Cel}:∀(L:List (Nat×LK)) {xs:List ((s:Sh)×s.den)},QhV e' blk c0 c1 L=some xs->xs.length=(Ly.shs L).length
 | [],xs,h=>by simp only[QhV,aLb] at h;subst h;rfl
 | (i,.st s f hh)::L,xs,h=>by
  simp only[QhV] at h
  cases hid:(blk&&!(Nat.beq (c0.getD i Cel.dead).id (c1.getD i Cel.dead).id)) || (hh&&!(blk&&Nat.beq (c0.getD i Cel.dead).hv (c1.getD i Cel.dead).hv)) with
  | true=>rw[hid] at h;cases h
  | false=>
   rw[hid] at h
   simp only[aLC,aLa,aLd] at h
   obtain⟨x,hx,xs',hxs,rfl⟩:=h
   simp[Ly.shs,Qq3 L hxs]
 | (i,.keep)::L,xs,h=>by
  simp only[QhV] at h
  cases hk:Nat.beq (c0.getD i Cel.dead).ver (c1.getD i Cel.dead).ver&&Qgy (c0.getD i Cel.dead).d (c1.getD i Cel.dead).d with
  | false=>rw[hk] at h;cases h
  | true=>rw[hk,aLB] at h;simpa [Ly.shs] using Qq3 L h
def isB:Root->Bool | .s _=>false | .b _=>true
theorem QCf (l:List Cel) (i:Nat):(blank l).getD i Cel.dead=if i<l.length then ⟨(l.getD i Cel.dead).ver+1,.dead,(l.getD i Cel.dead).id+1,(l.getD i Cel.dead).hv+1⟩ else Cel.dead:=by
 simp only[blank,aLk,List.getElem?_map]
 split
 ·rename_i h;simp[aLf h]
 ·rename_i h;simp[List.getElem?_eq_none (Nat.le_of_not_lt h)]
theorem QvL {e0 e':Env} {L:Lay} {t:TupO L.shs} (hle:Za e0 e') (hp:e0.proj e' L=some t) :
  (e0.inj L t).sl.length=e0.sl.length/\(e0.inj L t).bl.length=e0.bl.length/\∀r,Qfr e' (isB r) (e0.root r) (e'.root r) ((e0.inj L t).root r):=by
 simp only[Env.proj,aLa] at hp
 obtain⟨xa,ha,xb,hb,ht⟩:=hp
 have hs:=Qta _ _ ht
 have hla:=Qq3 _ ha
 have blankOk:∀(blk:Bool) (l l':List Cel),l'.length=l.length->∀i,Qfr e' blk (l.getD i Cel.dead) (l'.getD i Cel.dead) ((blank l).getD i Cel.dead):=by
  intro blk l l' hl i
  rw[QCf]
  split
  ·exact .dead
  ·rename_i h
   rw[Ji (Nat.le_of_not_lt h),Ji (by rw[hl];exact Nat.le_of_not_lt h)];exact .keep rfl
 have h1:=QzV (e':=e') (blk:=false) hle.sl (fun i hv=>(hle.le (.s i)).2 hv.symm) L.sl xa (blank e0.sl) (by simp[blank]) ha (blankOk false _ _ hle.sl)
 have h2:=QzV (e':=e') (blk:=true) hle.bl (fun i hv=>(hle.le (.b i)).2 hv.symm) L.bl xb (blank e0.bl) (by simp[blank]) hb (blankOk true _ _ hle.bl)
 have e1:(e0.inj L t).sl=injL false e0.sl L.sl xa (blank e0.sl):=by simp only[Env.inj,hs];rw[<-hla,List.take_left'];rfl
 have e2:(e0.inj L t).bl=injL true e0.bl L.bl xb (blank e0.bl):=by simp only[Env.inj,hs];rw[<-hla,List.drop_left'];rfl
 refine⟨by rw[e1];exact h1.1,by rw[e2];exact h2.1,fun r=>?_⟩
 cases r with
 | s i=>show Qfr e' false _ _ ((e0.inj L t).sl.getD i Cel.dead);rw[e1];exact h1.2 i
 | b i=>show Qfr e' true _ _ ((e0.inj L t).bl.getD i Cel.dead);rw[e2];exact h2.2 i
def Qkb (e:Env):Desc->Prop
 | .bor r v p=>v<=(e.root r).stampB p
 | .loc r v p=>v<=(e.root r).stamp p
 | .clos _ caps=>∀(i:Nat) (r:Root) (v:Nat) (p:List Step),caps[i]? = some (.loc r v p)->v<=(e.root r).stamp p
 | _=>True
theorem Qs.fresh {e:Env} {t:Tag} {d:Desc} {v:Value} (h:Qs P g e a w t d v):Qkb e d:=by
 cases d with
 | bor r ver p=>exact h.1
 | loc r ver p=>exact h.2.1
 | clos j caps=>
  obtain⟨vs,_,hl,hc⟩:=h
  intro i r ver p hi
  have hil:i<vs.length:=by rw[hl];exact (aLy.1 hi).1
  have:=(hc i _ _ hi (aLf hil)).2
  exact this.2.1
 | _=>trivial
theorem Rel.fresh {e:Env} (h:Rel P B g e a w) (r:Root):Qkb e (e.root r).d:=by
 cases r with
 | s i=>exact (h.sl i).fresh
 | b i=>
  have hb:=h.bl i
  show Qkb e (e.b i).d
  cases hd:(e.b i).d with
  | dead=>trivial
  | v S F X=>trivial
  | tup l=>trivial
  | _=>rw[hd] at hb;obtain⟨hb',o,_,_,arr,ty,v,_,_,_,h6⟩:=hb;exact h6.fresh
theorem Za.inj {e0 e':Env} {L:Lay} {t:TupO L.shs} (hle:Za e0 e') (hp:e0.proj e' L=some t):Za e0 (e0.inj L t):=by
 obtain⟨h1,h2,h3⟩:=QvL hle hp
 refine⟨h1,h2,fun r=>?_⟩
 have:=h3 r
 generalize (e0.inj L t).root r=c at this
 cases this with
 | dead=>exact⟨Nat.le_succ _,fun h=>by simp at h⟩
 | st s f hb' x _ _ _=>exact⟨Nat.le_succ _,fun h=>by simp at h⟩
 | keep _=>exact⟨Nat.le_refl _,fun _=>⟨.inl rfl,rfl,rfl⟩⟩
theorem Rel.inj {e0 e':Env} {L:Lay} {t:TupO L.shs} (h:Rel P B g e' a w) (hle:Za e0 e') (hfr:∀r,Qkb e0 (e0.root r).d) (hp:e0.proj e' L=some t):∃g',Rel P B g' (e0.inj L t) a w:=by
 obtain⟨l1,l2,hcell⟩:=QvL hle hp
 generalize e0.inj L t=e2 at l1 l2 hcell
 have hT:∀r,∃T:Nat->Prop,(∀j,T j->g.ow j=tagR r)/\(e2.root r=e0.root r->∀j,¬T j)/\
   (e2.root r ≠ e0.root r->∀s f x,(e2.root r).d=.v s f x->RepC P s f (fun j=>g.Z j\/T j) w (fun j=>g.S (tagR r) j/\¬T j) (Qm g a w r) x/\
    ((∃f',(e'.root r).d=.v s f' x)\/(isB r=false/\∀i,r=.s i->Y4 s (a.tmps.getD i undef)))):=by
  intro r
  have hc:=hcell r
  generalize e2.root r=c at hc
  cases hc with
  | dead=>exact⟨QS,fun _ h=>h.elim,fun _ _ h=>h,fun _ s f x hd=>by cases hd⟩
  | keep _=>exact⟨QS,fun _ h=>h.elim,fun _ _ h=>h,fun hn=>absurd rfl hn⟩
  | st s f hb' x hst _ _=>
   have hne:(⟨(e0.root r).ver+1,.v s f x,bif isB r then (e0.root r).id else (e0.root r).id+1,bif hb' then (e0.root r).hv else (e0.root r).hv+1⟩:Cel) ≠ e0.root r:=fun hh=>by
    have:=congrArg Cel.ver hh;simp at this
   unfold stD at hst
   split at hst
   ·rename_i s' f' x' hd
    cases hcc:decide (s'=s)&&Qr s' f' f with
    | false=>rw[hcc] at hst;cases hst
    | true=>
     rw[hcc,aLB] at hst
     simp only[aLg,aLF] at hcc
     obtain⟨rfl,hw⟩:=hcc
     simp only[aLb,Sigma.mk.injEq,heq_eq_eq,true_and] at hst
     subst hst
     have hroot:=h.root r hd
     have hroot:RepC P s' f' g.Z w (g.S (tagR r)) (Qm g a w r) x':=by cases r<;>exact hroot
     obtain⟨T,hT1,hrep⟩:=RepC.weak hw hroot
     refine⟨T,fun j hj=>hT1 j hj,fun hh=>absurd hh hne,fun _ s2 f2 x2 hd2=>?_⟩
     simp only[Desc.v.injEq] at hd2
     obtain⟨rfl,rfl,hx⟩:=hd2
     obtain rfl:=eq_of_heq hx
     exact⟨hrep,.inl ⟨f',hd⟩⟩
   ·rename_i hd
    cases hb:isB r with
    | true=>rw[hb] at hst;cases hst
    | false=>
     rw[hb] at hst
     simp only[aLC] at hst
     cases hfh:f.ish with
     | true=>rw[hfh] at hst;cases hst
     | false=>
     rw[hfh] at hst
     simp only[aLC] at hst
     split at hst
     ·rename_i s'
      simp only[aLb,Sigma.mk.injEq,heq_eq_eq,true_and] at hst
      subst hst
      cases r with
      | b i=>cases hb
      | s i=>
       have hv:a.tmps.getD i undef=.slice none 0 0:=by have:=h.sl i;rw[show (e'.s i).d=.nil from hd] at this;exact this
       refine⟨QS,fun _ h=>h.elim,fun _ _ h=>h,fun _ s2 f2 x2 hd2=>?_⟩
       simp only[Desc.v.injEq] at hd2
       obtain⟨rfl,rfl,hx⟩:=hd2
       obtain rfl:=eq_of_heq hx
       refine⟨?_,.inr ⟨rfl,fun i' hi'=>by simp only[Root.s.injEq] at hi';subst hi';rw[hv];rfl⟩⟩
       simp only[Qm,hv]
       cases f with
       | z=>exact⟨none,0,0,rfl,rfl,Nat.le_refl _,fun hn=>by omega⟩
       | o f=>exact⟨none,0,0,rfl,rfl,Nat.le_refl _,.inl ⟨rfl,rfl,rfl⟩⟩
       | x=>exact trivial
       | p a b=>exact trivial
       | h f0 i0=>simp[Fl.ish] at hfh
     ·cases hst
   ·rename_i q v p hd
    cases hb:isB r with
    | true=>rw[hb] at hst;cases hst
    | false=>
     rw[hb] at hst
     simp only[aLC] at hst
     obtain⟨u,hu,hst⟩:=aLa.1 hst
     cases hcc:decide (u.sh=s)&&u.fl.isz&&f.isz with
     | false=>rw[hcc] at hst;cases hst
     | true=>
      rw[hcc,aLB] at hst
      simp only[aLg,aLF] at hcc
      obtain⟨⟨hs,hz1⟩,hz2⟩:=hcc
      obtain rfl:=Qbj hz2
      obtain⟨us,uf,ux⟩:=u
      simp only at hs hz1 hst
      subst hs
      obtain rfl:=Qbj hz1
      simp only[aLb,Sigma.mk.injEq,heq_eq_eq,true_and] at hst
      subst hst
      cases r with
      | b i=>cases hb
      | s i=>
       have hdo:=h.sl i
       rw[show (e'.s i).d=.bor q v p from hd] at hdo
       have hrep:=h.bor hdo hu (by simp)
       refine⟨QS,fun _ h=>h.elim,fun _ _ h=>h,fun _ s2 f2 x2 hd2=>?_⟩
       simp only[Desc.v.injEq] at hd2
       obtain⟨rfl,rfl,hx⟩:=hd2
       obtain rfl:=eq_of_heq hx
       exact⟨(RepC.shared hrep.2).mono (fun _ h=>.inl h) (fun _ h=>h.elim),.inr ⟨rfl,fun i' hi'=>by simp only[Root.s.injEq] at hi';subst hi';exact hrep.1⟩⟩
   ·cases hst
 obtain⟨T,hT⟩:=Classical.axiomOfChoice hT
 have T1:∀r j,T r j->g.ow j=tagR r:=fun r=>(hT r).1
 have T2:∀r,e2.root r=e0.root r->∀j,¬T r j:=fun r=>(hT r).2.1
 have T3:=fun r=>(hT r).2.2
 clear hT
 let g':Gh:=⟨fun j=>@ite _ (∃r,T r j) (Classical.propDecidable _) .fz (g.ow j),g.pl⟩
 have gin:∀r j,T r j->g'.ow j=.fz:=fun r j hj=>by
  show @ite _ (∃r,T r j) (Classical.propDecidable _) Tag.fz (g.ow j)=.fz
  rw[if_pos ⟨r,hj⟩]
 have gout:∀j,(∀r,¬T r j)->g'.ow j=g.ow j:=fun j hj=>by
  show @ite _ (∃r,T r j) (Classical.propDecidable _) Tag.fz (g.ow j)=g.ow j
  rw[if_neg (fun ⟨r,hr⟩=>hj r hr)]
 have tag_inj:∀{r q:Root},tagR r=tagR q->r=q:=fun {r q} hh=>by cases r<;>cases q<;>simp_all [tagR]
 have keepT:∀j t,(∀r,t ≠ tagR r)->g.ow j=t->g'.ow j=t:=fun j t ht hj=>(gout j (fun r hr=>ht r (hj.symm.trans (T1 r j hr)))).trans hj
 have keepR:∀r j,g.ow j=tagR r->¬T r j->g'.ow j=tagR r:=fun r j hj hn=>(gout j (fun q hq=>by
  have:=tag_inj (hj.symm.trans (T1 q j hq));subst this;exact hn hq)).trans hj
 have hz:∀j,g.ow j=.fz->g'.ow j=.fz:=fun j hj=>keepT j .fz (fun r=>by cases r<;>simp[tagR]) hj
 have hc:∀i j,g.ow j=.c i->g'.ow j=.c i:=fun i j hj=>keepT j _ (fun r=>by cases r<;>simp[tagR]) hj
 have ver2:∀q,e2.root q ≠ e0.root q->(e2.root q).ver=(e0.root q).ver+1:=fun q hq=>by
  have hc:=hcell q
  generalize e2.root q=c at hc hq
  cases hc with
  | dead=>rfl
  | st s f hb' x _ _ _=>rfl
  | keep _=>exact absurd rfl hq
 have kept:∀q,e2.root q=e0.root q->e'.root q=e2.root q\/e'.root q=e0.root q:=fun q hq=>by
  have hc:=hcell q
  generalize e2.root q=c at hc hq
  cases hc with
  | dead=>have:=congrArg Cel.ver hq;simp at this
  | st s f hb' x _ _ _=>have:=congrArg Cel.ver hq;simp at this
  | keep hk=>exact .inr hk
 have kept':∀q,e2.root q=e0.root q->e'.root q=e2.root q:=fun q hq=>(kept q hq).elim id (fun hh=>hh.trans hq.symm)
 have bor2:∀{q:Root} {v:Nat} {p:List Step} {u:Value},v<=(e0.root q).stampB p->Qb2 g e' a w q v p u->Qb2 g' e2 a w q v p u:=by
  intro q v p u hv hb
  by_cases hq:e2.root q=e0.root q
  ·have hk:=kept' q hq
   refine⟨by rw[hq];exact hv,fun he S F X hd=>?_⟩
   rw[<-hk] at he hd
   have:=hb.2 he S F X hd
   rw[ZT (show g'.pl=g.pl from rfl)];exact this
  ·cases hn:QE p with
   | false=>
    have h2:=ver2 q hq
    have s0:(e0.root q).stampB p=(e0.root q).ver:=by simp only[Cel.stampB,hn,aLC]
    have s2:(e2.root q).stampB p=(e2.root q).ver:=by simp only[Cel.stampB,hn,aLC]
    rw[s0] at hv
    exact⟨by rw[s2];omega,fun he=>by rw[s2] at he;omega⟩
   | true=>
    have st1:∀c:Cel,c.stampB p=c.hv:=fun c=>by simp only[Cel.stampB,hn,aLB]
    rw[st1] at hv
    have hcc:=hcell q
    have hb2:=hb
    unfold Qb2 at hb2
    rw[st1] at hb2
    generalize hc2:e2.root q=c at hcc hq
    cases hcc with
    | keep _=>exact absurd rfl hq
    | dead=>exact⟨by rw[st1,hc2];exact Nat.le_succ_of_le hv,fun he=>by rw[st1,hc2] at he;simp only at he;omega⟩
    | st s f hb' x hst hid hhv=>
     cases hh:hb' with
     | false=>exact⟨by rw[st1,hc2,hh];exact Nat.le_succ_of_le hv,fun he=>by rw[st1,hc2,hh] at he;simp only[aLC] at he;omega⟩
     | true=>
      obtain⟨hbq,hhv⟩:=hhv hh
      rw[hbq] at hst
      obtain⟨f',hd'⟩:=Qz5 hst
      refine⟨by rw[st1,hc2,hh];exact hv,fun he=>?_⟩
      rw[st1,hc2,hh] at he
      simp only[aLB] at he
      obtain⟨k3,k4⟩:=hb2.2 (hhv.trans he) s f' x hd'
      obtain⟨sp,hsp⟩:=QjR p hn k3
      rw[ZT (show g'.pl=g.pl from rfl),hc2]
      intro S F X hd2
      obtain⟨rfl,_,hX⟩:=Yb hd2
      subst hX
      exact⟨k3,fun _=>k4 (Qba p hn hsp)⟩
 have loc2:∀{q:Root} {v:Nat} {p:List Step} {u:Value},v<=(e0.root q).stamp p->Qa3 g e' a w q v p u->Qa3 g' e2 a w q v p u:=by
  intro q v p u hv hb
  by_cases hq:e2.root q=e0.root q
  ·have hk:=kept' q hq
   refine⟨hb.1,by rw[hq];exact hv,fun he=>?_⟩
   rw[<-hk] at he
   have:=hb.2.2 he
   rw[ZT (show g'.pl=g.pl from rfl),QnV (show g'.pl=g.pl from rfl),<-hk];exact this
  ·cases hn:QE p with
   | false=>
    have h2:=ver2 q hq
    have s0:(e0.root q).stamp p=(e0.root q).ver:=by simp only[Cel.stamp,hn,aLC]
    have s2:(e2.root q).stamp p=(e2.root q).ver:=by simp only[Cel.stamp,hn,aLC]
    rw[s0] at hv
    exact⟨hb.1,by rw[s2];omega,fun he=>by rw[s2] at he;omega⟩
   | true=>
    have st1:∀c:Cel,c.stamp p=c.id:=fun c=>by simp only[Cel.stamp,hn,aLB]
    rw[st1] at hv
    have hcc:=hcell q
    have hb2:=hb.2
    rw[st1] at hb2
    generalize hc2:e2.root q=c at hcc hq
    cases hcc with
    | keep _=>exact absurd rfl hq
    | dead=>exact⟨hb.1,by rw[st1,hc2];exact Nat.le_succ_of_le hv,fun he=>by rw[st1,hc2] at he;simp only at he;omega⟩
    | st s f hb' x hst hid _=>
     cases hbq:isB q with
     | false=>exact⟨hb.1,by rw[st1,hc2,hbq];exact Nat.le_succ_of_le hv,fun he=>by rw[st1,hc2,hbq] at he;simp only[aLC] at he;omega⟩
     | true=>
      rw[hbq] at hst
      obtain⟨f',hd'⟩:=Qz5 hst
      refine⟨hb.1,by rw[st1,hc2,hbq];exact hv,fun he=>?_⟩
      rw[st1,hc2,hbq] at he
      simp only[aLB] at he
      obtain⟨k1,k2⟩:=hb2.2 ((hid hbq).trans he)
      obtain⟨k3,k4⟩:=k2 s f' x hd'
      obtain⟨sp,hsp⟩:=QjR p hn k3
      rw[ZT (show g'.pl=g.pl from rfl),QnV (show g'.pl=g.pl from rfl),hc2]
      refine⟨k1,fun S F X hd2=>?_⟩
      obtain⟨rfl,_,hX⟩:=Yb hd2
      subst hX
      exact⟨k3,fun _=>k4 (Qba p hn hsp)⟩
 have rpp2:∀{s:Sh} {x:s.den} {u:Value},QjQ P g w s x u->QjQ P g' w s x u:=fun hr=>hr.step (fun i hi=>⟨hz i hi,rfl⟩)
 have rp2:∀{s:Sh} {x:s.den} {u:Value},RpOk P g w s x u->RpOk P g' w s x u:=fun hr=>hr.step (fun i hi=>⟨hz i hi,rfl⟩)
 have cap2:∀{d:Desc} {u:Value},Zv d=true->(∀r v p,d=.loc r v p->v<=(e0.root r).stamp p)->Yr P g e' a w .none d u->Yr P g' e2 a w .none d u:=by
  intro d u hs hf hd
  cases d with
  | v s f x=>
   cases f with
   | z=>exact⟨hd.1,((RepC.shared hd.2).mono (fun i hi=>hz i hi) (fun _ h=>h.elim))⟩
   | _=>simp[Zv,Fl.isz] at hs
  | loc r v p=>exact loc2 (hf r v p rfl) hd
  | rp s x=>exact rp2 hd
  | rpp s x=>exact rpp2 hd
  | _=>simp[Zv] at hs
 have keepD:∀{t:Tag} {d:Desc} {u:Value},(∀j,g.ow j=t->g'.ow j=t)->Qkb e0 d->Qs P g e' a w t d u->Qs P g' e2 a w t d u:=by
  intro t d u ht hf hd
  cases d with
  | dead=>exact trivial
  | und=>exact hd
  | nil=>exact hd
  | v s f x=>exact RepV.frame (fun i hi=>hz i hi) (fun i hi=>ht i hi) (fun _ _=>rfl) hd
  | bor r v p=>exact bor2 hf hd
  | loc r v p=>exact loc2 hf hd
  | rp s x=>exact rp2 hd
  | rpp s x=>exact rpp2 hd
  | clos j caps=>
   obtain⟨vs,h1,h2,h3⟩:=hd
   exact⟨vs,h1,h2,fun i d u hd hu=>⟨(h3 i d u hd hu).1,cap2 (h3 i d u hd hu).1 (fun r v p hh=>hf i r v p (hh ▸ hd)) (h3 i d u hd hu).2⟩⟩
  | tup l=>
   obtain⟨vs,h1,h2,q,h3⟩:=hd
   exact⟨vs,h1,h2,q,fun i y u hy hu=>(h3 i y u hy hu).frame (fun i hi=>hz i hi) (fun j hj=>⟨ht j hj.1,hj.2⟩) (fun _ _=>rfl)⟩
 refine⟨g',⟨h.lens.1.trans (hle.sl.trans l1.symm),l1.trans (hle.sl.symm.trans h.lens.2)⟩,h.defers,fun i=>?_,fun i=>?_,h.st,h.frame,fun i hi=>hz i (h.fz i hi),fun i h1 h2 h3=>?_,fun i hi=>?_,fun q hq=>⟨(h.ios q hq).1,?_⟩⟩
 ·by_cases hk:e2.root (.s i)=e0.root (.s i)
  ·have hk':=kept' _ hk
   have hsl:=h.sl i
   rw[show e2.s i=e'.s i from hk'.symm]
   refine keepD (fun j hj=>keepR (.s i) j hj (T2 _ hk j)) ?_ hsl
   rw[show e'.s i=e0.s i from hk'.trans hk];exact hfr (.s i)
  ·have h3:=T3 (.s i) hk
   have hcc:=hcell (.s i)
   show Qs P g' e2 a w (.s i) (e2.root (.s i)).d _
   generalize e2.root (.s i)=c at hcc hk h3
   cases hcc with
   | dead=>exact trivial
   | keep _=>exact absurd rfl hk
   | st s f hb' x _ _ _=>
    obtain⟨hrep,hform⟩:=h3 s f x rfl
    refine⟨?_,RepC.mono (fun j hj=>hj.elim (hz j) (gin _ j)) (fun j hj=>keepR (.s i) j hj.1 hj.2) hrep⟩
    rcases hform with ⟨f',hd⟩ | ⟨_,hform⟩
    ·have hsl:=h.sl i
     rw[show (e'.s i).d=.v s f' x from hd] at hsl
     exact hsl.1
    ·exact hform i rfl
 ·by_cases hk:e2.root (.b i)=e0.root (.b i)
  ·have hk':=kept' _ hk
   have hbl:=h.bl i
   rw[show e2.b i=e'.b i from hk'.symm]
   have hf:Qkb e0 (e'.b i).d:=by rw[show e'.b i=e0.b i from hk'.trans hk];exact hfr (.b i)
   have other:∀d,Qkb e0 d->(∃hb o,g.pl i=.cells hb o/\g.ow hb=.c i/\∃arr ty v,w.heap[hb]? = some (.cells arr ty (0,0))/\arr[o]? = some v/\v.cells = #[v]/\Qs P g e' a w .none d v)->
     ∃hb o,g'.pl i=.cells hb o/\g'.ow hb=.c i/\∃arr ty v,w.heap[hb]? = some (.cells arr ty (0,0))/\arr[o]? = some v/\v.cells = #[v]/\Qs P g' e2 a w .none d v:=by
    rintro d hfd ⟨hb',o,h1,h2,arr,ty,v,h3,h4,h5,h6⟩
    exact⟨hb',o,h1,hc i hb' h2,arr,ty,v,h3,h4,h5,keepD (fun j hj=>keepT j _ (fun r=>by cases r<;>simp[tagR]) hj) hfd h6⟩
   cases hd:(e'.b i).d with
   | dead=>exact trivial
   | und=>rw[hd] at hbl hf;exact other _ hf hbl
   | v S F X=>
    rw[hd] at hbl
    refine⟨?_,fun hb' o hpl=>⟨hc i hb' (hbl.2 hb' o hpl).1,(hbl.2 hb' o hpl).2⟩⟩
    rw[ZT (show g'.pl=g.pl from rfl)]
    exact hbl.1.mono (fun j hj=>hz j hj) (fun j hj=>keepR (.b i) j hj (T2 _ hk j))
   | tup l=>rw[hd] at hbl;exact hbl.elim
   | nil=>rw[hd] at hbl hf;exact other _ hf hbl
   | bor r ver p=>rw[hd] at hbl hf;exact other _ hf hbl
   | loc r ver p=>rw[hd] at hbl hf;exact other _ hf hbl
   | rp s x=>rw[hd] at hbl hf;exact other _ hf hbl
   | rpp s x=>rw[hd] at hbl hf;exact other _ hf hbl
   | clos j caps=>rw[hd] at hbl hf;exact other _ hf hbl
  ·have h3:=T3 (.b i) hk
   have hcc:=hcell (.b i)
   show Qtw P g' e2 a w i (e2.root (.b i)).d
   generalize e2.root (.b i)=c at hcc hk h3
   cases hcc with
   | dead=>exact trivial
   | keep _=>exact absurd rfl hk
   | st s f hb' x _ _ _=>
    obtain⟨hrep,hform⟩:=h3 s f x rfl
    rcases hform with ⟨f',hd⟩ | ⟨hb,_⟩
    ·have hbl:=h.bl i
     rw[show (e'.b i).d=.v s f' x from hd] at hbl
     refine⟨?_,fun hb' o hpl=>⟨hc i hb' (hbl.2 hb' o hpl).1,(hbl.2 hb' o hpl).2⟩⟩
     rw[ZT (show g'.pl=g.pl from rfl)]
     exact hrep.mono (fun j hj=>hj.elim (hz j) (gin _ j)) (fun j hj=>keepR (.b i) j hj.1 hj.2)
    ·cases hb
 ·exact keepT i _ (fun r=>by cases r<;>simp[tagR]) (h.nn i h1 h2 h3)
 ·refine h.lt i fun h0=>hi ?_
  exact keepT i _ (fun r=>by cases r<;>simp[tagR]) h0
 ·have hq':=(h.ios q hq).2
  refine⟨hq'.pl,hc _ _ hq'.ow,fun S F X hd=>?_,hq'.there⟩
  have hcc:=hcell (.b q.i)
  have hd:(e2.root (.b q.i)).d=.v S F X:=hd
  by_cases hk:e2.root (.b q.i)=e0.root (.b q.i)
  ·have hk':=kept' _ hk
   exact hq'.sz S F X (by show (e'.root (.b q.i)).d=_;rw[hk'];exact hd)
  ·obtain⟨_,hform⟩:=T3 (.b q.i) hk S F X hd
   rcases hform with ⟨f',hd'⟩ | ⟨hb,_⟩
   ·exact hq'.sz S f' X hd'
   ·cases hb
end Go.Dx
namespace Go.Dx
variable {P:Program} {B:Base} {C:Ctx}
def exOf:Ex->Exit | .normal=>.normal | .exit i=>.exit i | .ret=>.ret
def Kp (ms:List Nat) (a0 a:Act):Prop:=∀i,ms.any (Nat.beq i)=true->a.tmps.getD i undef=a0.tmps.getD i undef
theorem Kp.put {ms:List Nat} {a0 a:Act} {d:Option Tmp} {v:Value} (h:Kp ms a0 a) (hd:(match d with | none=>true | some d=>!(ms.any (Nat.beq d)))=true):Kp ms a0 (a.put d v):=by
 intro i hi
 cases d with
 | none=>exact h i hi
 | some d=>
  have hne:d ≠ i:=by rintro rfl;simp only[hi,Bool.not_true] at hd;cases hd
  rcases Nat.lt_or_ge d a.tmps.size with hl | hl
  ·rw[Qj2 a d i v hl,if_neg hne];exact h i hi
  ·have:a.put (some d) v=a:=by
    cases a with
    | mk t df=>simp only[Act.put,Act.mk.injEq,and_true];exact Array.setIfInBounds_eq_of_size_le hl
   rw[this];exact h i hi
theorem Qn1 {e0 e':Env} {x:Ex}:∀(outs:List (Ex×Lay)) {y:SumT (outs.map (·.2.shs))},QiP e0 e' x outs=some y->∃L t,e0.proj e' L=some t/\∀{R:Type} (k:Ex->Env->Option R),QtG e0 k outs y=k x (e0.inj L t)
 | [],y,h=>by cases h
 | [(x',L)],y,h=>by
  simp only[QiP] at h
  by_cases hx:x'=x
  ·subst hx
   rw[if_pos rfl] at h
   exact⟨L,y,h,fun k=>rfl⟩
  ·rw[if_neg hx] at h;cases h
 | (x',L)::b::l,y,h=>by
  simp only[QiP] at h
  by_cases hx:x'=x
  ·subst hx
   rw[if_pos rfl] at h
   obtain⟨t,ht,rfl⟩:=aLd.1 h
   exact⟨L,t,ht,fun k=>rfl⟩
  ·rw[if_neg hx] at h
   obtain⟨t,ht,rfl⟩:=aLd.1 h
   obtain⟨L',t',h1,h2⟩:=Qn1 (b::l) ht
   exact⟨L',t',h1,fun k=>h2 k⟩
theorem QAp {S X:Type} {f:S->Option (S⊕X)} {s:S} {x:X} (h:Qf f s=some x):∃n,Qb0 f n s=some x:=by
 unfold Qf at h
 split at h
 ·rename_i hh
  simp only[aLb] at h
  exact⟨hh.choose,h ▸ hh.choose_spec.choose_spec⟩
 ·cases h
theorem least {p:Nat->Prop} (h:∃n,p n):∃n,p n/\∀m,p m->n<=m:=by
 obtain⟨n,hn⟩:=h
 induction n using Nat.strongRecOn with
 | _ n ih=>
  by_cases hh:∃m,m<n/\p m
  ·obtain⟨m,hm,hp⟩:=hh;exact ih m hm hp
  ·exact⟨n,hn,fun m hm=>by
    rcases Nat.lt_or_ge m n with h | h
    ·exact (hh ⟨m,h,hm⟩).elim
    ·exact h⟩
open Classical in
noncomputable def leastOf (p:Nat->Prop):Nat:=if h:∃n,p n then (least h).choose else 0
theorem leastOf_spec {p:Nat->Prop} (h:∃n,p n):p (leastOf p)/\∀m,p m->leastOf p<=m:=by
 unfold leastOf;rw[dif_pos h];exact (least h).choose_spec
theorem QEe (hT:Q0 P C) (hC:Qb5 P B.g0 B.dm C) (hm:P.follows .mixedOrders=true) {ms:List Nat} {a0:Act}:∀(c:Code) {R:Type} (e:Env) (k:Ex->Env->Option R) (r:R),QbP ms c=true->runK C c e k=some r->
  ∀(g:Gh) (a:Act) (w:World) (Q:Exit->Act->World->Prop),Rel P B g e a w->Kp ms a0 a->
   (∀x g' e' a' w',Rel P B g' e' a' w'->Za e e'->Kp ms a0 a'->k x e'=some r->Q (exOf x) a' w')->c.wp P Q a w:=by
 intro c
 induction c with
 | skip=>intro R e k r hf h g a w Q hr hk hQ;exact wp_skip (hQ .normal g e a w hr (.refl e) hk h)
 | label l=>intro R e k r hf h g a w Q hr hk hQ;exact wp_label (hQ .normal g e a w hr (.refl e) hk h)
 | exit i=>intro R e k r hf h g a w Q hr hk hQ;exact wp_exit (hQ (.exit i) g e a w hr (.refl e) hk h)
 | ret=>intro R e k r hf h g a w Q hr hk hQ;exact wp_ret (hQ .ret g e a w hr (.refl e) hk h)
 | region id ops draw=>
  intro R e k r hf h g a w Q hr hk hQ
  have hR:∀(i:Nat) (o:Oper) (a:Act) (v:Value),ops[i]? = some o->Kp ms a0 a->Kp ms a0 (a.put o.dst v):=fun i o a v ho ha=>by
   simp only[QbP,List.all_eq_true] at hf
   exact ha.put (hf o (by simpa using Array.mem_of_getElem? ho))
  simp only[runK] at h
  cases hj:assoc id C.rjs with
  | none=>rw[hj] at h;exact QvO hT hC hm hR h hr hk (fun g' e' a' w' h1 h2 h3 h4=>hQ .normal g' e' a' w' h1 h2 h3 h4)
  | some L=>
   rw[hj] at h
   obtain⟨y,hy,h⟩:=aLa.1 h
   refine QvO hT hC hm hR hy hr hk (fun g' e' a' w' h1 h2 h3 h4=>?_)
   obtain⟨g2,h5⟩:=h1.inj h2 hr.fresh h4
   exact hQ .normal g2 _ a' w' h5 (h2.inj h4) h3 h
 | seq x y ihx ihy=>
  intro R e k r hf h g a w Q hr hk hQ
  simp only[QbP,aLg] at hf
  simp only[runK] at h
  refine wp_seq (ihx e _ r hf.1 h g a w _ hr hk (fun ex g' e' a' w' h1 h2 h3 h4=>?_))
  cases ex with
  | normal=>exact ihy e' k r hf.2 h4 g' a' w' Q h1 h3 (fun ex2 g2 e2 a2 w2 k1 k2 k3 k4=>hQ ex2 g2 e2 a2 w2 k1 (h2.trans k2) k3 k4)
  | exit i=>exact hQ (.exit i) g' e' a' w' h1 h2 h3 h4
  | ret=>exact hQ .ret g' e' a' w' h1 h2 h3 h4
 | cond c x y ihx ihy=>
  intro R e k r hf h g a w Q hr hk hQ
  simp only[QbP,aLg] at hf
  simp only[runK] at h
  cases hc:e.rdBool (e.opd c) with
  | none=>rw[hc] at h;cases h
  | some t=>
   rw[hc] at h
   simp only at h
   obtain⟨Tc,hco,_,_⟩:=QD hr c
   refine wp_cond (Qv8 hr hco hc) ?_
   cases hj:(QcV (.seq x y)).bind fun i=>assoc i C.jns with
   | none=>
    rw[hj] at h
    cases t with
    | true=>exact ihx e k r hf.1 h g a w Q hr hk hQ
    | false=>exact ihy e k r hf.2 h g a w Q hr hk hQ
   | some J=>
    rw[hj] at h
    obtain⟨z,hz,h⟩:=aLa.1 h
    have fin:∀ex g' e' a' w',Rel P B g' e' a' w'->Za e e'->Kp ms a0 a'->QiP e e' ex J.outs=some z->Q (exOf ex) a' w':=by
     intro ex g' e' a' w' h1 h2 h3 h4
     obtain⟨L,t,h5,h6⟩:=Qn1 _ h4
     obtain⟨g2,h7⟩:=h1.inj h2 hr.fresh h5
     rw[h6] at h
     exact hQ ex g2 _ a' w' h7 (h2.inj h5) h3 h
    cases t with
    | true=>exact ihx e _ z hf.1 hz g a w Q hr hk fin
    | false=>exact ihy e _ z hf.2 hz g a w Q hr hk fin
 | block id x ih=>
  intro R e k r hf h g a w Q hr hk hQ
  simp only[QbP] at hf
  simp only[runK] at h
  refine wp_block (ih e _ r hf h g a w _ hr hk (fun ex g' e' a' w' h1 h2 h3 h4=>?_))
  cases ex with
  | normal=>exact hQ .normal g' e' a' w' h1 h2 h3 h4
  | ret=>exact hQ .ret g' e' a' w' h1 h2 h3 h4
  | exit i=>
   simp only[exOf,Exit.inBlock]
   simp only at h4
   cases hb:Nat.beq i id with
   | true=>
    rw[hb] at h4
    rw[if_pos (aLw hb)]
    exact hQ .normal g' e' a' w' h1 h2 h3 h4
   | false=>
    rw[hb] at h4
    rw[if_neg (fun hh=>by rw[hh] at hb;simp at hb)]
    exact hQ (.exit i) g' e' a' w' h1 h2 h3 h4
 | loop x ih=>
  intro R e k r hf h g a w Q hr hk hQ
  simp only[QbP] at hf
  simp only[runK] at h
  split at h
  ·cases h
  ·rename_i L J hj
   obtain⟨s0,hs0,h⟩:=aLa.1 h
   obtain⟨y,hy,h⟩:=aLa.1 h
   obtain⟨n0,hn0⟩:=QAp hy
   generalize hF:(fun s=>runK (R:=TupO L.shs⊕SumT (J.outs.map (·.2.shs))) C x (e.inj L s) fun x e'=>match x with
     | .normal=>(e.proj e' L).map .inl
     | x=>(QiP e e' x J.outs).map .inr)=F at hn0
   let Inv:Nat->Act->World->Prop:=fun n a w=>∃s g,Rel P B g (e.inj L s) a w/\Za e (e.inj L s)/\Kp ms a0 a/\Qb0 F n s=some y
   have hfresh:=hr.fresh
   refine wp_loop (fun a w=>∃n,Inv n a w) (fun a w=>leastOf (fun n=>Inv n a w)) ?_ (fun a w hI=>?_)
   ·obtain⟨g1,h1⟩:=hr.inj (.refl e) hfresh hs0
    exact⟨n0,s0,g1,h1,(Za.refl e).inj hs0,hk,hn0⟩
   ·obtain⟨hmin,_⟩:=leastOf_spec hI
    generalize leastOf (fun n=>Inv n a w)=n at hmin
    obtain⟨s,g1,h1,h2,h3,h4⟩:=hmin
    cases n with
    | zero=>cases h4
    | succ n=>
     simp only[Qb0] at h4
     cases hz:F s with
     | none=>rw[hz] at h4;cases h4
     | some z=>
      rw[hz] at h4
      have hz':=hz
      rw[<-hF] at hz'
      refine ih (e.inj L s) _ z hf hz' g1 a w _ h1 h3 (fun ex g' e' a' w' k1 k2 k3 k4=>?_)
      have hle:=h2.trans k2
      have out:∀ex,(QiP e e' ex J.outs).map Sum.inr=some z->Q (exOf ex) a' w':=by
       intro ex hh
       obtain⟨y',hy',rfl⟩:=aLd.1 hh
       simp only[aLb] at h4
       subst h4
       obtain⟨L',t,h5,h6⟩:=Qn1 _ hy'
       obtain⟨g2,h7⟩:=k1.inj hle hfresh h5
       rw[h6] at h
       exact hQ ex g2 _ a' w' h7 (hle.inj h5) k3 h
      cases ex with
      | normal=>
       simp only at k4
       obtain⟨s',hs',rfl⟩:=aLd.1 k4
       simp only at h4
       obtain⟨g2,h7⟩:=k1.inj hle hfresh hs'
       have hInv:Inv n a' w':=⟨s',g2,h7,hle.inj hs',k3,h4⟩
       exact⟨⟨n,hInv⟩,Nat.lt_succ_of_le ((leastOf_spec (p:=fun n=>Inv n a' w') ⟨n,hInv⟩).2 n hInv)⟩
      | exit i=>exact out (.exit i) k4
      | ret=>exact out .ret k4
 | _=>intro R e k r hf h;simp[runK] at h
end Go.Dx
namespace Go.Dx
variable {P:Program} {B:Base} {C:Ctx} {g:Gh} {e:Env} {a:Act} {w:World}
theorem QzL {t:TypeId} {ti:TI} (h:TyOk P C t ti) {w:World} {b o:Nat} (hc:∀k,k<ti.sh.size->∃v,Qe w b o k=some v/\v.cells = #[v]) :
  ∃v,(loadVar t ⟨b,o,none⟩).run P w=.ok v w/\Y4 ti.sh v/\∀k,k<ti.sh.size->Qk v k=Qe w b o k:=by
 have hag:=QdV h w
 have hsz:=run_sizeOf h w
 cases hp:Q1 ti.sh with
 | true=>
  let cs:List Value:=(List.range ti.sh.size).map fun k=>(Qe w b o k).getD undef
  have hlen:cs.length=ti.sh.size:=by simp[cs]
  have hget:∀j v,cs[j]? = some v->Qe w b o j=some v:=by
   intro j v hv
   have hj:j<ti.sh.size:=by have:=(aLy.1 hv).1;omega
   simp only[cs,List.getElem?_map,List.getElem?_range hj,Option.map_some,aLb] at hv
   obtain⟨u,hu,_⟩:=hc j hj
   rw[hu] at hv ⊢
   simpa using hv
  have hl:(loadCells ⟨b,o,none⟩ cs.length).run P w=.ok cs.toArray w:=
   run_loadCells_list (P:=P) w ⟨b,o,none⟩ cs (fun j v hv=>by rw[Qc4];exact hget j v hv)
  refine⟨.agg cs.toArray,?_,?_,fun k hk=>?_⟩
  ·rw[hp] at hag
   rw[hlen] at hl
   simp[loadVar,hag,hsz,hl]
  ·revert hp hlen
   cases ti.sh<;>simp[Q1]
   rename_i x y
   intro hlen
   exact⟨_,rfl,by simpa [Sh.size] using hlen⟩
  ·have hk':k<cs.length:=by omega
   have h1:cs[k]? = some cs[k]:=aLf hk'
   rw[hget k _ h1]
   simp only[Qk,Value.cells]
   simp
 | false=>
  obtain⟨v,hv,hv1⟩:=hc 0 (Sh.size_pos _)
  have hcell:w.cell? ⟨b,o,none⟩=some v:=by simpa [Qe] using hv
  have hs1:ti.sh.size=1:=by revert hp;cases ti.sh<;>simp[Q1,Sh.size]
  refine⟨v,?_,?_,fun k hk=>?_⟩
  ·rw[hp] at hag
   simp[loadVar,hag,hcell]
  ·revert hp;cases ti.sh<;>simp[Q1,Y4,hv1]
  ·obtain rfl:k=0:=by omega
   rw[hv];simp[Qk,hv1]
def resF (tmps:Array Value):ResultVar->Sem Value
 | .tmp t=>pure (tmps.getD t undef)
 | .cell a t=>do loadVar t (<-asAddr (tmps.getD a undef))
theorem QCj (hT:Q0 P C) (h:Rel P B g e a w) {k:Nat} (hk:∀j,g.ow j ≠ .fl k) {s:Sh} {v:ResultVar} {e1:Env} {y:Dv} (hq:Qt1 C e s v=some (e1,y)) :
  ∃u g1,(resF a.tmps v).run P w=.ok u w/\Flight g g1 k/\Rel P B g1 e1 a w/\RepV P y.sh y.fl g1.Z w (g1.S (.fl k)) u y.x:=by
 cases v with
 | tmp t=>
  simp only[Qt1] at hq
  obtain⟨g1,h1,h2,h3⟩:=QeQ h k hk (h.sl t) (fun i hi=>by simp only[aLb] at hi;subst hi;exact⟨rfl,rfl,rfl⟩) hq
  exact⟨_,g1,by simp[resF],h1,h2,h3⟩
 | cell t ty=>
  simp only[Qt1] at hq
  split at hq
  ·rename_i r ver hd
   cases hid:!(Nat.beq (e.root r).id ver) with
   | true=>rw[hid] at hq;cases hq
   | false=>
   rw[hid,aLC] at hq
   have hid:(e.root r).id=ver:=by simp only[Bool.not_eq_false'] at hid;exact aLw hid
   obtain⟨ti,hti,hq⟩:=aLa.1 hq
   obtain⟨⟨e2,y'⟩,htk,hq⟩:=aLa.1 hq
   cases hc:decide (ti.sh=y'.sh)&&okS y'.sh y'.fl with
   | false=>simp only[hc,aLC] at hq;cases hq
   | true=>
    simp only[hc,aLB,aLb,aLe] at hq
    obtain⟨rfl,rfl⟩:=hq
    simp only[aLg,aLF] at hc
    obtain⟨hsh,hok⟩:=hc
    have hsl:=h.sl t
    rw[hd] at hsl
    have hlk:∃y0,e.look r (e.root r).hv []=some y0/\y0.sh=y'.sh/\y0.fl=y'.fl:=by
     simp only[Env.take,aLa] at htk
     obtain⟨y0,hl,htk⟩:=htk
     refine⟨y0,hl,?_⟩
     cases hz:y0.fl.isz with
     | true=>simp only[hz,aLB,aLb,aLe] at htk;obtain⟨_,rfl⟩:=htk;exact⟨rfl,rfl⟩
     | false=>
      rw[hz,aLC] at htk
      cases hx:y0.fl.isx with
      | true=>rw[hx,aLB] at htk;cases htk
      | false=>
       rw[hx,aLC] at htk
       split at htk
       ·simp only[aLd,aLe] at htk;obtain⟨_,_,_,rfl⟩:=htk;exact⟨rfl,rfl⟩
       ·cases htk
    obtain⟨y0,hl,hs1,hf1⟩:=hlk
    obtain⟨hv,S,F,X,hdr,hg⟩:=h.look hl
    simp only[getP,aLb] at hg
    subst hg
    simp only at hs1 hf1
    have hsl:Qa3 g e a w r ver [] (a.tmps.getD t undef):=hsl
    obtain⟨b,o,hA,hpt⟩:=(hsl.2.2 hid).1 rfl
    have hrc:=QgG g a w hA
    have hroot:=h.root r hdr
    rw[hrc] at hroot
    have hokF:okS S F=true:=by rw[hs1,hf1];exact hok
    obtain⟨u,hrun,hform,hcv⟩:=QzL (hT ty ti hti) (w:=w) (b:=b) (o:=o) (by rw[hsh,<-hs1];exact QfM hokF hroot)
    have hbor:Qs P g e a w .none (.bor r (e.root r).hv []) u:=by
     refine⟨Nat.le_refl _,fun he S2 F2 X2 hd2=>⟨by simp only[QH],fun _ s2 hs2=>?_⟩⟩
     rw[hdr] at hd2
     obtain⟨rfl,_,_⟩:=Yb hd2
     simp only[getS,aLb] at hs2
     subst hs2
     rw[hsh,<-hs1] at hform hcv
     refine⟨hform,fun k hk=>?_⟩
     rw[hcv k hk,<-hrc];simp only[Qn]
    obtain⟨g1,h1,h2,h3⟩:=QeQ h k hk hbor (fun i hi=>by cases hi) htk
    refine⟨u,g1,?_,h1,h2,h3⟩
    simp[resF,hpt,asAddr,hrun]
  ·cases hq
theorem QAx (hT:Q0 P C):∀(vars:List ResultVar) (outs:List (Sh×Fl)) (k:Nat) {e e':Env} {ys:List ((s:Sh)×s.den)} {g:Gh},Rel P B g e a w->(∀j m,k<=m->g.ow j ≠ .fl m)->Qhx C e vars outs=some (e',ys)->
  ∃(vs:List Value) (g':Gh),g'.pl=g.pl/\Rel P B g' e' a w/\(vars.mapM (resF a.tmps)).run P w=.ok vs w/\vs.length=outs.length/\ys.map (·.1)=outs.map (·.1)/\(∀j m,m<k->g.ow j=.fl m->g'.ow j=.fl m)/\(∀j,g.ow j=.fz->g'.ow j=.fz)/\
   ∀(i:Nat) (o:Sh×Fl) (y:(s:Sh)×s.den) (u:Value),outs[i]? = some o->ys[i]? = some y->vs[i]? = some u->RepV P y.1 o.2 g'.Z w (g'.S (.fl (k+i))) u y.2:=by
 intro vars
 induction vars with
 | nil=>
  intro outs k e e' ys g h hno hq
  cases outs with
  | nil=>
   simp only[Qhx,aLb,aLe] at hq
   obtain⟨rfl,rfl⟩:=hq
   exact⟨[],g,rfl,h,by simp,rfl,rfl,fun _ _ _ h=>h,fun _ h=>h,fun i o y u ho=>by simp at ho⟩
  | cons o outs=>simp[Qhx] at hq
 | cons v vars ih=>
  intro outs k e e' ys g h hno hq
  cases outs with
  | nil=>simp[Qhx] at hq
  | cons o outs=>
   obtain⟨s,f⟩:=o
   simp only[Qhx] at hq
   obtain⟨⟨e1,y⟩,h1,hq1⟩:=aLa.1 hq
   clear hq
   cases hc:decide (y.sh=s)&&Qr y.sh y.fl f with
   | false=>simp only[hc,aLC] at hq1;cases hq1
   | true=>
    simp only[hc,aLB] at hq1
    simp only[aLg,aLF] at hc
    obtain⟨rfl,hw⟩:=hc
    obtain⟨⟨e2,zs⟩,h2,hq2⟩:=aLd.1 hq1
    simp only[aLe] at hq2
    obtain⟨rfl,rfl⟩:=hq2
    obtain⟨u,g1,hrun,hfl,hr1,hrep⟩:=QCj hT h (fun j=>hno j k (Nat.le_refl _)) h1
    obtain⟨g2,hpl2,how2,hr2,hrep2⟩:=Qj5 hr1 hw hrep
    have htag:∀j m,m ≠ k->g.ow j=.fl m->g2.ow j=.fl m:=fun j m hm hj=>by
     have h3:g1.ow j=.fl m:=by
      rcases hfl.ow j with h3 | ⟨_,h4⟩
      ·exact h3.trans hj
      ·rcases h4 with ⟨n,h4⟩ | ⟨n,h4⟩<;>rw[hj] at h4<;>cases h4
     rcases how2 j with h5 | ⟨h5,_⟩
     ·exact h5.trans h3
     ·rw[h3] at h5;simp only[Tag.fl.injEq] at h5;exact absurd h5 hm
    have hz2:∀j,g.ow j=.fz->g2.ow j=.fz:=fun j hj=>by
     have h3:g1.ow j=.fz:=by
      rcases hfl.ow j with h3 | ⟨_,h4⟩
      ·exact h3.trans hj
      ·rcases h4 with ⟨n,h4⟩ | ⟨n,h4⟩<;>rw[hj] at h4<;>cases h4
     rcases how2 j with h5 | ⟨h5,_⟩
     ·exact h5.trans h3
     ·rw[h3] at h5;cases h5
    have hno2:∀j m,k+1<=m->g2.ow j ≠ .fl m:=fun j m hm hj=>by
     rcases how2 j with h5 | ⟨_,h5⟩
     ·rw[h5] at hj
      rcases hfl.ow j with h3 | ⟨h3,_⟩
      ·rw[h3] at hj;exact hno j m (by omega) hj
      ·rw[h3] at hj;simp only[Tag.fl.injEq] at hj;omega
     ·rw[h5] at hj;cases hj
    obtain⟨vs,g3,hpl3,hr3,hrun3,hlen,hsh,ht3,hz3,hall⟩:=ih outs (k+1) hr2 hno2 h2
    refine⟨u::vs,g3,hpl3.trans (hpl2.trans hfl.pl),hr3,?_,by simp[hlen],by simp[hsh],fun j m hm hj=>ht3 j m (by omega) (htag j m (by omega) hj),fun j hj=>hz3 j (hz2 j hj),fun i o' y' u' ho hy hu=>?_⟩
    ·simp[List.mapM_cons,hrun,hrun3]
    ·cases i with
     | zero=>
      simp only[aLt,aLb] at ho hy hu
      subst ho hy hu
      exact⟨hrep2.1,hrep2.2.mono (fun j hj=>hz3 j hj) (fun j hj=>ht3 j k (by omega) hj)⟩
     | succ i=>
      have:=hall i o' y' u' (by simpa using ho) (by simpa using hy) (by simpa using hu)
      rwa [show k+(i+1)=k+1+i by omega]
theorem QzF {fn:Func} {tmps:Array Value} {vs:List Value} (h:(fn.results.toList.mapM (resF tmps)).run P w=.ok vs w):(Go.results fn tmps).run P w=.ok (if h:vs.length=1 then vs[0] else .tuple vs.toArray) w:=by
 have h1:Go.results fn tmps=(do let vs <-fn.results.mapM (resF tmps);pure (if h:vs.size=1 then vs[0] else .tuple vs)):=by
  unfold Go.results
  congr 1
 rw[h1]
 have h2:fn.results.mapM (resF tmps)=List.toArray <$> fn.results.toList.mapM (resF tmps):=by
  conv=>lhs;rw[<-Array.toArray_toList (xs:=fn.results)]
  exact List.mapM_toArray ..
 rw[h2]
 simp[h]
end Go.Dx
namespace Go.Dx
variable {P:Program} {C:Ctx}
inductive PInit (P:Program) (ow:Nat->Tag) (w:World) (n j:Nat):PS->Value->Cel->Cel->Prop
 | v {s:Sh} {f:Fl} {v:Value} {x:s.den}:RepV P s f (Zo ow) w (So ow (.fl j)) v x->PInit P ow w n j (.v s f) v ⟨0,.v s f x,0,0⟩ Cel.dead
 | rp {s:Sh} {v:Value} {x:s.den} {b o:Nat}:v=.pointer (some ⟨b,o,none⟩)->ow b=.fz->RepC P s .z (Zo ow) w QS (Qe w b o) x->PInit P ow w n j (.rp s false) v ⟨0,.rp s x,0,0⟩ Cel.dead
 | rpp {s:Sh} {v:Value} {x:s.den} {hb ho b o:Nat}:v=.pointer (some ⟨hb,ho,none⟩)->ow hb=.fz->Qe w hb ho 0=some (.pointer (some ⟨b,o,none⟩))->ow b=.fz->RepC P s .z (Zo ow) w QS (Qe w b o) x->PInit P ow w n j (.rp s true) v ⟨0,.rpp s x,0,0⟩ Cel.dead
 | io {s:Sh} {f f':Fl} {v:Value} {x:s.den} {hb o:Nat} {arr:Array Value} {ty:TypeId}:v=.pointer (some ⟨hb,o,none⟩)->ow hb=.c j->w.heap[hb]? = some (.cells arr ty (0,0))->o+s.size<=arr.size->
   RepC P s f (Zo ow) w (So ow (.fl j)) (Qe w hb o) x->PInit P ow w n j (.io s f f') v ⟨0,.loc (.b (n+j)) 0 [],0,0⟩ ⟨0,.v s f x,0,0⟩
 | mu {s:Sh} {f f':Fl} {v:Value} {x:s.den}:RepV P s f (Zo ow) w (So ow (.fl j)) v x->PInit P ow w n j (.mu s f f') v ⟨0,.v s f x,0,0⟩ Cel.dead
theorem QsM {ow:Nat->Tag} {w:World} {n:Nat}:∀(ps:List PS) (i:Nat) (vs:List Value) (t:TupI (ps.map PS.sh)),QbO P ow w i ps vs t->
  vs.length=ps.length/\(YH n i ps t).1.length=ps.length/\(YH n i ps t).2.length=ps.length/\
   ∀k p,ps[k]? = some p->PInit P ow w n (i+k) p (vs.getD k undef) ((YH n i ps t).1.getD k Cel.dead) ((YH n i ps t).2.getD k Cel.dead):=by
 intro ps
 induction ps with
 | nil=>intro i vs t h;obtain rfl:vs=[]:=h;exact⟨rfl,rfl,rfl,fun k p hk=>by simp at hk⟩
 | cons p ps ih=>
  intro i vs t h
  cases vs with
  | nil=>exact h.elim
  | cons v vs=>
   obtain⟨h1,h2⟩:=h
   obtain⟨e1,e2,e3,hall⟩:=ih (i+1) vs t.2 h2
   have hd:∃c d,(YH n i (p::ps) t).1=c::(YH n (i+1) ps t.2).1/\(YH n i (p::ps) t).2=d::(YH n (i+1) ps t.2).2/\PInit P ow w n i p v c d:=by
    cases p with
    | v s f=>exact⟨_,_,rfl,rfl,.v h1⟩
    | rp s q=>
     cases q with
     | false=>obtain⟨b,o,k1,k2,k3⟩:=h1;exact⟨_,_,rfl,rfl,.rp k1 k2 k3⟩
     | true=>obtain⟨hb,ho,b,o,k1,k2,k3,k4,k5⟩:=h1;exact⟨_,_,rfl,rfl,.rpp k1 k2 k3 k4 k5⟩
    | io s f f'=>obtain⟨hb,o,arr,ty,k1,k2,k3,k4,k5⟩:=h1;exact⟨_,_,rfl,rfl,.io k1 k2 k3 k4 k5⟩
    | mu s f f'=>exact⟨_,_,rfl,rfl,.mu h1⟩
   obtain⟨c,d,hc,hdd,hp⟩:=hd
   refine⟨by simp[e1],by rw[hc];simp[e2],by rw[hdd];simp[e3],fun k q hk=>?_⟩
   cases k with
   | zero=>
    simp only[aLt,aLb] at hk
    subst hk
    rw[hc,hdd];exact hp
   | succ k=>
    have:=hall k q (by simpa using hk)
    rw[hc,hdd]
    rw[show i+(k+1)=i+1+k by omega]
    exact this
def isIo:PS->Bool | .io ..=>true | _=>false
def tag0 (ps:List PS) (n:Nat):Tag->Tag
 | .fz=>.fz
 | .fl j=>match ps[j]? with | some (.io ..)=>.b (n+j) | _=>.s j
 | .c j=>.c (n+j)
 | _=>.none
def pl0 (vs:List Value) (n m:Nat):Plc:=if m<n then .hdr undef else match vs.getD (m - n) undef with | .pointer (some ad)=>.cells ad.block ad.off | _=>.hdr undef
def Qct (n:Nat) (w:World):Nat->List PS->List Value->List Io
 | j,.io s _ _::ps,.pointer (some ad)::vs=>(match w.heap[ad.block]? with | some (.cells arr ty _)=>[⟨n+j,ad.block,ad.off,s.size,arr,ty⟩] | _=>[])++Qct n w (j+1) ps vs
 | j,_::ps,_::vs=>Qct n w (j+1) ps vs
 | _,_,_=>[]
theorem QvM {n:Nat} {w:World}:∀(ps:List PS) (j:Nat) (vs:List Value) (q:Io),q ∈ Qct n w j ps vs->∃k s f f' ad arr ty x,ps[k]? = some (.io s f f')/\vs[k]? = some (.pointer (some ad))/\w.heap[ad.block]? = some (.cells arr ty x)/\q=⟨n+(j+k),ad.block,ad.off,s.size,arr,ty⟩
 | [],j,vs,q,h=>by simp[Qct] at h
 | p::ps,j,[],q,h=>by cases p<;>simp[Qct] at h
 | p::ps,j,v::vs,q,h=>by
  have tl:q ∈ Qct n w (j+1) ps vs->∃k s f f' ad arr ty x,(p::ps)[k]? = some (.io s f f')/\(v::vs)[k]? = some (.pointer (some ad))/\w.heap[ad.block]? = some (.cells arr ty x)/\q=⟨n+(j+k),ad.block,ad.off,s.size,arr,ty⟩:=fun h=>by
   obtain⟨k,s,f,f',ad,arr,ty,x,h1,h2,h3,h4⟩:=QvM ps (j+1) vs q h
   exact⟨k+1,s,f,f',ad,arr,ty,x,by simpa using h1,by simpa using h2,h3,by rw[h4,show j+1+k=j+(k+1) by omega]⟩
  cases p with
  | io s f f'=>
   cases v with
   | pointer pa=>
    cases pa with
    | some ad=>
     simp only[Qct,List.mem_append] at h
     rcases h with h | h
     ·split at h
      ·rename_i arr ty x hw
       simp only[aLs] at h
       exact⟨0,s,f,f',ad,arr,ty,x,rfl,rfl,hw,h⟩
      ·cases h
     ·exact tl h
    | none=>exact tl (by simpa [Qct] using h)
   | _=>exact tl (by simpa [Qct] using h)
  | _=>exact tl (by simpa [Qct] using h)
theorem QyS {n:Nat} {w:World}:∀(ps:List PS) (j:Nat) (vs:List Value) (k:Nat) {s:Sh} {f f':Fl} {ad:Addr} {arr:Array Value} {ty:TypeId} {x:Nat×Nat},ps[k]? = some (.io s f f')->vs[k]? = some (.pointer (some ad))->w.heap[ad.block]? = some (.cells arr ty x)->
  (⟨n+(j+k),ad.block,ad.off,s.size,arr,ty⟩:Io) ∈ Qct n w j ps vs
 | [],j,vs,k,s,f,f',ad,arr,ty,x,h,_,_=>by simp at h
 | p::ps,j,[],k,s,f,f',ad,arr,ty,x,_,h,_=>by simp at h
 | p::ps,j,v::vs,0,s,f,f',ad,arr,ty,x,h1,h2,h3=>by
  simp only[aLt,aLb] at h1 h2
  subst h1 h2
  simp[Qct,h3]
 | p::ps,j,v::vs,k+1,s,f,f',ad,arr,ty,x,h1,h2,h3=>by
  have:=QyS (n:=n) ps (j+1) vs k (by simpa using h1) (by simpa using h2) h3
  rw[show j+1+k=j+(k+1) by omega] at this
  cases p with
  | io s' g g'=>
   cases v with
   | pointer pa=>
    cases pa with
    | some ad'=>simp only[Qct,List.mem_append];exact .inr this
    | none=>simpa [Qct] using this
   | _=>simpa [Qct] using this
  | _=>simpa [Qct] using this
def Qyo (K:Callee) (n:Nat) (ow:Nat->Tag) (w:World) (vs:List Value) {W0:World} (hG:GOk W0 ow w):Base:=
 { w0:=w,may:=fun j=>ow j ≠ .none/\ow j ≠ .fz,fz0:=fun j=>ow j=.fz,ios:=Qct n w 0 K.ins vs,n:=n,dm:=K.dm,g0:=W0,gk:=fun i hi=>⟨(hG i hi).1,fun h=>h.2 (hG i hi).1,by
   have h1:=(hG i hi).2
   rw[Array.getElem?_eq_getElem hi] at h1
   exact (Array.getElem?_eq_some_iff.1 h1).1,(hG i hi).2⟩ }
theorem Env.initE_s {n:Nat} {ps:List PS} {t:TupI (ps.map PS.sh)} (i:Nat) (hl:(YH n 0 ps t).1.length=ps.length):(Qoe n ps t).s i=(YH n 0 ps t).1.getD i Cel.dead:=by
 show ((YH n 0 ps t).1++List.replicate (n - ps.length) Cel.dead).getD i Cel.dead=_
 simp only[aLk]
 rcases Nat.lt_or_ge i (YH n 0 ps t).1.length with h | h
 ·rw[aLu h]
 ·rw[aLv h,List.getElem?_eq_none h]
  simp only[List.getElem?_replicate];split<;>rfl
theorem Env.initE_b {n:Nat} {ps:List PS} {t:TupI (ps.map PS.sh)} (i:Nat):(Qoe n ps t).b i=if i<n then Cel.dead else (YH n 0 ps t).2.getD (i - n) Cel.dead:=by
 show (List.replicate n Cel.dead++(YH n 0 ps t).2).getD i Cel.dead=_
 simp only[aLk]
 split
 ·rename_i h;rw[aLu (by simpa using h)];simp[h]
 ·rename_i h;rw[aLv (by simpa using h)];simp
theorem QDL {W0:World} {K:Callee} {n:Nat} {ow:Nat->Tag} {w:World} {vs:List Value} {xs:TupI (K.ins.map PS.sh)} (hn:K.ins.length<=n) (hlt:∀i,ow i ≠ .none->i<w.heap.size) (hG:GOk W0 ow w) (hp:QbO P ow w 0 K.ins vs xs) :
  Rel P (Qyo K n ow w vs hG) ⟨fun j=>tag0 K.ins n (ow j),pl0 vs n⟩ (Qoe n K.ins xs) { tmps:=vs.toArray++Array.replicate (n - vs.toArray.size) undef,defers:=[] } w:=by
 obtain⟨l1,l2,l3,hall⟩:=QsM (n:=n) K.ins 0 vs xs hp
 have hsz:(Qoe n K.ins xs).sl.length=n:=by
  show ((YH n 0 K.ins xs).1++List.replicate (n - K.ins.length) Cel.dead).length=n
  simp[l2];omega
 have tmp:∀i,(vs.toArray++Array.replicate (n - vs.toArray.size) undef).getD i undef=vs.getD i undef:=by
  intro i
  rw[Array.getD_eq_getD_getElem?,aLk]
  rcases Nat.lt_or_ge i vs.length with h | h
  ·rw[Array.getElem?_append_left (by simpa using h)];simp
  ·rw[Array.getElem?_append_right (by simpa using h),List.getElem?_eq_none h]
   simp only[Array.getElem?_replicate];split<;>rfl
 have hz:∀j,ow j=.fz->tag0 K.ins n (ow j)=.fz:=fun j hj=>by rw[hj];rfl
 have hZ:∀j,Zo ow j->Gh.Z ⟨fun j=>tag0 K.ins n (ow j),pl0 vs n⟩ j:=fun j hj=>hz j hj
 have hown:∀i p,K.ins[i]? = some p->isIo p=false->∀j,So ow (.fl i) j->Gh.S ⟨fun j=>tag0 K.ins n (ow j),pl0 vs n⟩ (.s i) j:=fun i p hi hio j hj=>by
  show tag0 K.ins n (ow j)=.s i
  rw[show ow j=.fl i from hj]
  simp only[tag0,hi]
  cases p<;>first | rfl | cases hio
 have hownb:∀i s f f',K.ins[i]? = some (.io s f f')->∀j,So ow (.fl i) j->Gh.S ⟨fun j=>tag0 K.ins n (ow j),pl0 vs n⟩ (.b (n+i)) j:=fun i s f f' hi j hj=>by
  show tag0 K.ins n (ow j)=.b (n+i)
  rw[show ow j=.fl i from hj]
  simp only[tag0,hi]
 have tne:∀t,t ≠ .none->(∀j,t ≠ .s j)->(∀j,t ≠ .b j)->tag0 K.ins n t ≠ .none:=fun t h1 h2 h3=>by
  cases t with
  | none=>exact absurd rfl h1
  | fl j=>simp only[tag0];split<;>simp
  | s j=>exact absurd rfl (h2 j)
  | b j=>exact absurd rfl (h3 j)
  | fz=>simp[tag0]
  | c j=>simp[tag0]
 refine⟨⟨by simp[hsz,l1];omega,hsz⟩,rfl,fun i=>?_,fun i=>?_,(Streams.refl w).d,fun _ _ _=>rfl,fun i hi=>hz i hi,fun i _ h2 h3=>?_,fun i hi=>?_,fun q hq=>?_⟩
 ·rw[Env.initE_s i l2,tmp i]
  rcases Nat.lt_or_ge i K.ins.length with h | h
  ·have hpi:=hall i _ (aLf h)
   rw[Nat.zero_add] at hpi
   have hki:=aLf h
   generalize K.ins[i]=p at hpi hki
   generalize (YH n 0 K.ins xs).2.getD i Cel.dead=cb at hpi
   have hcb:=Env.initE_b (n:=n) (t:=xs) (n+i)
   generalize hc:(YH n 0 K.ins xs).1.getD i Cel.dead=c at hpi
   generalize hv:vs.getD i undef=v at hpi
   cases hpi with
   | v hrep=>exact hrep.frame hZ (hown i _ hki rfl) (fun _ _=>rfl)
   | mu hrep=>exact hrep.frame hZ (hown i _ hki rfl) (fun _ _=>rfl)
   | rp k1 k2 k3=>exact⟨_,_,k1,hz _ k2,k3.mono hZ (fun _ h=>h)⟩
   | rpp k1 k2 k3 k4 k5=>exact⟨_,_,_,_,k1,hz _ k2,k3,hz _ k4,k5.mono hZ (fun _ h=>h)⟩
   | @io s f f' v x hb o arr ty k1 k2 k3 k4 k5=>
    have hpl:pl0 vs n (n+i)=.cells hb o:=by
     simp only[pl0,show ¬(n+i<n) by omega,if_false,Nat.add_sub_cancel_left,hv,k1]
    have hrA:QX (⟨fun j=>tag0 K.ins n (ow j),pl0 vs n⟩:Gh) (.b (n+i))=some (hb,o):=by simp only[QX,hpl]
    have hver:((Qoe n K.ins xs).root (.b (n+i))).id=0:=by
     show ((Qoe n K.ins xs).b (n+i)).id=0
     rw[Env.initE_b,if_neg (by omega),Nat.add_sub_cancel_left]
     have hpi:=hall i _ hki
     rw[Nat.zero_add] at hpi
     generalize (YH n 0 K.ins xs).1.getD i Cel.dead=c1 at hpi
     generalize (YH n 0 K.ins xs).2.getD i Cel.dead=c2 at hpi ⊢
     cases hpi<;>rfl
    refine⟨⟨_,k1⟩,Nat.zero_le _,fun _=>⟨fun _=>⟨hb,o,hrA,k1⟩,fun S F X _=>⟨by simp only[QH],fun _=>⟨hb,o,by simp only[Ql];exact hrA,k1⟩⟩⟩⟩
  ·rw[Ji (by rw[l2];exact h)];exact trivial
 ·rw[Env.initE_b]
  split
  ·exact trivial
  ·rename_i hin
   rcases Nat.lt_or_ge (i - n) K.ins.length with h | h
   ·have hki:=aLf h
    have hpi:=hall (i - n) _ hki
    rw[Nat.zero_add] at hpi
    generalize K.ins[i - n]=p at hpi hki
    generalize (YH n 0 K.ins xs).1.getD (i - n) Cel.dead=c at hpi
    generalize hcb:(YH n 0 K.ins xs).2.getD (i - n) Cel.dead=cb at hpi
    generalize hv:vs.getD (i - n) undef=v at hpi
    have hin':n+(i - n)=i:=by omega
    cases hpi with
    | v _=>exact trivial
    | mu _=>exact trivial
    | rp _ _ _=>exact trivial
    | rpp _ _ _ _ _=>exact trivial
    | @io s f f' v x hb o arr ty k1 k2 k3 k4 k5=>
     have hpl:pl0 vs n i=.cells hb o:=by
      simp only[pl0,show ¬(i<n) from hin,if_false,hv,k1]
     refine⟨?_,fun hb2 o2 hpl2=>?_⟩
     ·show RepC P s f _ w _ (Qm _ _ w (.b i)) x
      simp only[Qm,hpl]
      refine k5.mono hZ (fun j hj=>?_)
      have:=hownb (i - n) s f f' hki j hj
      rwa [hin'] at this
     ·have hpl2:pl0 vs n i=.cells hb2 o2:=hpl2
      rw[hpl] at hpl2
      simp only[Plc.cells.injEq] at hpl2
      obtain⟨rfl,rfl⟩:=hpl2
      refine⟨?_,arr,ty,k3,k4⟩
      show tag0 K.ins n (ow hb)=.c i
      rw[k2];simp only[tag0,hin']
   ·rw[Ji (by rw[l3];exact h)];exact trivial
 ·have h2:¬(ow i ≠ .none/\ow i ≠ .fz):=h2
  have h3:¬ow i=.fz:=h3
  have:ow i=.none:=by
   cases hq:ow i with
   | none=>rfl
   | fz=>exact absurd hq h3
   | _=>exact (h2 ⟨by rw[hq];simp,by rw[hq];simp⟩).elim
  show tag0 K.ins n (ow i)=.none
  rw[this];rfl
 ·refine hlt i fun h0=>hi ?_
  show tag0 K.ins n (ow i)=.none
  rw[h0];rfl
 ·obtain⟨k,s,f,f',ad,arr,ty,x,h1,h2,h3,rfl⟩:=QvM K.ins 0 vs q hq
  rw[Nat.zero_add]
  have hk:k<K.ins.length:=(aLy.1 h1).1
  have hpi:=hall k _ h1
  rw[Nat.zero_add] at hpi
  have hvk:vs.getD k undef=.pointer (some ad):=by rw[aLk,h2];rfl
  rw[hvk] at hpi
  have hb2:=Env.initE_b (n:=n) (ps:=K.ins) (t:=xs) (n+k)
  rw[if_neg (by omega),Nat.add_sub_cancel_left] at hb2
  generalize (YH n 0 K.ins xs).1.getD k Cel.dead=c at hpi
  generalize (YH n 0 K.ins xs).2.getD k Cel.dead=cb at hpi hb2
  cases hpi with
  | @io _ _ _ _ x hb o arr2 ty2 k1 k2 k3 k4 k5=>
   simp only[Value.pointer.injEq,aLb] at k1
   subst k1
   simp only at h3
   rw[k3] at h3
   simp only[aLb,Obj.cells.injEq] at h3
   obtain⟨rfl,rfl,rfl⟩:=h3
   refine⟨Nat.le_add_right _ _,?_,?_,fun S F X hd=>?_,arr2,k3,rfl,fun _ _=>rfl⟩
   ·simp only[pl0,show ¬(n+k<n) by omega,if_false,Nat.add_sub_cancel_left,hvk]
   ·show tag0 K.ins n (ow hb)=.c (n+k)
    rw[k2];rfl
   ·rw[hb2] at hd
    simp only[Desc.v.injEq] at hd
    rw[hd.1]
end Go.Dx
namespace Go.Dx
variable {P:Program} {W0:World} {C:Ctx}
def isMu:PS->Bool | .mu ..=>true | _=>false
def tagF (mr:List (Root×Nat)) (n:Nat):Tag->Tag
 | .fz=>.fz
 | .fl k=>.fl k
 | .c m=>if n<=m then .c (m - n) else .none
 | .b m=>match Qk5 (.b m) mr with | some i=>.b i | none=>if n<=m then .b (m - n) else .none
 | .s m=>match Qk5 (.s m) mr with | some i=>.b i | none=>.none
 | .none=>.none
theorem QB0 {mr:List (Root×Nat)} {n:Nat} {r:Root} {i:Nat} (h:Qk5 r mr=some i):tagF mr n (tagR r)=.b i:=by
 cases r with
 | s m=>simp only[tagR,tagF,h]
 | b m=>simp only[tagR,tagF,h]
theorem Qsy:∀(ps:List PS) (i k:Nat) {s:Sh} {f f':Fl},ps[k]? = some (.mu s f f')->i+k ∈ Qj3 i ps
 | [],i,k,s,f,f',h=>by simp at h
 | p::ps,i,0,s,f,f',h=>by simp only[aLt,aLb] at h;subst h;simp[Qj3]
 | p::ps,i,k+1,s,f,f',h=>by
  have:=Qsy ps (i+1) k (by simpa using h)
  rw[show i+1+k=i+(k+1) by omega] at this
  cases p<;>first | exact this | exact aLp _ this
theorem QBG {K:Callee} {n:Nat} {ow:Nat->Tag} {w w':World} {vs:List Value} {g:Gh} {e:Env} {a:Act} {xs:TupI (K.ins.map PS.sh)} {mr:List (Root×Nat)} {hG:GOk W0 ow w} (hp:QbO P ow w 0 K.ins vs xs) (h:Rel P (Qyo K n ow w vs hG) g e a w')
  (hk:∀i s f f',K.ins[i]? = some (.mu s f f')->a.tmps.getD i undef=vs.getD i undef) :
  ∀(ps:List PS) (i:Nat) (us:List Value) (io:List ((s:Sh)×s.den)),(∀k,ps[k]? = K.ins[i+k]?)->(∀k,us[k]? = vs[i+k]?)->us.length=ps.length->QfE e mr n i ps=some io->Zi P (fun j=>tagF mr n (g.ow j)) w w' i ps us io:=by
 obtain⟨l1,l2,l3,hall⟩:=QsM (n:=n) K.ins 0 vs xs hp
 intro ps
 induction ps with
 | nil=>
  intro i us io _ _ hl hio
  simp only[QfE,aLb] at hio
  subst hio
  simp only[Zi]
  exact⟨List.eq_nil_of_length_eq_zero hl,trivial⟩
 | cons p ps ih=>
  intro i us io hps hus hl hio
  cases us with
  | nil=>simp at hl
  | cons u us=>
   have hps':∀k,ps[k]? = K.ins[i+1+k]?:=fun k=>by have:=hps (k+1);rw[show i+1+k=i+(k+1) by omega];simpa using this
   have hus':∀k,us[k]? = vs[i+1+k]?:=fun k=>by have:=hus (k+1);rw[show i+1+k=i+(k+1) by omega];simpa using this
   have hl':us.length=ps.length:=by simpa using hl
   have hpi:K.ins[i]? = some p:=by have:=hps 0;simpa using this.symm
   have hui:vs[i]? = some u:=by have:=hus 0;simpa using this.symm
   have hug:vs.getD i undef=u:=by rw[aLk,hui];rfl
   have hz:∀j,g.ow j=.fz->tagF mr n (g.ow j)=.fz:=fun j hj=>by rw[hj];rfl
   cases p with
   | v s f=>simp only[QfE] at hio;simp only[Zi];exact ih (i+1) us io hps' hus' hl' hio
   | rp s q=>simp only[QfE] at hio;simp only[Zi];exact ih (i+1) us io hps' hus' hl' hio
   | mu s f f'=>
    simp only[QfE] at hio
    split at hio
    ·rename_i s' fl x hd
     cases hc:decide (s=s')&&decide (fl=f')&&!fl.isx&&decide (Qk5 (QnH e i) mr=some i) with
     | false=>simp only[hc,aLC] at hio;cases hio
     | true=>
      simp only[hc,aLB] at hio
      simp only[aLg,aLF,Bool.not_eq_true'] at hc
      obtain⟨⟨⟨rfl,rfl⟩,hnx⟩,hfr⟩:=hc
      obtain⟨l,hl2,rfl⟩:=aLd.1 hio
      simp only[Zi]
      refine⟨⟨trivial,?_⟩,ih (i+1) us l hps' hus' hl' hl2⟩
      have hsl:=h.sl i
      rw[hk i s f fl hpi,hug] at hsl
      have hrep:RepV P s fl g.Z w' (g.S (tagR (QnH e i))) u x:=by
       unfold QnH
       cases hdd:(e.s i).d with
       | v s2 f2 x2=>
        rw[hdd] at hd hsl
        simp only[Env.val,aLb,Dv.mk.injEq] at hd
        obtain⟨rfl,rfl,hx⟩:=hd
        obtain rfl:=eq_of_heq hx
        exact hsl
       | bor r ver p=>
        rw[hdd] at hd hsl
        exact h.bor hsl hd (fun hx=>by rw[show fl=.x from hx] at hnx;cases hnx)
       | _=>rw[hdd] at hd;cases hd
      refine hrep.frame hz (fun j hj=>?_) (fun _ _=>rfl)
      show tagF mr n (g.ow j)=.b i
      rw[show g.ow j=tagR (QnH e i) from hj]
      exact QB0 hfr
    ·cases hio
   | io s f f'=>
    simp only[QfE] at hio
    split at hio
    ·rename_i s' fl x hd
     cases hc:decide (s=s')&&decide (fl=f')&&(Qk5 (.b (n+i)) mr).isNone with
     | false=>simp only[hc,aLC] at hio;cases hio
     | true=>
      simp only[hc,aLB] at hio
      simp only[aLg,aLF,Option.isNone_iff_eq_none] at hc
      obtain⟨⟨rfl,rfl⟩,hfr⟩:=hc
      obtain⟨l,hl2,rfl⟩:=aLd.1 hio
      simp only[Zi]
      refine⟨?_,ih (i+1) us l hps' hus' hl' hl2⟩
      have hpin:=hall i _ hpi
      rw[Nat.zero_add,hug] at hpin
      generalize (YH n 0 K.ins xs).1.getD i Cel.dead=c1 at hpin
      generalize (YH n 0 K.ins xs).2.getD i Cel.dead=c2 at hpin
      cases hpin with
      | @io _ _ _ _ x0 hb o arr ty k1 k2 k3 k4 k5=>
       subst k1
       have hq:=QyS (n:=n) K.ins 0 vs i hpi hui k3
       rw[Nat.zero_add] at hq
       obtain⟨_,hio2⟩:=h.ios _ hq
       obtain⟨arr',h1,h2,h3⟩:=hio2.there
       have hbl:=h.bl (n+i)
       rw[hd] at hbl
       have hpl:g.pl (n+i)=.cells hb o:=hio2.pl
       refine⟨hb,o,arr,arr',ty,rfl,k3,h1,h2,h3,?_,trivial,?_⟩
       ·show tagF mr n (g.ow hb)=.c i
        rw[hio2.ow]
        simp only[tagF,show n<=n+i by omega,if_true,Nat.add_sub_cancel_left]
       ·have hrep:=hbl.1
        simp only[Qm,hpl] at hrep
        refine hrep.mono hz (fun j hj=>?_)
        show tagF mr n (g.ow j)=.b i
        rw[show g.ow j=.b (n+i) from hj]
        simp only[tagF,hfr,show n<=n+i by omega,if_true,Nat.add_sub_cancel_left]
    ·cases hio
theorem QDj {ow':Nat->Tag} {w':World} {outs:List (Sh×Fl)} {ys:List ((s:Sh)×s.den)} {us:List Value} (hsh:ys.map (·.1)=outs.map (·.1)) (hul:us.length=outs.length)
  (one:∀(i:Nat) (o:Sh×Fl) (y:(s:Sh)×s.den) (u:Value),outs[i]? = some o->ys[i]? = some y->us[i]? = some u->RepV P y.1 o.2 (Zo ow') w' (So ow' (.fl i)) u y.2) :
  Qxl P ow' w' outs (if h:us.length=1 then us[0] else .tuple us.toArray) ys:=by
 refine⟨hsh,?_⟩
 have tup:us.length ≠ 1->∃vs:Array Value,(if h:us.length=1 then us[0] else .tuple us.toArray)=.tuple vs/\vs.size=outs.length/\∀(k:Nat) (o:Sh×Fl) (y:(s:Sh)×s.den) (u:Value),outs[k]? = some o->ys[k]? = some y->vs[k]? = some u->RepV P y.1 o.2 (Zo ow') w' (So ow' (.fl k)) u y.2:=fun hne=>by
  rw[dif_neg hne]
  exact⟨us.toArray,rfl,by simp[hul],fun k o y u h5 h6 h7=>one k o y u h5 h6 (by simpa using h7)⟩
 cases outs with
 | nil=>exact tup (by rw[hul];simp)
 | cons o l=>
  cases l with
  | cons o2 l=>exact tup (by rw[hul];simp)
  | nil=>
   cases ys with
   | nil=>simp at hsh
   | cons y rest=>
    have hus:us.length=1:=by rw[hul];rfl
    rw[dif_pos hus]
    exact one 0 o y _ rfl rfl (aLf (by omega))
theorem Qa {K:Callee} (hT:Q0 P C) (hC:Qb5 P W0 K.dm C) (hm:P.follows .mixedOrders=true) {j:FuncId} {fn:Func} (hf:P.funcs[j]? = some fn) (hb:fn.body.isSome=true) (hname:(fn.name == "runtime.NumGoroutine")=false)
  (hrun:∀xs ys,K.F xs=some ys->runF C fn K xs=some ys):Contract P W0 j K:=by
 refine⟨⟨fn,hf,hb,hname⟩,fun w ow vs xs ys hlt hG hp hF=>?_⟩
 have h:=hrun xs ys hF
 unfold runF at h
 split at h
 ·cases h
 ·rename_i c hbody
  cases hck:!QbP (Qj3 0 K.ins) c || !Nat.ble K.ins.length fn.ntmps || !Nat.ble K.outs.length PK with
  | true=>rw[hck,aLB] at h;cases h
  | false=>
   rw[hck,aLC] at h
   simp only[Bool.or_eq_false_iff,Bool.not_eq_false'] at hck
   obtain⟨⟨hfree,hlen⟩,_⟩:=hck
   have hlen:K.ins.length<=fn.ntmps:=Nat.ble_eq.mp hlen
   have hinit:=QDL (n:=fn.ntmps) hlen hlt hG hp
   obtain⟨l1,l2,l3,hall⟩:=QsM (n:=fn.ntmps) K.ins 0 vs xs hp
   refine calls_of_wp hf hbody ?_
   refine QEe hT hC hm (a0:={ tmps:=vs.toArray++Array.replicate (fn.ntmps - vs.toArray.size) undef,defers:=[] }) c _ _ ys hfree h _ _ w _ hinit (fun _ _=>rfl) (fun x g e a w' h1 h2 h3 h4=>?_)
   have fin:((Qhx C e fn.results.toList K.outs).bind fun (u:Env×List ((s:Sh)×s.den))=>(QfE u.1 (Qf7 u.1 0 K.ins) fn.ntmps 0 K.ins).bind fun io=>gatO (K.outs.map (·.1)++Qbs K.ins) (u.2++io))=some ys->
     a.defers=[]/\∃v,(Go.results fn a.tmps).run P w'=.ok v w'/\∃vr ow',Ending.returned v=.returned vr/\Qir P K ow w vs ys ow' w' vr:=by
    intro h4
    obtain⟨⟨e2,rs⟩,hres,h4⟩:=aLa.1 h4
    obtain⟨io,hio,hg⟩:=aLa.1 h4
    dsimp only at hio hg
    obtain⟨g0,hpl0,hcl,hr0⟩:=h1.clean
    obtain⟨us,g2,hpl2,hr2,hmap,hul,hsh,_,_,hall2⟩:=QAx hT _ _ 0 hr0 (fun j m _=>hcl j m) hres
    have hsc:=Qta _ _ hg
    have hrl:rs.length=K.outs.length:=by have:=congrArg List.length hsh;simpa using this
    have hkeep:∀i s f f',K.ins[i]? = some (.mu s f f')->a.tmps.getD i undef=vs.getD i undef:=by
     intro i s f f' hi
     have hmem:=Qsy K.ins 0 i hi
     rw[Nat.zero_add] at hmem
     rw[h3 i (List.any_eq_true.2 ⟨i,hmem,by simp⟩)]
     have hil:i<vs.length:=by rw[l1];exact (aLy.1 hi).1
     rw[Array.getD_eq_getD_getElem?,Array.getElem?_append_left (by simpa using hil),aLk];simp
    refine⟨h1.defers,_,QzF hmap,_,fun j=>tagF (Qf7 e2 0 K.ins) fn.ntmps (g2.ow j),rfl,?_⟩
    have hzz:∀j,g2.Z j->Zo (fun j=>tagF (Qf7 e2 0 K.ins) fn.ntmps (g2.ow j)) j:=fun j hj=>by show tagF _ _ (g2.ow j)=.fz;rw[show g2.ow j=.fz from hj];rfl
    have hff:∀k j,g2.S (.fl k) j->So (fun j=>tagF (Qf7 e2 0 K.ins) fn.ntmps (g2.ow j)) (.fl k) j:=fun k j hj=>by show tagF _ _ (g2.ow j)=.fl k;rw[show g2.ow j=.fl k from hj];rfl
    refine⟨hr2.st,fun j hj ho=>?_,fun j hj=>?_,?_,?_⟩
    ·have hmay:¬(Qyo K fn.ntmps ow w vs hG).may j:=fun hm=>ho.elim hm.1 hm.2
     refine⟨hr2.frame j hj hmay,?_⟩
     rcases ho with ho | ho
     ·have:=hr2.nn j hj hmay (fun hz=>by rw[show ow j=.fz from hz] at ho;cases ho)
      rw[ho];show tagF _ _ (g2.ow j)=.none;rw[this];rfl
     ·have:=hr2.fz j ho
      rw[ho];show tagF _ _ (g2.ow j)=.fz;rw[this];rfl
    ·refine hr2.lt j fun h0=>hj ?_
     show tagF _ _ (g2.ow j)=.none
     rw[h0];rfl
    ·rw[hsc,<-hrl,List.take_left']
     ·have one:∀(i:Nat) (o:Sh×Fl) (y:(s:Sh)×s.den) (u:Value),K.outs[i]? = some o->rs[i]? = some y->us[i]? = some u->RepV P y.1 o.2 (Zo fun j=>tagF (Qf7 e2 0 K.ins) fn.ntmps (g2.ow j)) w' (So (fun j=>tagF (Qf7 e2 0 K.ins) fn.ntmps (g2.ow j)) (.fl i)) u y.2:=fun i o y u h5 h6 h7=>by
       have:=hall2 i o y u h5 h6 h7
       rw[Nat.zero_add] at this
       exact this.frame hzz (hff i) (fun _ _=>rfl)
      exact QDj hsh hul one
     ·rfl
    ·rw[hsc,<-hrl,List.drop_left']
     ·exact QBG hp hr2 hkeep K.ins 0 vs io (fun k=>by simp) (fun k=>by simp) l1 hio
     ·rfl
   cases x with
   | exit i=>cases h4
   | normal=>exact fin h4
   | ret=>exact fin h4
end Go.Dx
namespace Go.Dx
variable {P:Program} {W0:World} {C:Ctx}
def TysL (P:Program) (C:Ctx):List (TypeId×TI)->Prop
 | []=>True
 | (t,ti)::l=>TyOk P C t ti/\TysL P C l
theorem TysL.get:∀(l:List (TypeId×TI)),TysL P C l->∀t ti,assoc t l=some ti->TyOk P C t ti
 | [],_,t,ti,h=>by cases h
 | (m,a)::l,hl,t,ti,h=>by
  unfold assoc at h
  cases hb:Nat.beq m t with
  | true=>
   rw[hb,aLB] at h
   obtain rfl:=aLw hb
   cases h
   exact hl.1
  | false=>rw[hb,aLC] at h;exact TysL.get l hl.2 t ti h
theorem QCZ (h:TysL P C C.tys):Q0 P C:=fun t ti hh=>TysL.get C.tys h t ti hh
theorem Qb {C C':Ctx} (hc:C'.tys=C.tys) (h:Q0 P C):Q0 P C':=by
 have hty:∀t,C'.ty t=C.ty t:=fun t=>by unfold Ctx.ty;rw[hc]
 have hst:∀(fs:List (Nat×TypeId)) (off:Nat) (s:Sh),Yi C off fs s->Yi C' off fs s:=by
  intro fs
  induction fs with
  | nil=>intro off s h;exact h
  | cons f fs ih=>
   intro off s h
   cases fs with
   | nil=>obtain⟨o,t⟩:=f;simp only[Yi] at h ⊢;rw[hty];exact h
   | cons f2 fs=>obtain⟨o,t⟩:=f;simp only[Yi] at h ⊢;rw[hty];obtain⟨a,b,h1,h2,h3,h4⟩:=h;exact⟨a,b,h1,h2,h3,ih _ _ h4⟩
 intro t ti ht
 rw[hty] at ht
 have h0:=h t ti ht
 refine⟨h0.info,?_⟩
 have hu:=h0.und
 cases htd:ti.td with
 | slice e=>rw[htd] at hu;simp only at hu ⊢;rw[hty];exact hu
 | struct fs=>rw[htd] at hu;simp only at hu ⊢;exact⟨hu.1,hst _ _ _ hu.2.1,hu.2.2⟩
 | _=>rw[htd] at hu;exact hu
def FnsL (P:Program) (W0:World):List (FuncId×Callee)->Prop
 | []=>True
 | (j,K)::l=>Contract P W0 j K/\FnsL P W0 l
theorem FnsL.get:∀(l:List (FuncId×Callee)),FnsL P W0 l->∀j K,assoc j l=some K->Contract P W0 j K
 | [],_,t,ti,h=>by cases h
 | (m,a)::l,hl,t,ti,h=>by
  unfold assoc at h
  cases hb:Nat.beq m t with
  | true=>
   rw[hb,aLB] at h
   obtain rfl:=aLw hb
   cases h
   exact hl.1
  | false=>rw[hb,aLC] at h;exact FnsL.get l hl.2 t ti h
def NpsL (P:Program) (W0:World):List (FuncId×NewP)->Prop
 | []=>True
 | (j,N)::l=>QtC P W0 j N/\NpsL P W0 l
theorem NpsL.get:∀(l:List (FuncId×NewP)),NpsL P W0 l->∀j N,assoc j l=some N->QtC P W0 j N
 | [],_,t,ti,h=>by cases h
 | (m,a)::l,hl,t,ti,h=>by
  unfold assoc at h
  cases hb:Nat.beq m t with
  | true=>
   rw[hb,aLB] at h
   obtain rfl:=aLw hb
   cases h
   exact hl.1
  | false=>rw[hb,aLC] at h;exact NpsL.get l hl.2 t ti h
theorem QvJ {α:Type} {p:α->Bool}:∀(l:List (Nat×α)),l.all (fun q=>p q.2)=true->∀j K,assoc j l=some K->p K=true
 | [],_,j,K,h=>by cases h
 | (m,a)::l,hl,j,K,h=>by
  simp only[List.all_cons,aLg] at hl
  unfold assoc at h
  cases hb:Nat.beq m j with
  | true=>rw[hb,aLB] at h;cases h;exact hl.1
  | false=>rw[hb,aLC] at h;exact QvJ l hl.2 j K h
theorem QxD {d:Bool} (h:FnsL P W0 C.fns) (hn:NpsL P W0 C.nps) (hd:(!d || C.fns.all (fun q=>q.2.dm))=true:=by rfl):Qb5 P W0 d C:=⟨fun j K hh=>FnsL.get C.fns h j K hh,fun j N hh=>NpsL.get C.nps hn j N hh,fun hq j K hh=>by
 rw[hq] at hd
 exact QvJ (p:=fun K:Callee=>K.dm) C.fns (by simpa using hd) j K hh⟩
theorem Qc {d:Bool} (h:FnsL P W0 C.fns) (hn:C.nps=[]:=by rfl) (hd:(!d || C.fns.all (fun q=>q.2.dm))=true:=by rfl):Qb5 P W0 d C:=QxD h (by rw[hn];trivial) hd
end Go.Dx
namespace Go.Dx
variable {P:Program} {C:Ctx} {w:World}
def Sh.plain:Sh->Bool
 | .list s=>s.plain
 | .prod a b=>a.plain&&b.plain
 | .fn1 ..=>false
 | .fn2 ..=>false
 | _=>true
def Bnd:(s:Sh)->s.den->Prop
 | .int k,n=>(Lit.int k n).wf=true
 | .bool,_=>True
 | .str,x=>List.length x<=maxLen
 | .list s,x=>List.length x<=maxLen/\∀y,y ∈ (show List s.den from x)->Bnd s y
 | .prod a b,x=>Bnd a x.1/\Bnd b x.2
 | .fn1 ..,_=>True
 | .fn2 ..,_=>True
theorem TyOk.cells {t:TypeId} {ti:TI} (h:TyOk P C t ti):P.cellsOf t=ti.sh.size:=by
 obtain⟨i,h1,h2,_⟩:=h.info
 simp[Program.cellsOf,h1,h2]
theorem QxW {α β:Type} {f:α->Option β}:∀(l:List α) {r:List β},l.mapM f=some r->r.length=l.length/\∀(i:Nat) (x:α),l[i]? = some x->f x=r[i]?
 | [],r,h=>by simp at h;subst h;simp
 | x::l,r,h=>by
  simp only[List.mapM_cons,Option.bind_eq_bind,aLa,Option.pure_def,aLb] at h
  obtain⟨y,hy,r',hr,rfl⟩:=h
  obtain⟨h1,h2⟩:=QxW l hr
  refine⟨by simp[h1],fun i z hz=>?_⟩
  cases i with
  | zero=>simp only[aLt,aLb] at hz ⊢;subst hz;exact hy
  | succ i=>simp only[List.getElem?_cons_succ] at hz ⊢;exact h2 i z hz
theorem cells?_get {a:Addr} {n:Nat} {cs:List Value} (h:w.cells? 0 a n=some cs):cs.length=n/\∀k,k<n->cs[k]? = w.cell? (a.add k):=by
 simp only[World.cells?,Nat.zero_le,if_true] at h
 obtain⟨h1,h2⟩:=QxW _ h
 refine⟨by simpa using h1,fun k hk=>?_⟩
 exact (h2 k k (by simp[hk])).symm
theorem cell?_some {a:Addr} {v:Value} (h:w.cell? a=some v):a.spot=none/\a.block<w.heap.size:=by
 simp only[World.cell?] at h
 split at h
 ·rename_i c _ _ hc
  split at h
  ·cases h
  ·rename_i hs
   refine⟨by simpa using hs,?_⟩
   rcases Nat.lt_or_ge a.block w.heap.size with h' | h'
   ·exact h'
   ·rw[Array.getElem?_eq_none h'] at hc;cases hc
 ·cases h
theorem QCS {H:Type} {enc:TypeId×Value->H} {sp:Nat->Bool} {held:Bool} {Z:Nat->Prop} (hZ:∀b,b<w.heap.size->Z b) (hT:Q0 P C):∀(fuel:Nat) (t:TypeId) (ti:TI) (cs:List Value) (x:DataW H×List MemPlace),
  C.ty t=some ti->ti.sh.plain=true->DataW.trod enc P w 0 sp held fuel t cs=some x->cs.length=ti.sh.size/\∃y:ti.sh.den,RepC P ti.sh .z Z w QS (fun k=>cs[k]?) y/\Bnd ti.sh y:=by
 intro fuel
 induction fuel with
 | zero=>intro t ti cs x _ _ h;simp[DataW.trod] at h
 | succ fuel ih=>
  intro t ti cs x ht hp h
  have hok:=hT t ti ht
  have hu:=hok.und
  obtain⟨sh,bytes,td⟩:=ti
  simp only at hu hp ⊢
  cases td with
  | int k=>
   obtain⟨hu,rfl⟩:=hu
   obtain⟨n,rfl,_,hw⟩:=DataW.trod_int hu h
   exact⟨rfl,n,fun _=>rfl,hw⟩
  | bool=>
   obtain⟨hu,rfl⟩:=hu
   obtain⟨b,rfl,_⟩:=DataW.trod_bool hu h
   exact⟨rfl,b,fun _=>rfl,trivial⟩
  | str=>
   obtain⟨hu,rfl⟩:=hu
   obtain⟨s,rfl,_,hl⟩:=DataW.trod_string hu h
   exact⟨rfl,s.data.toList,fun _=>by simp,by show s.data.toList.length<=maxLen;simpa using hl⟩
  | ptr e=>obtain⟨_,rfl⟩:=hu;cases hp
  | func=>obtain⟨_,⟨_,_,_,rfl⟩ | ⟨_,_,_,rfl⟩⟩:=hu<;>cases hp
  | other=>exact hu.elim
  | slice e=>
   obtain⟨hu,te,hte,rfl⟩:=hu
   have hce:=(hT e te hte).cells
   simp only[Sh.plain] at hp
   rcases DataW.trod_slice hu h with ⟨rfl,_⟩ | ⟨a,len,cap,elems,rest,n,hn,rfl,_,_,hl,hm,hlen,hel,_⟩
   ·exact⟨rfl,[],⟨none,0,0,rfl,rfl,Nat.le_refl _,fun h=>by omega⟩,by show List.length []<=maxLen;simp,fun y hy=>by cases hy⟩
   ·obtain rfl:fuel=n:=by omega
    have hcell:∀i,i<len->∃cs',w.cells? 0 (a.add (i * te.sh.size)) te.sh.size=some cs'/\∃y:te.sh.den,RepC P te.sh .z Z w QS (fun k=>cs'[k]?) y/\Bnd te.sh y:=by
     intro i hi
     have h1:=hel i hi
     rw[aLf (by omega)] at h1
     obtain⟨cs',h2,h3⟩:=aLa.1 h1
     rw[hce] at h2
     exact⟨cs',h2,(ih e te cs' _ hte hp h3).2⟩
    have hpos:=Sh.size_pos te.sh
    have first:0<len->a.spot=none/\a.block<w.heap.size:=by
     intro h0
     obtain⟨cs',h1,_⟩:=hcell 0 h0
     obtain⟨h2,h3⟩:=cells?_get h1
     have h4:=h3 0 hpos
     rw[aLf (by omega)] at h4
     have h5:=cell?_some h4.symm
     simpa [Addr.add] using h5
    have one:∀i,∃y:te.sh.den,i<len->RepC P te.sh .z Z w QS (Qe w a.block (a.off+i * te.sh.size)) y/\Bnd te.sh y:=by
     intro i
     by_cases hi:i<len
     ·obtain⟨cs',h1,y,h2,h3⟩:=hcell i hi
      refine⟨y,fun _=>⟨RepC.congr (fun k hk=>?_) h2,h3⟩⟩
      obtain⟨_,h4⟩:=cells?_get h1
      have hsp:=(first (by omega)).1
      show Qe w a.block (a.off+i * te.sh.size) k=cs'[k]?
      rw[h4 k hk]
      obtain⟨ab,ao,asp⟩:=a
      simp only at hsp
      subst hsp
      simp only[Qe,Addr.add]
      congr 1
      split<;>split<;>simp_all<;>omega
     ·exact⟨te.sh.dflt,fun h=>absurd h hi⟩
    obtain⟨f,hf⟩:=Classical.axiomOfChoice one
    refine⟨rfl,(List.range len).map f,⟨some a,len,cap,rfl,by simp,hl,fun h0=>?_⟩,?_,fun y hy=>?_⟩
    ·obtain⟨h1,h2⟩:=first h0
     refine⟨a.block,a.off,by rw[<-h1],hZ _ h2,fun j hj=>?_⟩
     have hj':j<len:=by simpa using hj
     have:=(hf j hj').1
     simpa using this
    ·show ((List.range len).map f).length<=maxLen
     simp;omega
    ·have hy:y ∈ (List.range len).map f:=hy
     rw[List.mem_map] at hy
     obtain⟨i,hi,rfl⟩:=hy
     exact (hf i (by simpa using hi)).2
  | struct fs=>
   obtain⟨⟨fields,hu,rfl,_⟩,hso,_⟩:=hu
   have hc0:=hok.cells
   simp only at hc0
   obtain⟨xs,n,hn,_,hlen,hxl,hel⟩:=DataW.trod_struct hu h
   obtain rfl:fuel=n:=by omega
   rw[hc0] at hlen
   refine⟨hlen,?_⟩
   have hall:∀f,f ∈ fields.toList->∃y,DataW.trod enc P w 0 sp held fuel f.type ((cs.drop f.offset).take (P.cellsOf f.type))=some y:=by
    intro f hf
    obtain⟨i,hi,rfl⟩:=List.getElem_of_mem hf
    have hi':i<fields.size:=by simpa using hi
    have:=hel i (fields.toList[i]) (by simp[Array.getElem?_eq_getElem hi'])
    rw[aLf (by omega)] at this
    exact⟨_,this⟩
   have key:∀(l:List Field) (off:Nat) (s:Sh),Yi C off (l.map fun f=>(f.offset,f.type)) s->s.plain=true->(∀f,f ∈ l->f ∈ fields.toList)->∃y:s.den,RepC P s .z Z w QS (fun k=>cs[off+k]?) y/\Bnd s y:=by
    have field:∀(f:Field) (ti:TI),C.ty f.type=some ti->ti.sh.plain=true->f ∈ fields.toList->∃y:ti.sh.den,RepC P ti.sh .z Z w QS (fun k=>cs[f.offset+k]?) y/\Bnd ti.sh y:=by
     intro f ti hti hpl hf
     obtain⟨x',hx'⟩:=hall f hf
     obtain⟨_,y,h2,h3⟩:=ih f.type ti _ _ hti hpl hx'
     refine⟨y,RepC.congr (fun k hk=>?_) h2,h3⟩
     rw[(hT _ _ hti).cells,List.getElem?_take,if_pos hk,List.getElem?_drop]
    intro l
    induction l with
    | nil=>intro off s h;exact h.elim
    | cons f l ihl=>
     intro off s h hpl hsub
     cases l with
     | nil=>
      simp only[List.map_cons,List.map_nil,Yi] at h
      obtain⟨ho,ti,hti,rfl⟩:=h
      obtain⟨y,h1,h2⟩:=field f ti hti hpl (hsub f (by simp))
      rw[ho] at h1
      exact⟨y,h1,h2⟩
     | cons f2 l=>
      simp only[List.map_cons,Yi] at h
      obtain⟨a,b,rfl,ho,⟨ti,hti,rfl⟩,hrest⟩:=h
      simp only[Sh.plain,aLg] at hpl
      obtain⟨y,h1,h2⟩:=field f ti hti hpl.1 (hsub f (by simp))
      obtain⟨z,h3,h4⟩:=ihl (off+ti.sh.size) b hrest hpl.2 (fun g hg=>hsub g (by simp[hg]))
      rw[ho] at h1
      refine⟨(y,z),⟨fun _=>true,h1.mono (fun _ h=>h) (fun _ h=>h.elim),?_⟩,h2,h4⟩
      refine RepC.mono (fun _ h=>h) (fun _ h=>h.elim) (RepC.congr (fun k hk=>?_) h3)
      show cs[off+(ti.sh.size+k)]? = _
      rw[Nat.add_assoc]
   obtain⟨y,h1,h2⟩:=key fields.toList 0 sh hso hp (fun f hf=>hf)
   refine⟨y,RepC.congr (fun k hk=>?_) h1,h2⟩
   rw[Nat.zero_add]
end Go.Dx
namespace Go.Dx
open Go.ChangeShapes Go.WideShapes Go.ChangeAt Go.RowKit
variable {P:Program} {C:Ctx} {H:Type} {enc:TypeId×Value->H}
noncomputable def QiI (w:World):Nat->Tag:=fun i=>if i<w.heap.size then .fz else .none
def PsOf (C:Ctx):List TypeId->List PS->Prop
 | [],[]=>True
 | t::ts,.v s f::ps=>(∃ti,C.ty t=some ti/\ti.sh=s/\s.plain=true)/\f=.z/\PsOf C ts ps
 | _,_=>False
def BndI:(ps:List PS)->TupI (ps.map PS.sh)->Prop
 | [],_=>True
 | p::ps,t=>Bnd p.sh t.1/\BndI ps t.2
theorem QCs {W:World} {sp:Nat->Bool} {held:Bool} {r:Reach} {b0:Nat} (hT:Q0 P C) {t:TypeId} {ti:TI} (ht:C.ty t=some ti) (hp:ti.sh.plain=true) {v:Value} {d:DataW H} {ps:List MemPlace} (hval:Value.okWide P W r b0 t v)
  (hd:DataW.Trod enc P W 0 sp held t v d ps) (i:Nat):∃y:ti.sh.den,Qvf P (QiI W) W i (.v ti.sh .z) v y/\Bnd ti.sh y:=by
 obtain⟨fuel,hd⟩:=hd
 obtain⟨hlen,y,h1,h2⟩:=QCS (Z:=Zo (QiI W)) (fun b hb=>by show QiI W b=.fz;simp[QiI,hb]) hT fuel t ti _ _ ht hp hd
 refine⟨y,⟨?_,RepC.mono (fun _ h=>h) (fun _ h=>h.elim) (RepC.congr (fun k hk=>?_) h1)⟩,h2⟩
 ·have hok:=hT t ti ht
  have hu:=hok.und
  have hce:=hok.cells
  obtain⟨sh,bytes,td⟩:=ti
  simp only at hu hce hp ⊢
  cases td with
  | int k=>obtain⟨hu,rfl⟩:=hu;cases v<;>first | rfl | (simp[Value.okWide,Cell.okWide,Cell.ok,hu] at hval)
  | bool=>obtain⟨hu,rfl⟩:=hu;cases v<;>first | rfl | (simp[Value.okWide,Cell.okWide,Cell.ok,hu] at hval)
  | str=>obtain⟨hu,rfl⟩:=hu;cases v<;>first | rfl | (simp[Value.okWide,Cell.okWide,Cell.ok,hu] at hval)
  | ptr e=>obtain⟨_,rfl⟩:=hu;cases hp
  | func=>obtain⟨_,⟨_,_,_,rfl⟩ | ⟨_,_,_,rfl⟩⟩:=hu<;>cases hp
  | other=>exact hu.elim
  | slice e=>obtain⟨hu,te,_,rfl⟩:=hu;cases v<;>first | rfl | (simp[Value.okWide,Cell.okWide,Cell.ok,hu] at hval)
  | struct fs=>
   obtain⟨⟨fields,hu,rfl,_⟩,hso,h2,_⟩:=hu
   simp only[Value.okWide,hu] at hval
   obtain⟨cs,rfl,hcs,_⟩:=hval
   have:=Yi.prod hso h2
   cases sh with
   | prod a b=>exact⟨cs,rfl,by rw[hcs,hce];rfl⟩
   | _=>cases this
 ·simp[Qk]
theorem QyC {W:World} {sp:Nat->Bool} {held:Bool} {r:Reach} {b0:Nat} (hT:Q0 P C):∀(ts:List TypeId) (ps:List PS) (vs:List Value) (ds:List (DataW H)) (pl:List MemPlace) (i:Nat),PsOf C ts ps->DataW.TrodAll enc P W 0 sp held ts vs ds pl->
  (∀(j:Nat) t v,ts[j]? = some t->vs[j]? = some v->Value.okWide P W r b0 t v)->ds.length=ts.length/\∃xs:TupI (ps.map PS.sh),QbO P (QiI W) W i ps vs xs/\BndI ps xs
 | [],[],vs,ds,pl,i,_,h,_=>by
  obtain⟨rfl,rfl,rfl⟩:=trodAll_nil h
  exact⟨rfl,(),rfl,trivial⟩
 | [],_::_,_,_,_,_,hps,_,_=>hps.elim
 | _::_,[],_,_,_,_,hps,_,_=>hps.elim
 | t::ts,.v s f::ps,vs,ds,pl,i,hps,h,hval=>by
  obtain⟨⟨ti,ht,rfl,hp⟩,rfl,hps⟩:=hps
  obtain⟨v,vs',d,ds',p,q,rfl,rfl,rfl,h1,h2⟩:=trodAll_cons h
  obtain⟨y,h3,h4⟩:=QCs hT ht hp (hval 0 t v rfl rfl) h1 i
  obtain⟨hl,xs,h5,h6⟩:=QyC hT ts ps vs' ds' q (i+1) hps h2 (fun j t v ht hv=>hval (j+1) t v (by simpa using ht) (by simpa using hv))
  exact⟨by simp[hl],(y,xs),⟨h3,h5⟩,h4,h6⟩
 | _::_,.rp _ _::_,_,_,_,_,hps,_,_=>hps.elim
 | _::_,.io .. :: _,_,_,_,_,hps,_,_=>hps.elim
 | _::_,.mu .. :: _,_,_,_,_,hps,_,_=>hps.elim
theorem QvS (hl:laidOutB P=true) {W W':World} {sp':Nat->Bool}:∀(ts:List TypeId) (vs:List Value) (ds:List (DataW H)) (pl:List MemPlace),(∀t,t ∈ ts->P.readableRec t=true/\t<P.types.size)->DataW.TrodAll enc P W 0 (fun _=>true) true ts vs ds pl->
  (∀p,p ∈ pl->W.sameAt W' p)->(∀p,p ∈ pl->sp' p.block=true)->DataW.TrodAll enc P W' 0 sp' true ts vs ds pl
 | [],vs,ds,pl,_,h,_,_=>by
  obtain⟨rfl,rfl,rfl⟩:=trodAll_nil h
  exact rfl
 | t::ts,vs,ds,pl,hr,h,hs,hsp=>by
  obtain⟨v,vs',d,ds',p,q,rfl,rfl,rfl,h1,h2⟩:=trodAll_cons h
  obtain⟨h3,h4⟩:=hr t (by simp)
  exact⟨p,q,WideElems.Trod_stays hl h3 h4 h1 (fun x hx=>hs x (by simp[hx])) (fun x hx=>hsp x (by simp[hx])),QvS hl ts vs' ds' q (fun t ht=>hr t (by simp[ht])) h2 (fun x hx=>hs x (by simp[hx])) (fun x hx=>hsp x (by simp[hx])),rfl⟩
theorem Qxe {f:Func} {s:ChangeSpec} {apart fresh handsOn again:Bool} {W W':World} {args:Array Value} {v:Value} {ds:List (DataW H)} {before:List MemPlace} (hvs:s.vars=[]) (hl:laidOutB P=true)
  (hr:∀t,t ∈ f.params.toList->P.readableRec t=true/\t<P.types.size)
  (hW:DataW.Whole enc P f.params.toList s.vars apart W args.toList ds [] before) (hb:Below W.heap.size W W') {rs:List (DataW H)} (hspec:s.fn H ds = { results:=rs,args:=ds })
  (hres:∀(b:Nat) (sp:Nat->Bool) (hd:Bool),DataW.TrodAll enc P W' b sp hd f.resultTypes.toList (v.resultList f.resultTypes.size) rs [])
  (hok:∀(j:Nat) (t:TypeId) (r:Value),f.resultTypes[j]? = some t->(v.resultList f.resultTypes.size)[j]? = some r->Value.okWide P W' .any 0 t r) :
  s.post enc P f apart fresh handsOn again W args v W':=by
 have hlt:∀p ∈ before,p.block<W.heap.size:=fun p hp=>by simpa using hW.lt p hp
 have hold:∀p ∈ before,(fun b=>decide (b<W.heap.size)) p.block=true:=fun p hp=>by simpa using hW.lt p hp
 obtain⟨p,q,hA,hV,rfl,hz,hn⟩:=id hW
 have hV':DataW.TrodVars enc P W (fun _=>true) [] [] q:=by rw[hvs] at hV;exact hV
 obtain rfl:q=[]:=hV'
 have hargs:∀sp:Nat->Bool,(∀x ∈ p++[],sp x.block=true)->DataW.TrodAll enc P W' 0 sp true f.params.toList args.toList ds p:=fun sp hsp=>
  QvS hl _ _ _ _ hr hA (fun x hx=>hb.same (hlt x (by simp[hx]))) (fun x hx=>hsp x (by simp[hx]))
 have hfn:s.fn H (ds++[]) = { results:=rs,args:=ds }:=by rw[List.append_nil];exact hspec
 have hvars:∀sp:Nat->Bool,DataW.TrodVars enc P W' sp s.vars [] []:=fun sp=>by rw[hvs];exact rfl
 refine⟨ds,[],p++[],[],p,[],hW,by rw[hfn];exact hres _ _ _,by rw[hfn];exact hargs _ hold,by rw[hfn];exact hvars _,hb.frame _,fun _=>?_⟩
 refine⟨hok,_,_,([]++p)++[],⟨[]++p,[],trodAll_append (hargs _ (fun _ _=>rfl)) (hres _ _ _),hvars _,rfl,?_,?_⟩,?_⟩
 ·intro b off hp
  have hlo:b<W.heap.size:=hlt (.cell b off) (by simpa using hp)
  rw[hb.frozen (p:=⟨b,off,none⟩) hlo]
  exact hz b off (by simpa using hp)
 ·intro ha
  have:=hn ha
  simpa using this
 ·intro x hx _
  simpa using hx
theorem Qjf (hT:Q0 P C) {j:FuncId} {fn:Func} {K:Callee} {W:World} (hK:Contract P W j K) (hps:PsOf C fn.params.toList K.ins) (hres:fn.resultTypes = #[4]) (hbool:P.underlying 4=some .bool)
  {s:ChangeSpec} {apart fresh handsOn again:Bool} (hvs:s.vars=[]) (hl:laidOutB P=true) (hr:∀t,t ∈ fn.params.toList->P.readableRec t=true/\t<P.types.size)
  (hspec:∀ds:List (DataW H),ds.length=fn.params.toList.length->s.fn H ds = { results:=[.lit (.bool true)],args:=ds })
  {base:Nat} {args:Array Value} {ds gs:List (DataW H)} {before:List MemPlace} (hval:∀(j:Nat) t v,fn.params[j]? = some t->args[j]? = some v->Value.okWide P W .any base t v)
  (hW:DataW.Whole enc P fn.params.toList s.vars apart W args.toList ds gs before)
  (hF:∀xs,BndI K.ins xs->∃ys,K.F xs=some ys/\K.outs=[(.bool,.z)]/\(scat _ ys).take K.outs.length=[⟨.bool,true⟩]) :
  Calls P j args W fun e W'=>∃v,e=.returned v/\s.post enc P fn apart fresh handsOn again W args v W':=by
 obtain⟨p,q,hA,hV,hb,hz,hn⟩:=id hW
 have hV':DataW.TrodVars enc P W (fun _=>true) [] gs q:=by rw[hvs] at hV;exact hV
 have hgs:gs=[]:=by cases gs with | nil=>rfl | cons g gs=>exact hV'.elim
 subst hgs
 obtain⟨hlen,xs,hpar,hbnd⟩:=QyC hT fn.params.toList K.ins args.toList ds p 0 hps hA (fun j t v ht hv=>hval j t v (by simpa using ht) (by simpa using hv))
 obtain⟨ys,hys,houts,hy⟩:=hF xs hbnd
 have hc:=hK.2 W (QiI W) args.toList xs ys (fun i hi=>by
  rcases Nat.lt_or_ge i W.heap.size with h | h
  ·exact h
  ·exact absurd (by simp[QiI,Nat.not_lt.2 h]) hi) (fun i hi=>⟨by simp[QiI,hi],rfl⟩) hpar hys
 have hc:Calls P j args W (fun e w'=>∃vr ow',e=.returned vr/\Qir P K (QiI W) W args.toList ys ow' w' vr):=by simpa using hc
 refine hc.mono fun e W' ⟨vr,ow',he,hpost⟩=>⟨vr,he,?_⟩
 have hbel:Below W.heap.size W W':=⟨hpost.st.os,hpost.st.tape,hpost.st.output,hpost.st.size,fun k hk=>(hpost.frame k hk (.inr (by simp[QiI,hk]))).1⟩
 have hvr:vr=.bool true:=by
  have h1:=hpost.res
  rw[hy] at h1
  rw[houts] at h1
  obtain⟨_,h2⟩:=h1
  simp only at h2
  have h3:Qk vr 0=some (.bool true):=h2.2 (by simp)
  have h4:vr.cells = #[vr]:=h2.1
  simp only[Qk,h4] at h3
  simpa using h3
 subst hvr
 refine Qxe hvs hl hr hW hbel (hspec ds hlen) (fun b sp hd=>?_) (ok_one hres rfl (okWide_bool_mk hbool _))
 rw[hres]
 exact trodAll_mk1 (shut_bool hbool _)
end Go.Dx
namespace Go.Dx
theorem Qol {S X:Type} {f:S->Option (S⊕X)}:∀(n:Nat) {s:S} {x:X} (m:Nat),Qb0 f n s=some x->n<=m->Qb0 f m s=some x
 | 0,s,x,m,h,_=>by simp[Qb0] at h
 | n+1,s,x,0,h,hm=>by omega
 | n+1,s,x,m+1,h,hm=>by
  unfold Qb0 at h ⊢
  split at h
  ·cases h
  ·exact Qol n m h (by omega)
  ·exact h
theorem QsF {S X:Type} {f:S->Option (S⊕X)} {n:Nat} {s:S} {x:X} (h:Qb0 f n s=some x):Qf f s=some x:=by
 unfold Qf
 have hex:∃n x,Qb0 f n s=some x:=⟨n,x,h⟩
 rw[dif_pos hex]
 have h2:=hex.choose_spec.choose_spec
 have a:=Qol _ (max n hex.choose) h (Nat.le_max_left _ _)
 have b:=Qol _ (max n hex.choose) h2 (Nat.le_max_right _ _)
 rw[a] at b
 exact b.symm
theorem QqH {S X:Type} {f:S->Option (S⊕X)} {s:S} {x:X} (h:Qf f s=some x):∃n,Qb0 f n s=some x:=by
 unfold Qf at h
 split at h
 ·rename_i hex
  have h2:=hex.choose_spec.choose_spec
  simp only[aLb] at h
  exact⟨hex.choose,by rw[<-h];exact h2⟩
 ·cases h
theorem Qke {S X:Type} {f:S->Option (S⊕X)} {s s':S} {x:X} (h:f s=some (.inl s')) (h2:Qf f s'=some x):Qf f s=some x:=by
 obtain⟨n,hn⟩:=QqH h2
 exact QsF (n:=n+1) (by unfold Qb0;rw[h];exact hn)
theorem QB {S X:Type} {f:S->Option (S⊕X)} {s:S} {x:X} (h:f s=some (.inr x)):Qf f s=some x:=QsF (n:=1) (by unfold Qb0;rw[h])
theorem Qi {n:Int} (h1:-9223372036854775808<=n) (h2:n<9223372036854775808):IntKind.wrap .i64 n=n:=by
 simp[IntKind.wrap,IntKind.signed,IntKind.bits]
 omega
theorem Qg {α:Type} (l:List α) (i:Nat) (d:α) (h:i<l.length):List.getD l (Int.toNat (i:Int)) d=l[i]:=by
 simp[aLk,aLf h]
theorem Qh {α:Type} (l:List α) (i:Nat) (h:i<l.length):inB (i:Int) l=true:=by
 simp[inB];omega
theorem QFn {α:Type} (l:List α) (d:α) (f:List α×Int->Option ((List α×Int)⊕List α)) (hstep:∀(i:Nat) (acc:List α) (h:i<l.length),acc.length=l.length->f (acc,(i:Int))=some (.inl (acc.set i l[i],((i+1:Nat):Int))))
  (hend:∀acc,f (acc,(l.length:Int))=some (.inr acc)):Qf f (List.replicate l.length d,0)=some l:=by
 have key:∀(k i:Nat) (acc:List α),i+k=l.length->acc.length=l.length->(∀j (h:j<l.length),j<i->acc[j]? = some l[j])->Qf f (acc,(i:Int))=some l:=by
  intro k
  induction k with
  | zero=>
   intro i acc hi hl hj
   obtain rfl:i=l.length:=by omega
   have:acc=l:=List.ext_getElem hl (fun j h1 h2=>by
    have:=hj j h2 h2
    rw[aLf h1] at this
    simpa using this)
   rw[<-this] at hend ⊢
   exact QB (hend acc)
  | succ k ih=>
   intro i acc hi hl hj
   refine Qke (hstep i acc (by omega) hl) (ih (i+1) _ (by omega) (by simpa using hl) fun j h1 h2=>?_)
   rw[List.getElem?_set]
   by_cases hij:i=j
   ·subst hij;simp[hl];omega
   ·rw[if_neg hij];exact hj j h1 (by omega)
 exact key l.length 0 _ (by omega) (by simp) (fun j _ h=>by omega)
theorem QFm {α:Type} [DecidableEq α] (l r:List α) (hl:l.length=r.length) (f:Int->Option (Int⊕(Unit⊕Bool)))
  (hstep:∀(i:Nat) (h:i<l.length) (h':i<r.length),f (i:Int)=if l[i]=r[i] then some (.inl ((i+1:Nat):Int)) else some (.inr (.inr false))) (hend:f (l.length:Int)=some (.inr (.inl ()))) :
  (Qf f 0).bind (fun j=>Sum.elim (fun _=>some true) (fun b=>some b) j)=some (decide (l=r)):=by
 have key:∀(k i:Nat),i+k=l.length->Qf f (i:Int)=some (if l.drop i=r.drop i then .inl () else .inr false):=by
  intro k
  induction k with
  | zero=>
   intro i hi
   obtain rfl:i=l.length:=by omega
   rw[QB hend,List.drop_length,hl,List.drop_length,if_pos rfl]
  | succ k ih=>
   intro i hi
   have h1:i<l.length:=by omega
   have h2:i<r.length:=by omega
   have hs:=hstep i h1 h2
   rw[aLr h1,aLr h2]
   by_cases he:l[i]=r[i]
   ·rw[if_pos he] at hs
    rw[Qke hs (ih (i+1) (by omega)),he]
    by_cases hab:List.drop (i+1) l=List.drop (i+1) r
    ·rw[if_pos hab,if_pos (by rw[hab])]
    ·rw[if_neg hab,if_neg (fun h=>hab (List.cons.inj h).2)]
   ·rw[if_neg he] at hs
    rw[QB hs,if_neg (fun h=>he (List.cons.inj h).1)]
 have:=key l.length 0 (by omega)
 simp only[List.drop_zero] at this
 rw[show ((0:Nat):Int)=0 from rfl] at this
 rw[this]
 by_cases h:l=r<;>simp[h]
def szr (t:Nat) (left:Int):Int:=if (t:Int)<=left then left - t else -1
theorem QFk (a b:Nat) (left:Int) {k:Int->Option Int} (h0:0<=left) (hk:0<=szr a left->k (szr a left)=some (szr b (szr a left))):(bif decide (szr a left<0) then some (-1) else k (szr a left))=some (szr (a+b) left):=by
 by_cases h:(a:Int)<=left
 ·have e:szr a left=left - a:=by simp[szr,h]
  have hn:¬szr a left<0:=by omega
  simp only[hn,decide_false,aLC]
  rw[hk (by omega),e]
  simp only[szr]
  congr 1
  split<;>split<;>omega
 ·have e:szr a left = -1:=by simp[szr,h]
  simp only[e]
  have:szr (a+b) left = -1:=by simp only[szr];split<;>omega
  simp[this]
theorem QFj (a:Nat) (left:Int) (h0:0<=left):(bif decide (szr a left<0) then some (-1) else some (szr a left))=some (szr a left):=by
 by_cases h:(a:Int)<=left
 ·have e:szr a left=left - a:=by simp[szr,h]
  have hn:¬szr a left<0:=by omega
  simp[hn]
 ·have e:szr a left = -1:=by simp[szr,h]
  simp[e]
theorem QFs {a:Nat} {left:Int} (h:0<=szr a left):(a:Int)<=left/\szr a left=left - a:=by
 unfold szr at h ⊢;split at h<;>simp_all<;>omega
theorem QFi {n:Nat} {left:Int} {k:Int->Option Int} {b:Nat} (h0:0<=left) (h1:left<=1048576) (hn:n<=9223372036854775807) (hk:(n:Int)<=left->k (left - n)=some (szr b (left - n))) :
  (bif decide (IntKind.wrap .i64 (left - (n:Int))<0) then some (-1) else k (IntKind.wrap .i64 (left - (n:Int))))=some (szr (n+b) left):=by
 rw[Qi (by omega) (by omega)]
 by_cases h:(n:Int)<=left
 ·have hn:¬(left - (n:Int))<0:=by omega
  simp only[hn,decide_false,aLC]
  rw[hk h]
  simp only[szr]
  congr 1
  split<;>split<;>omega
 ·have hn:(left - (n:Int))<0:=by omega
  have:szr (n+b) left = -1:=by simp only[szr];split<;>omega
  simp[hn,this]
theorem QFo {α:Type} (l:List α) (m:α->Nat) (f:Int×Int->Option ((Int×Int)⊕(Int⊕Int)))
  (hstep:∀(i:Nat) (left:Int) (h:i<l.length),0<=left->left<=1048576->f (left,(i:Int))=if (m l[i]:Int)<=left then some (.inl (left - m l[i],((i+1:Nat):Int))) else some (.inr (.inr (-1))))
  (hend:∀left,f (left,(l.length:Int))=some (.inr (.inl left))) (left:Int) (h0:0<=left) (h1:left<=1048576) :
  (Qf f (left,0)).bind (fun j=>Sum.elim (fun a=>some a) (fun b=>some b) j)=some (szr (l.map m).sum left):=by
 have key:∀(k i:Nat) (left:Int),i+k=l.length->0<=left->left<=1048576->(Qf f (left,(i:Int))).bind (fun j=>Sum.elim (fun a=>some a) (fun b=>some b) j)=some (szr ((l.drop i).map m).sum left):=by
  intro k
  induction k with
  | zero=>
   intro i left hi h0 h1
   obtain rfl:i=l.length:=by omega
   rw[QB (hend left),List.drop_length]
   simp[szr,h0]
  | succ k ih=>
   intro i left hi h0 h1
   have hlt:i<l.length:=by omega
   have hs:=hstep i left hlt h0 h1
   rw[aLr hlt,List.map_cons,List.sum_cons]
   by_cases he:(m l[i]:Int)<=left
   ·rw[if_pos he] at hs
    have hr:=ih (i+1) (left - m l[i]) (by omega) (by omega) (by omega)
    cases hx:Qf f (left - (m l[i]:Int),((i+1:Nat):Int)) with
    | none=>rw[hx] at hr;cases hr
    | some y=>
     rw[hx] at hr
     rw[Qke hs hx]
     refine hr.trans ?_
     simp only[szr]
     congr 1
     split<;>split<;>omega
   ·rw[if_neg he] at hs
    rw[QB hs]
    have:szr (m l[i]+((l.drop (i+1)).map m).sum) left = -1:=by simp only[szr];split<;>omega
    rw[this];rfl
 have:=key l.length 0 left (by omega) h0 h1
 simpa using this
end Go.Dx
namespace Go.Dx
theorem QEO {S X:Type} {f:S->Option (S⊕X)} {s:S} (h:f s=none):Qf f s=none:=by
 cases hl:Qf f s with
 | none=>rfl
 | some x=>
  obtain⟨n,hn⟩:=QqH hl
  cases n with
  | zero=>simp[Qb0] at hn
  | succ n=>unfold Qb0 at hn;rw[h] at hn;cases hn
theorem Q2 {S X:Type} {f:S->Option (S⊕X)} {s s':S} (h:f s=some (.inl s')):Qf f s=Qf f s':=by
 cases hl:Qf f s' with
 | some x=>exact Qke h hl
 | none=>
  cases hl2:Qf f s with
  | none=>rfl
  | some x=>
   obtain⟨n,hn⟩:=QqH hl2
   cases n with
   | zero=>simp[Qb0] at hn
   | succ n=>
    unfold Qb0 at hn;rw[h] at hn
    rw[QsF hn] at hl;cases hl
def BIG:Nat:=4611686018427387904
theorem dlt {i n:Nat} (h:i<n):decide ((i:Int)<(n:Int))=true:=by simpa using h
theorem dge (n:Nat):decide ((n:Int)<(n:Int))=false:=by simp
theorem wsucc {i n:Nat} (h:i<n) (hb:n<BIG):IntKind.wrap .i64 ((i:Int)+1)=((i+1:Nat):Int):=by
 rw[Qi (by omega) (by unfold BIG at hb;omega)];rfl
theorem wpred {i n:Nat} (h:i<n) (hb:n<BIG):IntKind.wrap .i64 ((i+1:Nat) - 1:Int)=(i:Int):=by
 rw[Qi (by omega) (by unfold BIG at hb;omega)];omega
theorem Jf {α:Type} (l:List α) (i:Nat) (h:i<=l.length):QT 0 (i:Int) l=true:=by
 simp[QT];omega
theorem QdF {α:Type} (l:List α) (i:Nat):cut 0 (i:Int) l=l.take i:=by
 simp[cut]
def first {α β:Type} (g:Nat->α->Option β):Nat->List α->Option β
 | _,[]=>none
 | i,a::l=>match g i a with | some r=>some r | none=>first g (i+1) l
theorem Qcl {α β:Type} (l:List α) (g:Nat->α->Option β) (f:Int->Option (Int⊕(Unit⊕β)))
  (hs:∀(i:Nat) (h:i<l.length),f (i:Int)=some (match g i l[i] with | none=>.inl ((i+1:Nat):Int) | some r=>.inr (.inr r))) (he:f (l.length:Int)=some (.inr (.inl ()))) :
  Qf f 0=some (match first g 0 l with | none=>.inl () | some r=>.inr r):=by
 have key:∀(k i:Nat),i+k=l.length->Qf f (i:Int)=some (match first g i (l.drop i) with | none=>.inl () | some r=>.inr r):=by
  intro k
  induction k with
  | zero=>
   intro i hi
   obtain rfl:i=l.length:=by omega
   rw[QB he,List.drop_length];rfl
  | succ k ih=>
   intro i hi
   have h1:i<l.length:=by omega
   have hs:=hs i h1
   rw[aLr h1]
   simp only[first]
   cases hg:g i l[i] with
   | none=>rw[hg] at hs;rw[Q2 hs,ih (i+1) (by omega)]
   | some r=>rw[hg] at hs;rw[QB hs]
 have:=key l.length 0 (by omega)
 simpa using this
theorem QrV {α β:Type} {g g':Nat->α->Option β}:∀(l:List α) (i:Nat),(∀j a,i<=j->l[j - i]? = some a->g j a=g' j a)->first g i l=first g' i l
 | [],_,_=>rfl
 | a::l,i,h=>by
  simp only[first]
  rw[h i a (Nat.le_refl _) (by simp)]
  cases g' i a with
  | some r=>rfl
  | none=>exact QrV l (i+1) (fun j b hj hb=>h j b (by omega) (by rw[show j - i=(j - (i+1))+1 by omega];simpa using hb))
theorem Qh6 {α β:Type} {g:Nat->α->Option β}:∀(l:List α) (i:Nat),first g i l=none↔∀j a,l[j]? = some a->g (i+j) a=none
 | [],i=>by simp[first]
 | a::l,i=>by
  simp only[first]
  constructor
  ·intro h j b hb
   cases hg:g i a with
   | some r=>rw[hg] at h;cases h
   | none=>
    rw[hg] at h
    cases j with
    | zero=>simp only[aLt,aLb] at hb;subst hb;exact hg
    | succ j=>rw[show i+(j+1)=i+1+j by omega];exact (Qh6 l (i+1)).1 h j b (by simpa using hb)
  ·intro h
   rw[show g i a=none from h 0 a (by simp)]
   exact (Qh6 l (i+1)).2 (fun j b hb=>by rw[show i+1+j=i+(j+1) by omega];exact h (j+1) b (by simpa using hb))
theorem QDr {α β:Type} {g g':Nat->α->Option β} (l:List α) (h:∀j a,l[j]? = some a->(∀k b,k<j->l[k]? = some b->g k b=none)->g j a=g' j a):first g 0 l=first g' 0 l:=by
 have key:∀(n:Nat),n<=l.length->(∀k b,k<l.length - n->l[k]? = some b->g k b=none)->first g (l.length - n) (l.drop (l.length - n))=first g' (l.length - n) (l.drop (l.length - n)):=by
  intro n
  induction n with
  | zero=>intro _ _;simp[first]
  | succ n ih=>
   intro hn hp
   have h1:l.length - (n+1)<l.length:=by omega
   rw[aLr h1]
   simp only[first]
   rw[<-h _ _ (aLf h1) hp]
   cases hg:g (l.length - (n+1)) l[l.length - (n+1)] with
   | some r=>rfl
   | none=>
    simp only
    rw[show l.length - (n+1)+1=l.length - n by omega]
    refine ih (by omega) (fun k b hk hb=>?_)
    by_cases hkk:k<l.length - (n+1)
    ·exact hp k b hkk hb
    ·have:k=l.length - (n+1):=by omega
     subst this
     rw[aLf h1] at hb
     simp only[aLb] at hb;subst hb;exact hg
 have:=key l.length (Nat.le_refl _) (fun k b hk=>by omega)
 simpa using this
theorem Qlm {α β:Type} (p:α->Bool) (r:β):∀(l:List α) (i:Nat),first (fun _ a=>if p a then some r else none) i l=if l.any p then some r else none
 | [],_=>rfl
 | a::l,i=>by
  simp only[first,List.any_cons]
  by_cases hp:p a=true
  ·simp[hp]
  ·simp[hp,Qlm p r l (i+1)]
def idxF {α:Type} (p:α->Bool) (l:List α):Int:=match first (fun i a=>if p a then some (i:Int) else none) 0 l with | some i=>i | none=>-1
theorem QvI {α:Type} (p:α->Bool):∀(l:List α) (i:Nat),first (fun i a=>if p a then some (i:Int) else none) i l=(List.findIdx? p l).map (fun k=>((i+k:Nat):Int))
 | [],_=>by simp[first]
 | a::l,i=>by
  simp only[first,List.findIdx?_cons]
  by_cases hp:p a=true
  ·simp[hp]
  ·simp[hp,QvI p l (i+1)]
   cases List.findIdx? p l with
   | none=>rfl
   | some k=>simp;omega
theorem Qug {α:Type} (p:α->Bool) (l:List α):idxF p l=match List.findIdx? p l with | some k=>(k:Int) | none=>-1:=by
 unfold idxF
 rw[QvI]
 cases List.findIdx? p l with
 | none=>rfl
 | some k=>simp
theorem Qn6 {α:Type} (p:α->Bool) (l:List α):idxF p l<0↔l.any p=false:=by
 rw[Qug]
 cases h:List.findIdx? p l with
 | none=>
  rw[List.findIdx?_eq_none_iff] at h
  simp only[List.any_eq_false]
  constructor
  ·intro _ x hx;rw[h x hx];simp
  ·intro _;decide
 | some k=>
  simp only
  constructor
  ·intro h;omega
  ·intro hf
   rw[List.findIdx?_eq_some_iff_getElem] at h
   obtain⟨hk,hp,_⟩:=h
   rw[List.any_eq_false] at hf
   exact absurd hp (hf _ (aLl hk))
theorem ZZ {α:Type} (p:α->Bool) (l:List α):decide (0<=idxF p l)=l.any p:=by
 cases h:l.any p with
 | false=>have:=(Qn6 p l).2 h;simp;omega
 | true=>
  have:¬idxF p l<0:=fun hh=>by rw[(Qn6 p l).1 hh] at h;cases h
  simp;omega
theorem QB1 {α:Type} (p:α->Bool) (l:List α):decide (idxF p l<0) = !l.any p:=by
 rw[<-ZZ]
 by_cases h:idxF p l<0
 ·have h2:¬0<=idxF p l:=by omega
  simp[h,h2]
 ·have h2:0<=idxF p l:=by omega
  simp[h,h2]
theorem QjL {α:Type} {p:α->Bool} {l:List α} (h:l.any p=true):∃(k:Nat) (hk:k<l.length),idxF p l=(k:Int)/\p l[k]=true/\∀j (hj:j<k),p (l[j]'(by omega))=false:=by
 rw[Qug]
 cases hf:List.findIdx? p l with
 | none=>
  rw[List.findIdx?_eq_none_iff] at hf
  rw[List.any_eq_true] at h
  obtain⟨x,hx,hp⟩:=h
  rw[hf x hx] at hp;cases hp
 | some k=>
  rw[List.findIdx?_eq_some_iff_getElem] at hf
  obtain⟨hk,hp,hj⟩:=hf
  exact⟨k,hk,rfl,hp,fun j hjk=>by simpa using hj j hjk⟩
theorem Qd9 {β γ:Type} (o:Option β) (A:Unit->Option γ) (B:β->Option γ) :
  ((some (match o with | none=>Sum.inl () | some r=>Sum.inr r):Option (Unit⊕β)).bind fun j=>Sum.elim A B j)=match o with | none=>A () | some r=>B r:=by
 cases o<;>rfl
theorem QcM {α:Type} (l:List α) (p:α->Bool) (f:Int->Option (Int⊕(Unit⊕Int)))
  (hs:∀(i:Nat) (h:i<l.length),f (i:Int)=some (if p l[i] then .inr (.inr (i:Int)) else .inl ((i+1:Nat):Int))) (he:f (l.length:Int)=some (.inr (.inl ()))) :
  ((Qf f 0).bind fun j=>Sum.elim (fun _=>some (-1)) (fun j=>some j) j)=some (idxF p l):=by
 rw[Qcl l (fun i a=>if p a then some (i:Int) else none) f (fun i h=>by rw[hs i h];cases p l[i]<;>rfl) he,Qd9]
 unfold idxF
 cases first (fun i a=>if p a then some (i:Int) else none) 0 l<;>rfl
theorem Qon {α:Type} (l:List α) (p:α->Bool) (f:Int->Option (Int⊕(Unit⊕Bool)))
  (hs:∀(i:Nat) (h:i<l.length),f (i:Int)=some (if p l[i] then .inr (.inr true) else .inl ((i+1:Nat):Int))) (he:f (l.length:Int)=some (.inr (.inl ()))) :
  ((Qf f 0).bind fun j=>Sum.elim (fun _=>some false) (fun j=>some j) j)=some (l.any p):=by
 rw[Qcl l (fun i a=>if p a then some true else none) f (fun i h=>by rw[hs i h];cases p l[i]<;>rfl) he,Qd9,Qlm]
 cases l.any p<;>rfl
def along {α σ:Type} (g:σ->α->σ):List α->σ->σ
 | [],t=>t
 | a::l,t=>along g l (g t a)
theorem Yh {α σ S X:Type} (l:List α) (g:σ->α->σ) (enc:σ->Int->S) (D:σ->X) (Ok:σ->Nat->Prop) (f:S->Option (S⊕X))
  (hs:∀(i:Nat) (h:i<l.length) (t:σ),Ok t i->f (enc t (i:Int))=some (.inl (enc (g t l[i]) ((i+1:Nat):Int)))/\Ok (g t l[i]) (i+1))
  (he:∀t,Ok t l.length->f (enc t (l.length:Int))=some (.inr (D t))) (t:σ) (h0:Ok t 0):Qf f (enc t 0)=some (D (l.foldl g t)):=by
 have key:∀(k i:Nat) (t:σ),i+k=l.length->Ok t i->Qf f (enc t (i:Int))=some (D ((l.drop i).foldl g t)):=by
  intro k
  induction k with
  | zero=>
   intro i t hi ht
   obtain rfl:i=l.length:=by omega
   rw[QB (he t ht),List.drop_length];rfl
  | succ k ih=>
   intro i t hi ht
   have h1:i<l.length:=by omega
   obtain⟨hs1,hs2⟩:=hs i h1 t ht
   rw[Q2 hs1,aLr h1,List.foldl_cons]
   exact ih (i+1) _ (by omega) hs2
 have:=key l.length 0 t (by omega) h0
 simpa using this
theorem foldl_filter {α:Type} (p:α->Bool):∀(l acc:List α),l.foldl (fun acc a=>if p a then acc++[a] else acc) acc=acc++l.filter p
 | [],acc=>by simp
 | a::l,acc=>by
  rw[List.foldl_cons,foldl_filter p l]
  cases hp:p a<;>simp[hp]
theorem foldl_map {α β:Type} (q:α->β):∀(l:List α) (acc:List β),l.foldl (fun acc a=>acc++[q a]) acc=acc++l.map q
 | [],acc=>by simp
 | a::l,acc=>by rw[List.foldl_cons,foldl_map q l];simp
theorem foldl_filterMap {α β:Type} (p:α->Bool) (q:α->β):∀(l:List α) (acc:List β),l.foldl (fun acc a=>if p a then acc++[q a] else acc) acc=acc++(l.filter p).map q
 | [],acc=>by simp
 | a::l,acc=>by
  rw[List.foldl_cons,foldl_filterMap p q l]
  cases hp:p a<;>simp[hp]
theorem QzJ {α:Type} (p:α->Bool):∀(l:List α) (n:Int),l.foldl (fun n a=>if p a then n+1 else n) n=n+(l.countP p:Int)
 | [],n=>by simp
 | a::l,n=>by
  rw[List.foldl_cons,QzJ p l]
  cases hp:p a
  ·simp[hp]
  ·simp only[if_true,List.countP_cons,hp]
   simp;omega
theorem QDO {α:Type} (acc:List α) (a:α) (n:Nat) (h:acc.length<=n) (hn:n<LIM):decide (List.length acc+List.length [a]<=LIM)=true:=by
 simp;omega
def code {α:Type} (c:Nat->α->Int) (l:List α):Int:=match first (fun i a=>if c i a=0 then none else some (c i a)) 0 l with | none=>0 | some r=>r
theorem Qht {α:Type} (l:List α) (c:Nat->α->Int) (f:Int->Option (Int⊕(Unit⊕Int)))
  (hs:∀(i:Nat) (h:i<l.length),f (i:Int)=some (if c i l[i]=0 then .inl ((i+1:Nat):Int) else .inr (.inr (c i l[i])))) (he:f (l.length:Int)=some (.inr (.inl ()))) :
  ((Qf f 0).bind fun j=>Sum.elim (fun _=>some 0) (fun j=>some j) j)=some (code c l):=by
 rw[Qcl l (fun i a=>if c i a=0 then none else some (c i a)) f (fun i h=>by rw[hs i h];by_cases hc:c i l[i]=0<;>simp[hc]) he,Qd9]
 unfold code
 cases first (fun i a=>if c i a=0 then none else some (c i a)) 0 l<;>rfl
theorem Qa7 {β:Type} (y:Int) (a b:β):(bif !decide (y=0) then a else b)=if y=0 then b else a:=by
 by_cases h:y=0<;>simp[h]
theorem QdW {α:Type} {c:Nat->α->Int} {l:List α} (h:code c l=0):∀i a,l[i]? = some a->c i a=0:=by
 unfold code at h
 cases hf:first (fun i a=>if c i a=0 then none else some (c i a)) 0 l with
 | none=>
  intro i a ha
  have:=(Qh6 l 0).1 hf i a ha
  simp only[Nat.zero_add] at this
  by_cases hc:c i a=0
  ·exact hc
  ·rw[if_neg hc] at this;cases this
 | some r=>
  rw[hf] at h
  simp only at h;subst h
  exfalso
  have key:∀(l:List α) (i:Nat),first (fun i a=>if c i a=0 then none else some (c i a)) i l ≠ some 0:=by
   intro l
   induction l with
   | nil=>intro i h;cases h
   | cons a l ih=>
    intro i h
    simp only[first] at h
    by_cases hc:c i a=0
    ·rw[if_pos hc] at h;exact ih (i+1) h
    ·rw[if_neg hc] at h;simp only[aLb] at h;exact hc h
  exact key l 0 hf
theorem QFb {α:Type} {c c':Nat->α->Int} (l:List α) (h:∀j a,l[j]? = some a->c j a=c' j a):code c l=code c' l:=by
 unfold code
 rw[QrV l 0 (fun j a _ ha=>by rw[h j a (by simpa using ha)])]
theorem QCG {α:Type} {p:α->Bool} {l:List α} (h:0<=idxF p l):inB (idxF p l) l=true:=by
 have hany:l.any p=true:=by rw[<-ZZ];simpa using h
 obtain⟨k,hk,he,_⟩:=QjL hany
 rw[he];exact Qh l k hk
theorem Qz3 {α:Type} (p:α->Bool) (l:List α):idxF p l<0↔idxF p l = -1:=by
 rw[Qug]
 cases List.findIdx? p l with
 | none=>simp
 | some k=>simp only;omega
theorem Qlc (a b:Int×Int):Sh.beq (.prod (.int .i64) (.int .i64)) a b=decide (a=b):=by
 obtain⟨a1,a2⟩:=a;obtain⟨b1,b2⟩:=b
 simp only[Sh.beq]
 by_cases h1:a1=b1<;>by_cases h2:a2=b2<;>simp[h1,h2]
theorem QFq (a b:Bool):Sh.beq .bool a b=decide (a=b):=rfl
end Go.Dx
namespace Go.Dx
def mkL {α:Type} (cnt:α->Nat) (mk:Int->α->α):Int->List α->List α
 | _,[]=>[]
 | k,a::l=>mk k a::mkL cnt mk (k+cnt a) l
def cntL {α:Type} (cnt:α->Nat) (l:List α):Nat:=(l.map cnt).sum
theorem Qhn {α:Type} (cnt:α->Nat) (a:α) (l:List α):cntL cnt (a::l)=cnt a+cntL cnt l:=by simp[cntL]
theorem QAd {α:Type} (cnt:α->Nat) (mk:Int->α->α):∀(k:Int) (l:List α),(mkL cnt mk k l).length=l.length
 | _,[]=>rfl
 | k,a::l=>by simp[mkL,QAd cnt mk _ l]
theorem QFp {α:Type} (i:Int) (l:List α) (j:Nat) (a:α):inB i (List.set l j a)=inB i l:=by simp[inB]
theorem QEm {α:Type} (l:List α) (i:Nat) (a d:α) (h:i<l.length):List.getD (List.set l i a) i d=a:=by
 simp[aLk,h]
theorem getD_at {α:Type} (l:List α) (i:Nat) (d:α) (h:i<l.length):List.getD l i d=l[i]:=by simp[aLk,aLf h]
theorem QFf {α:Type} (cnt:α->Nat) (mk:Int->α->α) (l:List α) (k:Int) (h0:0<=k) (hb:k+(cntL cnt l:Int)<(BIG:Int)) (f:List α×Int×Int->Option ((List α×Int×Int)⊕(List α×Int)))
  (hs:∀(acc:List α) (i:Nat) (k:Int) (h:i<acc.length),acc.length=l.length->acc[i] ∈ l->0<=k->k+(cnt acc[i]:Int)<(BIG:Int)->f (acc,k,(i:Int))=some (.inl (acc.set i (mk k acc[i]),k+(cnt acc[i]:Int),((i+1:Nat):Int))))
  (he:∀(acc:List α) (k:Int),acc.length=l.length->f (acc,k,(l.length:Int))=some (.inr (acc,k))) :
  Qf f (l,k,0)=some (mkL cnt mk k l,k+(cntL cnt l:Int)):=by
 have key:∀(rest pre:List α) (k:Int),pre.length+rest.length=l.length->(∀a,a ∈ rest->a ∈ l)->0<=k->k+(cntL cnt rest:Int)<(BIG:Int)->Qf f (pre++rest,k,(pre.length:Int))=some (pre++mkL cnt mk k rest,k+(cntL cnt rest:Int)):=by
  intro rest
  induction rest with
  | nil=>
   intro pre k hl _ _ _
   simp only[aLj,Nat.add_zero] at hl
   rw[hl,QB (he (pre++[]) k (by simpa using hl))]
   simp[mkL,cntL]
  | cons a r ih=>
   intro pre k hl hm h0 hb
   rw[Qhn] at hb
   have hi:pre.length<(pre++a::r).length:=by simp
   have ha:(pre++a::r)[pre.length]'hi=a:=by simp
   have hs:=hs (pre++a::r) pre.length k hi (by simpa using hl) (by rw[ha];exact hm a (by simp)) h0 (by rw[ha];omega)
   rw[ha] at hs
   have hset:(pre++a::r).set pre.length (mk k a)=(pre++[mk k a])++r:=by simp
   rw[hset] at hs
   rw[Q2 hs]
   have:=ih (pre++[mk k a]) (k+(cnt a:Int)) (by simp at hl ⊢;omega) (fun b hb=>hm b (by simp[hb])) (by omega) (by omega)
   simp only[aLi,aLh,aLj] at this
   rw[this,Qhn]
   simp[mkL]
   omega
 have:=key l [] k (by simp) (fun _ h=>h) h0 hb
 simpa using this
theorem QFh {α:Type} (cnt:α->Nat) (mk:Int->α->α) (l:List α) (k0:Int) (h0:0<=k0) (hb:k0+(cntL cnt l:Int)<(BIG:Int)) (f:Int×Int->Option ((Int×Int)⊕(Int⊕Int)))
  (hs:∀(i:Nat) (k:Int) (h:i<l.length) (h':i<(mkL cnt mk k0 l).length),0<=k->k+(cnt l[i]:Int)<(BIG:Int)->(mkL cnt mk k0 l)[i]=mk k l[i]->f (k,(i:Int))=some (.inl (k+(cnt l[i]:Int),((i+1:Nat):Int))))
  (he:∀(k:Int),f (k,(l.length:Int))=some (.inr (.inl k))) :
  ((Qf f (k0,0)).bind fun j=>Sum.elim (fun a=>some a) (fun b=>some b) j)=some (k0+(cntL cnt l:Int)):=by
 have key:∀(n i:Nat) (k:Int),i+n=l.length->0<=k->k+(cntL cnt (l.drop i):Int)<(BIG:Int)->(mkL cnt mk k0 l).drop i=mkL cnt mk k (l.drop i)->Qf f (k,(i:Int))=some (.inl (k+(cntL cnt (l.drop i):Int))):=by
  intro n
  induction n with
  | zero=>
   intro i k hi _ _ _
   obtain rfl:i=l.length:=by omega
   rw[QB (he k),List.drop_length]
   simp[cntL]
  | succ n ih=>
   intro i k hi h0 hb hd
   have h:i<l.length:=by omega
   have h':i<(mkL cnt mk k0 l).length:=by rw[QAd];exact h
   rw[aLr h,Qhn] at hb
   rw[aLr h,aLr h',mkL] at hd
   have hd1:=(List.cons.inj hd).1
   have hd2:=(List.cons.inj hd).2
   rw[Q2 (hs i k h h' h0 (by omega) hd1),ih (i+1) _ (by omega) (by omega) (by omega) hd2,aLr h,Qhn]
   congr 2
   simp;omega
 have:=key l.length 0 k0 (by omega) h0 (by simpa using hb) (by simp)
 rw[show ((0:Nat):Int)=0 from rfl] at this
 rw[this]
 simp
theorem QEi {α:Type} (cnt:α->Nat):∀(l:List α) (a:α),a ∈ l->cnt a<=cntL cnt l
 | x::l,a,h=>by
  rw[Qhn]
  rcases List.mem_cons.1 h with h | h
  ·subst h;omega
  ·have:=QEi cnt l a h;omega
theorem QAC {α:Type} (n:Nat):∀(l:List α),cntL (fun _=>n) l=n * l.length
 | []=>by simp[cntL]
 | a::l=>by rw[Qhn,QAC n l,aLh,Nat.mul_add];omega
end Go.Dx
namespace Go.Dx
def Qff {α:Type} (g:α->α->Option Int) (a b:α):Bool:=match g a b with | some v=>decide (v<0) | none=>false
structure Ql7 {α:Type} (g:α->α->Option Int) (xs:List α):Prop where
 tot:∀a,a ∈ xs->∀b,b ∈ xs->∃v,g a b=some v
 irrefl:∀a,a ∈ xs->Qff g a a=false
 trans:∀a,a ∈ xs->∀b,b ∈ xs->∀c,c ∈ xs->Qff g a b=true->Qff g b c=true->Qff g a c=true
 ntrans:∀a,a ∈ xs->∀b,b ∈ xs->∀c,c ∈ xs->Qff g a b=false->Qff g b c=false->Qff g a c=false
 anti:∀a,a ∈ xs->∀b,b ∈ xs->Qff g a b=false->Qff g b a=false->a=b
 len:xs.length<4611686018427387904
def Sorts {α:Type} (g:α->α->Option Int) (xs ys:List α):Prop:=ys.Perm xs/\ys.Pairwise (fun a b=>Qff g b a=false)
open Classical in
noncomputable def Qk8 {α:Type} (xs:List α) (g:α->α->Option Int):Option (List α):=if h:Ql7 g xs/\∃ys,Sorts g xs ys then some h.2.choose else none
theorem QkM {α:Type} {r:α->α->Prop}:∀(xs ys:List α),xs.Perm ys->xs.Pairwise r->ys.Pairwise r->(∀a,a ∈ xs->∀b,b ∈ xs->r a b->r b a->a=b)->xs=ys
 | [],ys,h,_,_,_=>(List.nil_perm.1 h).symm ▸ rfl
 | a::xs,[],h,_,_,_=>absurd h.length_eq (by simp)
 | a::xs,b::ys,h,hx,hy,ha=>by
  have hx':=List.pairwise_cons.1 hx
  have hy':=List.pairwise_cons.1 hy
  have hab:a=b:=by
   have h1:a ∈ b::ys:=h.mem_iff.1 aLm
   have h2:b ∈ a::xs:=h.mem_iff.2 aLm
   rcases List.mem_cons.1 h1 with h1 | h1
   ·exact h1
   ·rcases List.mem_cons.1 h2 with h2 | h2
    ·exact h2.symm
    ·exact ha a aLm b (aLp _ h2) (hx'.1 b h2) (hy'.1 a h1)
  subst hab
  rw[QkM xs ys (List.Perm.cons_inv h) hx'.2 hy'.2 (fun c hc d hd=>ha c (aLp _ hc) d (aLp _ hd))]
theorem Sorts.unique {α:Type} {g:α->α->Option Int} {xs ys zs:List α} (h:Ql7 g xs) (hy:Sorts g xs ys) (hz:Sorts g xs zs):ys=zs:=
 QkM ys zs (hy.1.trans hz.1.symm) hy.2 hz.2 (fun a ha b hb h1 h2=>h.anti a (hy.1.mem_iff.1 ha) b (hy.1.mem_iff.1 hb) h2 h1)
theorem QDb {α:Type} {g:α->α->Option Int} {xs ys:List α} (h:Ql7 g xs) (hy:Sorts g xs ys):Qk8 xs g=some ys:=by
 have hh:Ql7 g xs/\∃ys,Sorts g xs ys:=⟨h,ys,hy⟩
 unfold Qk8
 rw[dif_pos hh]
 exact congrArg some (Sorts.unique h hh.2.choose_spec hy)
theorem QA8 {α:Type} {g:α->α->Option Int} {xs ys:List α} (h:Qk8 xs g=some ys):Ql7 g xs/\Sorts g xs ys:=by
 unfold Qk8 at h
 split at h
 ·rename_i hh
  obtain rfl:=Option.some.inj h
  exact⟨hh.1,hh.2.choose_spec⟩
 ·cases h
end Go.Dx
