/- The plain law: no program in sight -/
import Derived.Test.YtmklfdnhndakcaaGreatDoorPla
set_option linter.unusedVariables false
set_option linter.unusedSimpArgs false
set_option maxHeartbeats 2000000
namespace Go.Dx
namespace GL
open IntKind Sum
theorem Qsx {α:Type} (l:List α) (p:α->Bool) (f:Int->Option (Int⊕Int))
  (U:∀(i:Nat) (h:i<l.length),f (i:Int)=some (if p l[i] then .inl ((i+1:Nat):Int) else .inr (i:Int))) (he:f (l.length:Int)=some (.inr (l.length:Int))):Qc f 0=some ((l.takeWhile p).length:Int):=by
 have key:∀(d i:Nat),i+d=l.length->Qc f (i:Int)=some ((i+((l.drop i).takeWhile p).length:Nat):Int):=by
  intro d;induction d with
  | zero=>
   intro i hi;obtain rfl:i=l.length:=by omega
   rw[Qe he,aMr];rfl
  | succ d ih=>
   intro i hi;have I:i<l.length:=by omega
   rw[aLr I,List.takeWhile_cons];have h1:=U i I
   cases J:p l[i] with
   | false=>rw[J] at h1;rw[Qe h1];rfl
   | true=>
    rw[J] at h1;rw[Qo h1,ih (i+1) (by omega),if_pos rfl,aLh]
    congr 2;omega
 have:=key l.length 0 (by omega)
 simpa using this
theorem Qro {α:Type} (p:α->Bool):∀(l:List α),l.take (l.takeWhile p).length=l.takeWhile p/\l.drop (l.takeWhile p).length=l.dropWhile p
 | []=>⟨rfl,rfl⟩
 | a::l=>by
  rw[List.takeWhile_cons,List.dropWhile_cons];cases p a with
  | false=>exact⟨rfl,rfl⟩
  | true=>
   obtain⟨h1,h2⟩:=Qro p l;simp only[if_true,aLh,List.take_succ_cons,List.drop_succ_cons,h1,h2];exact⟨trivial,trivial⟩
theorem Qkp {l:List TCoin} (J:l.length<=1000) (x:TCoin):QdJ l x=some (insC l x):=by
 unfold QdJ;rw[Qsx l (fun y=>Qv y.1 x.1) _ (fun i h=>by
   simp only[dlt h,Qb l i h,Qa l i _ h,aLB,QiH,aLc,wsucc h (by unfold BIG;omega)]
   cases Qv l[i].1 x.1<;>rfl) (by simp only[dge,aLC,aLc]),aLc]
 obtain⟨h1,h2⟩:=Qro (fun y:TCoin=>Qv y.1 x.1) l
 have hk:(l.takeWhile fun y=>Qv y.1 x.1).length<=l.length:=(List.takeWhile_sublist _).length_le
 generalize U:(l.takeWhile fun y=>Qv y.1 x.1).length=n at *
 have c2:QA (n:Int) (l.length:Int) l=true:=by unfold QA;simp;omega
 have I:cut (n:Int) (l.length:Int) l=l.drop n:=by
  unfold cut;rw[aMd,aMx];rw[aLz];omega
 rw[ZI l n hk,aLB,Jq,c2,I];have q1:(l.take n).length<=1000:=by rw[aLn];omega
 have q2:(l.drop n).length<=1000:=by rw[aLz];omega
 rw[Qj (by simp only[aLj];unfold LIM;omega),Qj (by simp only[aLo,aLi,aLj,aLh];unfold LIM;omega),aLB,Qj (by simp only[aLo,aLi,aLj,aLh];unfold LIM;omega)]
 rw[h1,h2];rfl
theorem QpL (l:List TCoin) (x:TCoin):(insC l x).length=l.length+1:=by
 rw[(Qh8 l x).length_eq,aLi,aMj]
theorem Qqy {l:List TCoin} (hl:l.length<=100) (hk:∀x,x ∈ l->x.2.1.2.1.length<=1000000) (id:Int) {outs:List TOut} (hn:outs.length<=100) (ho:∀o,o ∈ outs->o.2.1.length<=10) (h:Int) (m:Bool) :
  QfH l id outs h m=some (YR l (ZH id h m 0 outs)):=by
 unfold QfH;rw[QaQ l (by omega) hk,aLc]
 generalize U:(fun (s15:List TCoin×Int)=>_)=f
 have key:∀(d i:Nat) (acc:List TCoin),i+d=outs.length->acc.length<=100+i->Qc f (acc,(i:Int))=some (YR acc (ZH id h m i (outs.drop i))):=by
  intro d;induction d with
  | zero=>
   intro i acc hi _;obtain rfl:i=outs.length:=by omega
   rw[Qe (show f (acc,(outs.length:Int))=some (.inr acc) by rw[<-U];simp only[dge,aLC]),aMr]
   rfl
  | succ d ih=>
   intro i acc hi ha;have I:i<outs.length:=by omega
   have J:f (acc,(i:Int))=some (.inl (insC acc ((id,(i:Int)),(outs[i],(h,m))),((i+1:Nat):Int))):=by
    rw[<-U];simp only[dlt I,Qb _ i I,Qa _ i _ I,aLB,Qpc _ (ho _ (aLl I)),aLc,wsucc I (show outs.length<BIG by unfold BIG;omega)]
    rw[Qkp (by omega)];rfl
   rw[Qo J,ih (i+1) _ (by omega) (by rw[QpL];omega),aLr I]
   rfl
 have:=key outs.length 0 l (by omega) (by omega)
 rw[aMt] at this;show ((Qc f (l,0)).bind _)=_
 rw[show ((0:Nat):Int)=0 from rfl] at this
 rw[this];rfl
theorem Qqf {o:TOut} (h:mOut o=0):o.2.1.length<=3:=by
 unfold mOut at h;split at h
 ·exact (Yq h).len.2
 ·cases h
theorem Qil {l:List TCoin} (U:Q9 l=0) {id:Int} (hid:mIn id 1 60=true) {outs:List TOut} (hn:outs.length<=4) (ho:∀o,o ∈ outs->mOut o=0) {h:Int} (hh:mIn h 0 999=true) (m:Bool) :
  JW l id outs h m=some ((JZ l id outs h m).2,(JZ l id outs h m).1):=by
 have hB:BIG=4611686018427387904:=rfl
 have hl:=(Zf U).1
 unfold JW JZ;rw[Qao l (by omega) (fun x hx=>by have:=Zz U x hx;omega),aLc,U,Zn,aLc,hid,Qc2,aLc,hh]
 simp only[aMc,aMa,aLC,aLc];rw[aLD (by omega),aLC]
 rw[QgI outs.length _ (inl ()) (fun i hi=>by
   have I:=ho _ (aLl hi)
   simp only[dlt hi,Qb _ i hi,Qa _ i _ hi,aLB,Qkk _ (show (outs[i]).2.1.length<BIG by have:=Qqf I;omega),aLc,I,aMc,aMa,aLC,wsucc hi (by omega)]) (by simp only[dge,aLC]),aLc,Sum.elim_inl,Qlc _ (by omega),aLc]
 cases hany:l.any fun x=>decide (x.1.1=id) with
 | true=>rfl
 | false=>
  rw[aLC,if_neg (by simp),Qy (by omega) (by omega)]
  by_cases J:40<l.length+outs.length
  ·rw[aLE (by omega),if_pos J];rfl
  ·rw[aLD (by omega),if_neg J,aLC,Qqy (by omega) (Zz U) id (by omega) (fun o hx=>by have:=Qqf (ho o hx);omega),aLc]
theorem Qlj (l:List TCoin) (I:l.length<BIG) (r:Int×Int):QeC l r=some (idxF (fun x=>decide (x.1=r)) l):=by
 unfold QeC;rw[Yy l (fun x=>decide (x.1=r)) _ (fun i h=>?_) (by simp only[dge,aLC])]
 simp only[dlt h,Qb l i h,Qa l i _ h,aLB,wsucc h I,Qg1];cases decide (l[i].1=r)<;>rfl
theorem QuB (c:List TCoin) (r:Int×Int) (rs:List (Int×Int)):offC (offC c [r]) rs=offC c (r::rs):=by
 unfold offC;rw[List.filter_filter];congr 1
 funext x
 by_cases h1:x.1=r<;>by_cases h2:x.1 ∈ rs<;>simp[h1,h2]
theorem Qvc (c:List TCoin):offC c []=c:=by unfold offC;rw[aMG];intro a _;simp
theorem QjO {c:List TCoin} (hr:Rise c) (hl:c.length<=1000) (hk:∀x,x ∈ c->x.2.1.2.1.length<=1000000) {rs:List (Int×Int)} (hn:rs.Nodup) (hrl:rs.length<=1000) (hall:∀r,r ∈ rs->∃x,x ∈ c/\x.1=r) :
  QcJ c rs=some (offC c rs,true):=by
 unfold QcJ;rw[QaQ c (by omega) hk,aLc]
 generalize hf:(fun (s12:List TCoin×Int)=>_)=f
 have key:∀(d i:Nat) (acc:List TCoin),i+d=rs.length->Rise acc->acc.length<=1000->(∀r,r ∈ rs.drop i->∃x,x ∈ acc/\x.1=r)->Qc f (acc,(i:Int))=some (inl (offC acc (rs.drop i))):=by
  intro d;induction d with
  | zero=>
   intro i acc hi _ _ _;obtain rfl:i=rs.length:=by omega
   rw[Qe (show f (acc,(rs.length:Int))=some (.inr (.inl acc)) by rw[<-hf];simp only[dge,aLC]),aMr,Qvc]
  | succ d ih=>
   intro i acc hi ha hal U;have I:i<rs.length:=by omega
   rw[aLr I] at U ⊢;obtain⟨x,hx,hxr⟩:=U _ aLm;obtain⟨k,hkl,hki,J,hkm⟩:=Qa6 (p:=fun y:TCoin=>decide (y.1=rs[i])) (l:=acc) (List.any_eq_true.2 ⟨x,hx,aLE hxr⟩)
   have J:=aLG J
   have hoff:acc.take k++acc.drop (k+1)=offC acc [rs[i]]:=by
    refine (Qix hkl (by simp[J]) fun j hj hjk=>?_).symm
    have:acc[j].1 ≠ rs[i]:=fun he=>by
     rcases Nat.lt_or_gt_of_ne hjk with h | h
     ·have:=Qb8 ha h hkl;rw[he,J,ZM] at this;cases this
     ·have:=Qb8 ha h hj;rw[he,J,ZM] at this;cases this
    simp[this]
   have e1:wrap .i64 ((k:Int)+1)=((k+1:Nat):Int):=by rw[Qy (by omega) (by omega)];omega
   have c2:QA ((k+1:Nat):Int) (acc.length:Int) acc=true:=by unfold QA;simp;omega
   have t1:List.take (Int.toNat ((k:Int) - 0)) (List.drop (Int.toNat 0) acc)=acc.take k:=by simp
   have t2:List.take (Int.toNat ((acc.length:Int) - ((k+1:Nat):Int))) (List.drop (Int.toNat ((k+1:Nat):Int)) acc)=acc.drop (k+1):=by
    rw[aMd,aMx];rw[aLz];omega
   have hstep:f (acc,(i:Int))=some (.inl (offC acc [rs[i]],((i+1:Nat):Int))):=by
    rw[<-hf];simp only[dlt I,Qb _ i I,Qa _ i _ I,aLB,Qlj acc (by unfold BIG;omega),aLc,hki,wsucc I (show rs.length<BIG by unfold BIG;omega),e1,c2,ZI acc k (by omega),t1,t2]
    rw[aLD (by omega),aLC,Qj (by simp only[aLj,aLn];unfold LIM;omega),Qj (by simp only[aLo,aLi,aLj,aLn,aLz];unfold LIM;omega),<-hoff];rfl
   rw[Qo hstep,ih (i+1) (offC acc [rs[i]]) (by omega) (Qbx ha _) (by have:=aME (fun x:TCoin=>!decide (x.1 ∈ [rs[i]])) acc;unfold offC;omega) (fun r hrm=>?_),QuB]
   obtain⟨y,hy,hyr⟩:=U r (aLp _ hrm);refine⟨y,aMv.2 ⟨hy,?_⟩,hyr⟩;have:r ≠ rs[i]:=fun he=>by
    have hnd:(rs.drop i).Nodup:=hn.sublist (List.drop_sublist i rs)
    rw[aLr I,List.nodup_cons,<-he] at hnd;exact hnd.1 hrm
   simp[hyr,this]
 have:=key rs.length 0 c (by omega) hr hl (by rw[aMt];exact hall)
 rw[aMt] at this;show ((Qc f (c,0)).bind _)=_
 rw[show ((0:Nat):Int)=0 from rfl] at this
 rw[this];rfl
theorem Qji {c:List TCoin} (h:Q9 c=0) (p:TCoin->Bool):Q9 (c.filter p)=0:=
 Qom (Nat.le_trans (aME _ _) (Zf h).1) (Qbx (Jb h) p) fun x I=>QmC h x (aMv.1 I).1
theorem Qm6 {c:List TCoin} (J:Q9 c=0) {t:TX} (U:mTxF t=0) (hs:(mSp c t).length=t.2.2.1.length) {id:Int} (hid:mIn id 1 60=true) {h:Int} (hh:mIn h 0 999=true) :
  Qd9 c t id h=some ((ZV c t id h).2,(ZV c t id h).1):=by
 have hB:BIG=4611686018427387904:=rfl
 have I:=Jk U
 have hcl:=(Zf J).1
 unfold Qd9 Qgg ZV;rw[Qao c (by omega) (fun x hx=>by have:=Zz J x hx;omega),aLc,J,QbU t I.b,aLc,U,Qel J t (by have:=I.li;omega),aLc,aLE hs]
 simp only[aMc,aMa,aLC,aLc];rw[Qlc _ (by omega),aLc]
 cases hany:c.any fun x=>decide (x.1.1=id) with
 | true=>rfl
 | false=>
  rw[aLC,if_neg (by simp),QjO (Jb J) (by omega) (Zz J) I.nd (by have:=I.li;omega) (Qj3 (Jb J) I.nd hs),aLc]
  show ((JW (offC c t.2.2.1) id t.2.2.2 h false).bind _)=_
  rw[Qil (l:=offC c t.2.2.1) (Qji J _) hid I.lo.2 (fun o ho=>(Qkh I o ho).1) hh false];rfl
theorem Qov {l:List TCoin} (U:Q9 l=0) {id:Int} (hid:mIn id 1 60=true) {outs:List TOut} (hn:outs.length<=4) (ho:∀o,o ∈ outs->mOut o=0) {h:Int} (hh:mIn h 0 999=true) {m:Bool} (h0:(JZ l id outs h m).2=0):Q9 (JZ l id outs h m).1=0:=by
 unfold JZ at h0 ⊢;split at h0
 ·cases h0
 ·rename_i hb
  split at h0
  ·cases h0
  ·rename_i J
   rw[if_neg hb,if_neg J];have I:=Qbz (ZH id h m 0 outs) l
   refine Qom (by rw[I.length_eq,aLi,Qaw];omega) (Qgv _ 0 _ (Jb U) fun y hy h1=>absurd (List.any_eq_true.2 ⟨y,hy,aLE h1⟩) hb) fun x hx=>?_
   rcases aMi.1 (I.mem_iff.1 hx) with h1 | h1
   ·exact QmC U x h1
   ·obtain⟨n1,n2,n3,n4,n5⟩:=Qht h1
    exact⟨QaB.2 ⟨by rw[n1];exact Qz.1 hid,by omega,by omega⟩,by rw[n5];exact hh,ho _ n4⟩
theorem Qk4 {c:List TCoin} (J:Q9 c=0) {t:TX} (I:okT t) {id:Int} (hid:mIn id 1 60=true) {h:Int} (hh:mIn h 0 999=true) (h0:(ZV c t id h).2=0):Q9 (ZV c t id h).1=0:=by
 unfold ZV at h0 ⊢;split at h0
 ·cases h0
 ·rename_i hb
  rw[if_neg hb];exact Qov (Qji J _) hid I.lo.2 (fun o ho=>(Qkh I o ho).1) hh h0
theorem Qww:∀(n:Nat) (w:List UInt8),w.length=n->w ≠ []->(∀b,b ∈ w->48<=b.toNat/\b.toNat<=57)->(1<w.length->(List.getD w 0 0).toNat ≠ 48)->Lib.decDigits (dv w)=w:=by
 intro n;induction n with
 | zero=>intro w J hw;exact absurd (aMk J) hw
 | succ n ih=>
  intro w J hw hd h0;obtain⟨u,d,rfl⟩:∃u d,w=u++[d]:=⟨w.dropLast,w.getLast hw,(List.dropLast_concat_getLast hw).symm⟩;have hdd:=hd d (List.mem_append_right _ (aLs.2 rfl))
  have e1:UInt8.ofNat (48+(d.toNat - 48))=d:=by rw[show 48+(d.toNat - 48)=d.toNat by omega];exact UInt8.ofNat_toNat
  rw[Qnr];rw[aLi,aMj] at J h0;cases hu:u with
  | nil=>
   show Lib.decDigits (0 * 10+_)=_
   rw[Nat.zero_mul,aMf,Lib.decDigits_one (by omega),e1];rfl
  | cons c r=>
   rw[<-hu];have U:u ≠ []:=by rw[hu];simp
   have hul:1<=u.length:=by rw[hu];simp
   have I:(List.getD u 0 0).toNat ≠ 48:=by
    have:=h0 (by omega)
    rw[hu] at this ⊢;exact this
   have hi:=ih u (by omega) U (fun b hb=>hd b (List.mem_append_left _ hb)) (fun _=>I)
   have hpos:dv u ≠ 0:=fun hz=>by
    rw[hz,Lib.decDigits_one (by omega)] at hi
    rw[<-hi] at I;exact I rfl
   rw[Lib.decDigits,dif_neg (by omega),show (dv u * 10+(d.toNat - 48)) / 10=dv u by omega,show (dv u * 10+(d.toNat - 48)) % 10=d.toNat - 48 by omega,hi,e1]
theorem Qwy (w:List UInt8) (n:Nat) (hw:w.length<BIG) (hn:n<=7):Y (Qr w (n:Int)) (fun r=>r.2=true->∃m:Nat,r.1=(m:Int)/\Lib.itoa (m:Int)=w):=by
 unfold Qr;refine Y.bind (Q:=fun j=>j=false->w ≠ []/\w.length<=7/\(1<w.length->(List.getD w 0 0).toNat ≠ 48)) ?_ (fun j hj=>?_)
 ·refine Y.bif (fun _=>Y.some (fun h=>by cases h)) (fun h1=>Y.bif (fun _=>Y.some (fun h=>by cases h)) (fun h2=>?_))
  have h1:=aLH h1
  have h2:=aLH h2
  have I:w ≠ []:=fun h=>by rw[h] at h1;simp at h1
  refine Y.bif (fun _=>Y.grd (ZT (by omega) (by omega)) (Y.some (fun h=>⟨I,by omega,fun _ he=>?_⟩))) (fun h3=>Y.some (fun _=>⟨I,by omega,fun h=>by have:=aLH h3;omega⟩))
  have h:=aLH h
  exact h (by show (((List.getD w 0 0).toNat:Nat):Int)=48;omega)
 ·refine Y.bif (fun _=>Y.some (fun h=>by cases h)) (fun h0=>?_)
  obtain⟨I,h7,h48⟩:=hj h0;refine Y.bind (Q:=fun (j:Int⊕(Int×Bool))=>match j with | .inl v=>∃m:Nat,v=(m:Int)/\Lib.itoa (m:Int)=w | .inr q=>q.2=false) ?_ (fun j hj=>by cases j with | inl v=>exact Y.some (fun _=>hj) | inr q=>exact Y.some (fun h=>by rw[show q.2=false from hj] at h;cases h))
  refine Y.loop (fun n s=>∃i:Nat,s.2=(i:Int)/\i<=w.length/\n=w.length - i/\s.1=((dv (w.take i):Nat):Int)/\∀b,b ∈ w.take i->48<=b.toNat/\b.toNat<=57) (fun n s hI=>?_) w.length (0,0) ⟨0,rfl,by omega,by omega,rfl,fun b hb=>by simp at hb⟩
  obtain⟨i,hi,hle,hn,hv,hd⟩:=hI;obtain⟨v,i'⟩:=s;have hi:i'=(i:Int):=hi
  subst hi;have hv:v=((dv (w.take i):Nat):Int):=hv
  subst hv;refine Y.bif (fun h1=>?_) (fun h1=>Y.some ?_)
  ·have J:i<w.length:=by simpa using h1
   have hb:=Qb w i J
   have hg:=Qa w i 0 J
   refine Y.bind (Q:=fun j=>j=false->48<=w[i].toNat/\w[i].toNat<=57) (Y.grd hb (Y.bif (fun _=>Y.some (fun h=>by cases h)) (fun h2=>Y.grd hb (Y.some (fun h3=>?_))))) (fun j hj=>Y.bif (fun _=>Y.some rfl) (fun h4=>Y.grd hb (Y.some ?_)))
   ·rw[hg] at h2 h3
    have h2:=aLH h2
    have h3:=aLH h3
    omega
   ·have hdi:=hj h4
    have hlt10:dv (w.take i)<10 ^ i:=by
     have:=Qw6 (w.take i) fun b hb=>(hd b hb).2
     rwa [aLn,Nat.min_eq_left (by omega)] at this
    have hp:10 ^ i<=10 ^ 6:=Nat.pow_le_pow_right (by omega) (by omega)
    have hp2:(10:Nat) ^ 6=1000000:=rfl
    have U:w.take (i+1)=w.take i++[w[i]]:=by rw[aMl J]
    refine⟨w.length - (i+1),by omega,i+1,wsucc J hw,by omega,rfl,?_,fun b hb=>?_⟩
    ·rw[U,Qnr]
     show wrap .i64 (wrap .i64 (((dv (w.take i):Nat):Int) * 10)+wrap .i64 (wrap .u8 (((List.getD w (Int.toNat (i:Int)) 0).toNat:Int) - 48)))=_
     rw[hg];have e1:wrap .u8 (((w[i].toNat:Nat):Int) - 48)=((w[i].toNat - 48:Nat):Int):=by
      rw[show ((w[i].toNat:Nat):Int) - 48=((w[i].toNat - 48:Nat):Int) by omega]
      rw[show wrap .u8 ((w[i].toNat - 48:Nat):Int)=((w[i].toNat - 48:Nat):Int) % 256 from by simp[wrap,IntKind.bits,IntKind.signed]]
      omega
     rw[e1,Qy (n:=((dv (w.take i):Nat):Int) * 10) (by omega) (by omega),Qy (n:=((w[i].toNat - 48:Nat):Int)) (by omega) (by omega),Qy (by omega) (by omega)]
     omega
    ·rw[U] at hb
     rcases aMi.1 hb with hb | hb
     ·exact hd b hb
     ·rw[aLs.1 hb];exact hdi
  ·have hge:¬i<w.length:=by simpa using h1
   obtain rfl:i=w.length:=by omega
   rw[List.take_length] at hd ⊢;exact⟨_,rfl,by rw[Jo,Qww _ w rfl I hd h48]⟩
theorem Qtl (b:UInt8) (c:UInt8):∀{ws:List (List UInt8)},ws ≠ []->Lib.join (glue [b] ws) [c]=b::Lib.join ws [c]
 | [w],_=>rfl
 | w::v::r,_=>by
  show Lib.join (([b]++w)::v::r) [c]=_
  rw[Qbt,Qbt];rfl
theorem Qin (c:UInt8):∀s:List UInt8,Lib.join (cuts c s) [c]=s
 | []=>rfl
 | b::l=>by
  rw[Qbr];split
  ·rename_i h
   rw[ZB [] _ c (QbP c l),Qin c l,h];rfl
  ·rw[Qtl b c (QbP c l),Qin c l]
theorem QjG {a b:Int} (I:0<=a) (hb:0<=b) (h:Lib.itoa a=Lib.itoa b):a=b:=by
 obtain⟨m,rfl⟩:=aLA I;obtain⟨n,rfl⟩:=aLA hb;rw[Jo,Jo] at h;have:=QpP m
 rw[h,QpP] at this;rw[this]
theorem Qn2:∀{l m:List Int},(∀x,x ∈ l->0<=x)->(∀x,x ∈ m->0<=x)->l.map Lib.itoa=m.map Lib.itoa->l=m
 | [],[],_,_,_=>rfl
 | [],_::_,_,_,h=>by cases h
 | _::_,[],_,_,h=>by cases h
 | a::l,b::m,h1,h2,h=>by
  simp only[aMJ,List.cons.injEq] at h;rw[QjG (h1 a aLm) (h2 b aLm) h.1,Qn2 (fun x I=>h1 x (aLp _ I)) (fun x I=>h2 x (aLp _ I)) h.2]
theorem QtO (l:List Int) (I:l.length<BIG) (x:Int):ZL l x=some (decide (x ∈ l)):=by
 unfold ZL;rw[QhC l (fun a=>decide (a=x)) _ (fun i h=>?_) (by simp only[dge,aLC]),any_eq']
 simp only[dlt h,Qb l i h,Qa l i _ h,aLB,wsucc h I];cases decide (l[i]=x)<;>rfl
theorem Qnm (b:TBk) (hb:b.2.2.2.length<BIG):QdY b=some (mB7 b):=by
 unfold QdY mB7;simp only[Zn,QdK,aLc,beqB];cases mIn b.1 0 60<;>cases mIn b.2.1 1 40<;>cases mIn b.2.2.1 1 999<;>try rfl
 simp only[aMa,aLC,aLc,aMz,if_true];by_cases h2:decide (b.1=0)=decide (b.2.1=1)
 ·rw[aLE h2,if_pos h2]
  simp only[aMa,aLC];by_cases h6:(6:Int)<(b.2.2.2.length:Int)
  ·rw[aLE h6,if_pos h6];rfl
  ·rw[aLD h6,if_neg h6,aLC]
   rw[YD b.2.2.2 (mTx7 b.2.2.2) _ (fun i h=>?_) (by simp only[dge,aLC])]
   simp only[dlt h,Qb _ i h,Qa _ i _ h,ZI _ i (Nat.le_of_lt h),Jq,aLB,Zn,aLc,wsucc h hb,QtO _ (YZ hb i)];unfold mTx7;cases mIn b.2.2.2[i] 1 60<;>by_cases hm:b.2.2.2[i] ∈ b.2.2.2.take i<;>simp[hm]
 ·rw[aLD h2,if_neg h2];rfl
theorem Qmx (w:List UInt8) (n:Nat) (hw:w.length<BIG) (I:n<=7):Y (Qr w (n:Int)) (fun r=>(r.2=true->∃m:Nat,r.1=(m:Int)/\Lib.itoa (m:Int)=w)/\∀k,0<=k->k<=9999999->w=Lib.itoa k->(Lib.itoa k).length<=n->r.2=true):=by
 obtain⟨r,h1,h2⟩:=Qwy w n hw I;refine⟨r,h1,h2,fun k k0 k1 hk J=>?_⟩
 subst hk;rw[Qg7 k0 k1 n J] at h1;cases h1;rfl
def BkQ (s:List UInt8) (r:TBk×Bool):Prop:=(r.2=true->mB7 r.1=0/\YM r.1=s)/\∀b,mB7 b=0->YM b=s->r.2=true
theorem QtB (s:List UInt8) (hs:s.length<=300):Y (Qec s) (BkQ s):=by
 have hB:BIG=4611686018427387904:=rfl
 unfold Qec;refine Y.eqb (JI s 32 (by unfold LIM;omega)) ?_
 have hw:∀i,(List.getD (cuts 32 s) i []).length<BIG:=fun i=>by have:=YL 32 s i;omega
 have cwd:∀b,mB7 b=0->YM b=s->cuts 32 s=wBk b:=fun b h1 h2=>by rw[<-h2];exact Qne (Qfp h1)
 refine Y.bind (Q:=fun j=>(j=false->(cuts 32 s).length=5/\List.getD (cuts 32 s) 0 []=[98,108,111,99,107])/\∀b,mB7 b=0->YM b=s->j=false) ?_ (fun j hj=>?_)
 ·refine Y.bif (fun h=>Y.some ⟨(fun h=>by cases h),fun b h1 h2=>?_⟩) (fun h=>?_)
  ·rw[cwd b h1 h2] at h
   exact absurd h (by simp[wBk])
  ·have h5:((cuts 32 s).length:Int)=5:=by simpa using h
   refine Y.grd (ZT (by omega) (by omega)) (Y.some ⟨fun h=>⟨by omega,by simpa using h⟩,fun b h1 h2=>?_⟩)
   rw[cwd b h1 h2];rfl
 ·refine Y.bif (fun h=>Y.some ⟨(fun h=>by cases h),fun b h1 h2=>?_⟩) (fun h0=>?_)
  ·rw[hj.2 b h1 h2] at h;cases h
  obtain⟨h5,hblk⟩:=hj.1 h0;refine Y.grd (ZT (by omega) (by omega)) (Y.bind (Qmx _ 2 (hw _) (by omega)) fun I q24=>?_)
  refine Y.grd (ZT (by omega) (by omega)) (Y.bind (Qmx _ 2 (hw _) (by omega)) fun J q25=>?_)
  refine Y.grd (ZT (by omega) (by omega)) (Y.bind (Qmx _ 3 (hw _) (by omega)) fun U q26=>?_)
  refine Y.bind (Q:=fun (j:Bool)=>(j=true->I.2=true/\J.2=true/\U.2=true)/\∀b,mB7 b=0->YM b=s->j=true) ?_ fun j27 q27=>?_
  ·have all:∀b,mB7 b=0->YM b=s->I.2=true/\J.2=true/\U.2=true:=fun b h1 h2=>by
    have ho:=Qfp h1
    have hp:=ho.p;have hh:=ho.h;have hm:=ho.m
    rw[cwd b h1 h2] at q24 q25 q26;exact⟨q24.2 b.1 hp.1 (by omega) rfl (Qfv _ 2 hp.1 (by omega) (by omega)),q25.2 b.2.1 (by omega) (by omega) rfl (Qfv _ 2 (by omega) (by omega) (by omega)),q26.2 b.2.2.1 (by omega) (by omega) rfl (Qfv _ 3 (by omega) (by omega) (by omega))⟩
   refine Y.bif (fun e1=>Y.bif (fun e2=>Y.some ⟨fun h=>⟨e1,e2,h⟩,fun b h1 h2=>(all b h1 h2).2.2⟩) (fun e2=>Y.some ⟨(fun h=>by cases h),fun b h1 h2=>?_⟩)) (fun e1=>Y.some ⟨(fun h=>by cases h),fun b h1 h2=>?_⟩)
   ·rw[(all b h1 h2).2.1] at e2;cases e2
   ·rw[(all b h1 h2).1] at e1;cases e1
  obtain⟨v,hv⟩:∃v,v=List.getD (cuts 32 s) 4 []:=⟨_,rfl⟩;have vl:v.length<=300:=by have:=YL 32 s 4;rw[hv];omega
  have hin4:inB 4 (cuts 32 s)=true:=ZT (by omega) (by omega)
  have gv:List.getD (cuts 32 s) (Int.toNat 4) []=v:=hv.symm
  refine Y.grd hin4 ?_;simp only[gv,hin4,aLB];refine Y.eqb (JI v 43 (by unfold LIM;omega)) ?_
  obtain⟨ws,hws⟩:∃ws,ws=cuts 43 v:=⟨_,rfl⟩;have cl:ws.length<=301:=by have:=J1 43 v;rw[hws];omega
  have hwl:∀i,(List.getD ws i []).length<BIG:=fun i=>by
   have:=YL 43 v i
   rw[hws];omega
  rw[<-hws];have vb:∀b,mB7 b=0->YM b=s->v=if b.2.2.2=[] then [45] else Zu b.2.2.2 [43]:=fun b h1 h2=>by rw[hv,cwd b h1 h2];rfl
  have wb:∀b,mB7 b=0->YM b=s->v ≠ [45]->ws=b.2.2.2.map Lib.itoa:=fun b h1 h2 h3=>by
   have ho:=Qfp h1
   have:=vb b h1 h2
   by_cases hn:b.2.2.2=[]
   ·rw[if_pos hn] at this;exact absurd this h3
   ·rw[if_neg hn] at this
    rw[hws,this];exact Qlk hn fun k hk=>by have:=ho.t k hk;omega
  refine Y.bind (Q:=fun (j:Bool×TBk)=>∃L:List Int,j.2=(I.1,(J.1,(U.1,L)))/\L.length<=301/\(j.1=true->j27=true/\(∀x,x ∈ L->0<=x)/\((v=[45]/\L=[])\/(v ≠ [45]/\L.map Lib.itoa=ws)))/\∀b,mB7 b=0->YM b=s->j.1=true) ?_ (fun j hj=>?_)
  ·refine Y.loop (fun n (st:Bool×Int×TBk)=>∃(i:Nat) (L:List Int),st.2.1=(i:Int)/\i<=ws.length/\n=ws.length - i/\st.2.2=(I.1,(J.1,(U.1,L)))/\L.length=i/\(st.1=true->j27=true/\(∀x,x ∈ L->0<=x)/\L.map Lib.itoa=ws.take i)/\(v=[45]->i=0)/\∀b,mB7 b=0->YM b=s->st.1=true) (fun n st hi=>?_) ws.length (j27,(0,(I.1,(J.1,(U.1,[]))))) ⟨0,[],rfl,by omega,by omega,rfl,rfl,(fun h=>⟨h,(fun x hx=>nomatch hx),rfl⟩),(fun _=>rfl),q27.2⟩
   obtain⟨i,L,i1,i2,i3,i4,i5,i6,i7,i8⟩:=hi;obtain⟨fl,i',st⟩:=st;have i1:i'=(i:Int):=i1
   subst i1;have i4:st=(I.1,(J.1,(U.1,L))):=i4
   subst i4;refine Y.bind (Q:=fun b=>b=(decide (i<ws.length)&&!decide (v=[45]))) (Y.bif (fun hc=>?_) (fun hc=>?_)) fun b hb=>?_
   ·have hc:i<ws.length:=by simpa using hc
    exact Y.some (by rw[aLE hc];rfl)
   ·have hc:¬i<ws.length:=by simpa using hc
    exact Y.some (by rw[aLD hc];rfl)
   ·subst hb
    refine Y.bif (fun hb2=>?_) (fun hb2=>Y.some ⟨L,rfl,by omega,fun hf=>?_,i8⟩)
    ·simp only[aLg,aLF,Bool.not_eq_true',decide_eq_false_iff_not] at hb2
     obtain⟨hc,hv45⟩:=hb2;have hg:List.getD ws (Int.toNat (i:Int)) []=ws[i]:=Qa ws i _ hc
     refine Y.grd (Qb ws i hc) (Y.bind (Qmx _ 2 (hwl _) (by omega)) fun y37 q37=>?_)
     rw[hg] at q37;refine Y.bind (Q:=fun (j:Bool)=>j=(fl&&y37.2)) (Y.bif (fun h=>Y.some (by rw[show fl=true from h];rfl)) (fun h=>Y.some (by rw[show fl=false from h];rfl))) fun j38 q38=>?_
     subst q38;refine Y.grd (Qha _ _ (by show L.length<_;omega)) (Y.some ⟨ws.length - (i+1),by omega,i+1,L++[y37.1],wsucc hc (by omega),by omega,rfl,rfl,by simp[i5],fun hf=>?_,fun h=>absurd h hv45,fun b h1 h2=>?_⟩)
     ·have hf:(fl&&y37.2)=true:=hf
      rw[aLg] at hf;obtain⟨k1,k3,k2⟩:=i6 hf.1;obtain⟨m,m1,m2⟩:=q37.1 hf.2;refine⟨k1,fun x hx=>?_,?_⟩
      ·rcases aMi.1 hx with hx | hx
       ·exact k3 x hx
       ·rw[aLs.1 hx,m1];omega
      rw[List.map_append,k2,aMl hc,m1];show _++[Lib.itoa (m:Int)]=_
      rw[m2]
     ·show (fl&&y37.2)=true
      have ho:=Qfp h1
      have hwb:=wb b h1 h2 hv45
      have hib:i<b.2.2.2.length:=by rw[hwb,aMH] at hc;exact hc
      have hx:=ho.t _ (aLl hib)
      rw[show fl=true from i8 b h1 h2,q37.2 b.2.2.2[i] (by omega) (by omega) (by simp[hwb]) (Qfv _ 2 (by omega) (by omega) (by omega))];rfl
    ·obtain⟨k1,k3,k2⟩:=i6 hf
     refine⟨k1,k3,?_⟩;by_cases h45:v=[45]
     ·have:=i7 h45
      exact .inl ⟨h45,aMk (by omega)⟩
     ·have hc:¬i<ws.length:=by
       intro hc;rw[aLE hc,aLD h45] at hb2;cases hb2
      refine .inr ⟨h45,?_⟩;rw[k2,aMx (by omega)]
  ·obtain⟨L,j1,j2,j3,j4⟩:=hj
   obtain⟨fl,tb⟩:=j;have j1:tb=(I.1,(J.1,(U.1,L))):=j1
   subst j1;refine Y.bind (Q:=fun (q:Bool×TBk)=>BkQ s (q.2,q.1)) (Y.bif (fun hf=>?_) (fun hf=>Y.some ⟨fun h=>(by cases h),fun b h1 h2=>by rw[show fl=true from j4 b h1 h2] at hf;cases hf⟩)) fun q hq=>Y.some hq
   refine Y.eqb (Qnm _ (by show L.length<_;omega)) (Y.some ?_)
   obtain⟨k1,k3,k2⟩:=j3 hf;obtain⟨n1,n2,n3⟩:=q27.1 k1;obtain⟨m1,a1,b1⟩:=q24.1 n1;obtain⟨m2,a2,b2⟩:=q25.1 n2;obtain⟨m3,a3,b3⟩:=q26.1 n3;have b1:Lib.itoa (m1:Int)=List.getD (cuts 32 s) 1 []:=b1
   have b2:Lib.itoa (m2:Int)=List.getD (cuts 32 s) 2 []:=b2
   have b3:Lib.itoa (m3:Int)=List.getD (cuts 32 s) 3 []:=b3
   have htx:YM (I.1,(J.1,(U.1,L)))=s:=by
    have hlast:(if L=[] then [45] else Zu L [43])=v:=by
     rcases k2 with ⟨h1,h2⟩ | ⟨h1,h2⟩
     ·rw[if_pos h2,h1]
     ·have hLn:L ≠ []:=fun h=>by rw[h] at h2;exact QbP 43 v (by rw[<-hws,<-h2];rfl)
      rw[if_neg hLn];show Lib.join (L.map Lib.itoa) [43]=v
      rw[h2,hws,Qin]
    have hcut:cuts 32 s=wBk (I.1,(J.1,(U.1,L))):=by
     unfold wBk;show _=[[98,108,111,99,107],Lib.itoa I.1,Lib.itoa J.1,Lib.itoa U.1,if L=[] then [45] else Zu L [43]]
     rw[hlast,a1,a2,a3,b1,b2,b3,<-hblk,hv];generalize cuts 32 s=w at h5
     match w,h5 with
     | [_,_,_,_,_],_=>rfl
    unfold YM;rw[<-hcut,Qin]
   refine⟨fun h=>⟨aLG h,htx⟩,fun b h1 h2=>aLE ?_⟩
   have hb1:=Qgr h1 (by rw[h2];exact hs)
   have:=cwd b h1 h2
   have e:(I.1,(J.1,(U.1,L)))=b:=by
    have ho:=Qfp h1
    have hp:=ho.p;have hh:=ho.h;have hm:=ho.m
    rw[this] at b1 b2 b3;have c1:I.1=b.1:=by rw[a1];exact QjG (by omega) hp.1 b1
    have c2:J.1=b.2.1:=by rw[a2];exact QjG (by omega) (by omega) b2
    have c3:U.1=b.2.2.1:=by rw[a3];exact QjG (by omega) (by omega) b3
    have c4:L=b.2.2.2:=by
     rcases k2 with ⟨h3,h4⟩ | ⟨h3,h4⟩
     ·by_cases hn:b.2.2.2=[]
      ·rw[h4,hn]
      ·have:=vb b h1 h2
       rw[if_neg hn,h3] at this;exact absurd this.symm (QmD hn fun k hk=>by have:=ho.t k hk;omega)
     ·rw[wb b h1 h2 h3] at h4
      exact Qn2 k3 (fun x hx=>by have:=ho.t x hx;omega) h4
    rw[c1,c2,c3,c4]
   rw[e];exact h1
open Classical in
noncomputable def rdBk (s:List UInt8):Option TBk:=if h:∃b,mB7 b=0/\YM b=s then some h.choose else none
theorem Qkw {s:List UInt8} {b:TBk} (h:rdBk s=some b):mB7 b=0/\YM b=s:=by
 unfold rdBk at h;split at h
 ·rename_i hh
  cases h;exact hh.choose_spec
 ·cases h
theorem Qoj {s:List UInt8} (h:rdBk s=none) (b:TBk) (h1:mB7 b=0) (h2:YM b=s):False:=by
 unfold rdBk at h;split at h
 ·cases h
 ·rename_i hh;exact hh ⟨b,h1,h2⟩
def noB:TBk:=(0,(0,(0,[])))
theorem QqO (s:List UInt8) (I:s.length<=300):Y (Yz s) (fun r=>(r.2=true->mB7 r.1=0/\YM r.1=s)/\(r.2=false->r.1=noB)):=by
 have J:BIG=4611686018427387904:=rfl
 have hw:∀i,(List.getD (cuts 32 s) i []).length<=300:=fun i=>by have:=YL 32 s i;omega
 unfold Yz;refine Y.eqb (Qhc s 32 (by omega)) ?_
 refine Y.bind (Q:=fun j=>j=false->(cuts 32 s).length=5) (Y.bif (fun _=>Y.some (fun h=>by cases h)) (fun _=>Y.some (fun h=>?_))) fun j hj=>?_
 ·have:((cuts 32 s).length:Int)=5:=by simpa using h
  omega
 ·refine Y.bif (fun _=>Y.some ⟨(fun h=>by cases h),fun _=>rfl⟩) (fun h0=>?_)
  have h5:=hj h0
  refine Y.grd (ZT (by omega) (by omega)) (Y.eqb (Jr _ (by have:=hw (Int.toNat 1);omega)) ?_)
  refine Y.grd (ZT (by omega) (by omega)) (Y.eqb (Jr _ (by have:=hw (Int.toNat 2);omega)) ?_)
  refine Y.grd (ZT (by omega) (by omega)) (Y.eqb (Jr _ (by have:=hw (Int.toNat 3);omega)) ?_)
  have i4:inB 4 (cuts 32 s)=true:=ZT (by omega) (by omega)
  have U:=hw (Int.toNat 4)
  refine Y.grd i4 (Y.bind (Q:=fun (b:TBk)=>b.2.2.2.length<=1000) (Y.bif (fun _=>Y.grd i4 (Y.eqb (Qkf _ 43 (by omega)) (Y.some ?_))) (fun _=>Y.some (by simp))) fun b hb=>?_)
  ·show ((cuts 43 _).map numS).length<=1000
   have:=J1 43 (List.getD (cuts 32 s) (Int.toNat 4) [])
   rw[aMH];omega
  ·refine Y.bind (Q:=fun j=>j=false->mB7 b=0/\YM b=s) (Y.eqb (QgT b (by omega)) (Y.bif (fun _=>Y.some (fun h=>by cases h)) (fun h1=>?_))) fun j hj=>Y.bif (fun _=>Y.some ⟨(fun h=>by cases h),fun _=>rfl⟩) (fun h1=>Y.some ⟨fun _=>hj h1,fun h=>by cases h⟩)
   have h1:mB7 b=0:=by simpa using h1
   exact Y.eqb (Qhv (Qfp h1)) (Y.some (fun h=>⟨h1,by simpa using h⟩))
theorem QtX (s:List UInt8) (I:s.length<=300):Yz s=some (match rdBk s with | some b=>(b,true) | none=>(noB,false)):=by
 cases J:rdBk s with
 | some b=>
  obtain⟨h1,h2⟩:=Qkw J;have:=Qgr h1 (by rw[h2];exact I)
  rwa [h2] at this
 | none=>
  obtain⟨r,h1,h2,h3⟩:=QqO s I;rw[h1];obtain⟨b,f⟩:=r;cases f with
  | true=>exact (Qoj J b (h2 rfl).1 (h2 rfl).2).elim
  | false=>rw[show b=noB from h3 rfl]
theorem Qqw (s:List UInt8) (I:s.length<=300):QbJ s=some (match rdBk s with | some b=>(0,b) | none=>(5,noB)):=by
 unfold QbJ;obtain⟨r,h1,h2,h3⟩:=QtB s I;rw[h1,aLc];obtain⟨b,f⟩:=r;cases U:rdBk s with
 | none=>
  cases f with
  | true=>exact (Qoj U b (h2 rfl).1 (h2 rfl).2).elim
  | false=>rfl
 | some b'=>
  obtain⟨k1,k2⟩:=Qkw U;have hf:f=true:=h3 b' k1 k2
  subst hf;obtain⟨j1,j2⟩:=h2 rfl;have e1:=Qgr j1 (by rw[j2];exact I)
  have J:=Qgr k1 (by rw[k2];exact I)
  rw[j2] at e1;rw[k2,e1] at J;simp only[aLb,aLe,and_true] at J;show some ((0:Int),b)=some (0,b')
  rw[J]
noncomputable def mBI (l:TL) (id:Int):TBk×Int:=if mIn id 1 (l.1.length:Int) then (match rdBk (List.getD l.1 (Int.toNat (wrap .i64 (id - 1))) []) with | some b=>(b,0) | none=>(noB,5)) else (noB,3)
theorem Qgi {l:TL} (h:okL l) (id:Int):Z4 l id=some (mBI l id):=by
 unfold Z4 YS Qbf mBI;rw[Zt];simp only[aLc];cases hi:mIn id 1 (l.1.length:Int) with
 | false=>rfl
 | true=>
  simp only[aMa,aLC,Qpe h hi,aLB,aLc,aMc,if_true];rw[QtX _ (QkJ h _),aLc];cases rdBk (List.getD l.1 (Int.toNat (wrap .i64 (id - 1))) [])<;>rfl
theorem Qf7 {l:TL} (h:mLF l=0) (id:Int):Qat l id=some ((mBI l id).2,(mBI l id).1):=by
 have ho:=Qaz h
 have I:BIG=4611686018427387904:=rfl
 unfold Qat QcG Qgp mBI;rw[Qam l (by have:=ho.n1;omega) (by have:=ho.n2;omega),aLc,h,Zn]
 simp only[aMc,aMa,aLC,aLc];cases hi:mIn id 1 (l.1.length:Int) with
 | false=>rfl
 | true=>
  simp only[aMa,aLC,Qpe ho hi,aLB,aLc,aMc,if_true];rw[Qqw _ (QkJ ho _),aLc];cases rdBk (List.getD l.1 (Int.toNat (wrap .i64 (id - 1))) [])<;>rfl
theorem QwZ {l:TL} (J:okL l) {id:Int} (h:(mBI l id).2=0):mB7 (mBI l id).1=0/\mIn id 1 60=true:=by
 have U:=J.n1
 unfold mBI at h ⊢;split
 ·rename_i h1
  rw[if_pos h1] at h;refine⟨?_,Qz.2 (by have:=Qz.1 h1;omega)⟩
  split
  ·rename_i t I;exact (Qkw I).1
  ·rename_i I;rw[I] at h;cases h
 ·rename_i h1;rw[if_neg h1] at h;cases h
structure okSt (S:TState):Prop where
 c:Q9 S.2.2.1=0
 m:Qai S.2.2.2/\S.2.2.2.length<=8
noncomputable def mDo (l:TL) (S:TState) (id h:Int):Int×List TCoin×Int×TState:=
 if (mTI l id).2=0 then (if (mChk l S.2.2.1 (mTI l id).1 h).2=0 then (if (QcF S.2.2.2 (mTI l id).1 id).2=0 then (if (ZV S.2.2.1 (mTI l id).1 id h).2=0 then
  ((mChk l S.2.2.1 (mTI l id).1 h).1,(mSp S.2.2.1 (mTI l id).1,(0,(S.1,(S.2.1,((ZV S.2.2.1 (mTI l id).1 id h).1,(QcF S.2.2.2 (mTI l id).1 id).1))))))
  else (0,([],((ZV S.2.2.1 (mTI l id).1 id h).2,S)))) else (0,([],((QcF S.2.2.2 (mTI l id).1 id).2,S)))) else (0,([],((mChk l S.2.2.1 (mTI l id).1 h).2,S)))) else (0,([],((mTI l id).2,S)))
theorem QwU {l:TL} (U:mLF l=0) {S:TState} (I:okSt S) (id:Int) {h:Int} (hh:mIn h 0 999=true):Qbp l S id h=some (mDo l S id h):=by
 have ho:=Qaz U
 unfold Qbp mDo;rw[Qk7 ho,aLc,QN];split
 ·rename_i h1
  have J:=Jk (Qhz h1)
  have hid:=Qjm ho h1
  rw[Qnz ho I.c J hh,aLc,QN];split
  ·rename_i h2
   have hlen:=Qna h2
   rw[QjZ I.m (by have:=J.li;omega) hid,aLc,QN]
   split
   ·rw[Qgm I.c _ J,if_pos hlen,aLc,QtR I.c J hlen hid hh,aLc,QN]
    split<;>rfl
   ·rfl
  ·rfl
 ·rfl
theorem QwY {l:TL} (J:mLF l=0) {S:TState} (I:okSt S) (id:Int) {h:Int} (hh:mIn h 0 999=true):Qgs l S id h=some ((mDo l S id h).2.1,((mDo l S id h).1,((mDo l S id h).2.2.1,(l,(mDo l S id h).2.2.2)))):=by
 have ho:=Qaz J
 unfold Qgs mDo;rw[Qk6 J,aLc,QN];split
 ·rename_i h1
  have U:=Qhz h1
  have ht:=Jk U
  have hid:=Qjm ho h1
  rw[Qm9 J I.c U hh,aLc,QN];split
  ·rename_i h2
   have hlen:=Qna h2
   rw[QoG I.m (by have:=ht.li;show (mTI l id).1.2.2.1.length<=_;omega),aLc,QN]
   split
   ·rw[Qel I.c _ (by have:=ht.li;show (mTI l id).1.2.2.1.length<=_;omega),aLc,Qm6 I.c U hlen hid hh,aLc,QN]
    split<;>rfl
   ·rfl
  ·rfl
 ·rfl
theorem Qjt {l:TL} (U:mLF l=0) {S:TState} (I:okSt S) {id h:Int} (hh:mIn h 0 999=true) (h0:(mDo l S id h).2.2.1=0):okSt (mDo l S id h).2.2.2/\(mDo l S id h).2.2.2.1=S.1/\(mDo l S id h).2.2.2.2.1=S.2.1/\0<=(mDo l S id h).1/\(mDo l S id h).1<=40000000:=by
 have ho:=Qaz U
 unfold mDo at h0 ⊢;by_cases h1:(mTI l id).2=0
 ·rw[if_pos h1] at h0 ⊢
  have J:=Jk (Qhz h1)
  have hid:=Qjm ho h1
  by_cases h2:(mChk l S.2.2.1 (mTI l id).1 h).2=0
  ·rw[if_pos h2] at h0 ⊢
   by_cases h3:(QcF S.2.2.2 (mTI l id).1 id).2=0
   ·rw[if_pos h3] at h0 ⊢
    by_cases h4:(ZV S.2.2.1 (mTI l id).1 id h).2=0
    ·rw[if_pos h4]
     exact⟨⟨Qk4 I.c J hid hh h4,QrB I.m _ _⟩,rfl,rfl,QwD I.c J h2⟩
    ·rw[if_neg h4] at h0;exact absurd h0 h4
   ·rw[if_neg h3] at h0;exact absurd h0 h3
  ·rw[if_neg h2] at h0;exact absurd h0 h2
 ·rw[if_neg h1] at h0;exact absurd h0 h1
noncomputable def mDos (l:TL) (h:Int):List Int->Int->List (List TCoin)->TState->Int×Int×List (List TCoin)×TState
 | [],f,sp,S=>(0,(f,(sp,S)))
 | i::r,f,sp,S=>if (mDo l S i h).2.2.1=0 then mDos l h r (wrap .i64 (f+(mDo l S i h).1)) (sp++[(mDo l S i h).2.1]) (mDo l S i h).2.2.2 else ((mDo l S i h).2.2.1,(0,([],S)))
theorem QgK {l:TL} (U:mLF l=0) {h:Int} (hh:mIn h 0 999=true):∀(ids:List Int) (f:Int) (sp:List (List TCoin)) (S:TState),okSt S->0<=f->f+40000000 * (ids.length:Int)<=1000000000000->(mDos l h ids f sp S).1=0->
  okSt (mDos l h ids f sp S).2.2.2/\0<=(mDos l h ids f sp S).2.1/\(mDos l h ids f sp S).2.1<=f+40000000 * (ids.length:Int)/\(mDos l h ids f sp S).2.2.1.length=sp.length+ids.length
 | [],f,sp,S,J,h0,h1,_=>⟨J,h0,by simp[mDos],rfl⟩
 | i::r,f,sp,S,J,h0,h1,I=>by
  unfold mDos at I ⊢;by_cases hd:(mDo l S i h).2.2.1=0
  ·rw[if_pos hd] at I ⊢
   obtain⟨a1,_,_,a2,a3⟩:=Qjt U J hh hd;rw[aLh] at h1;have hw:wrap .i64 (f+(mDo l S i h).1)=f+(mDo l S i h).1:=Qy (by omega) (by omega)
   rw[hw] at I ⊢;obtain⟨b1,b2,b3,b4⟩:=QgK U hh r _ (sp++[(mDo l S i h).2.1]) _ a1 (by omega) (by omega) I
   refine⟨b1,b2,?_,?_⟩
   ·rw[aLh];omega
   ·rw[b4,aLi,aMj,aLh];omega
  ·rw[if_neg hd] at I;exact absurd I hd
abbrev TRs:=Int×Int×TUn×TState
def badR (c:Int):TRs:=(c,(0,((0,([],[])),(0,(0,([],[]))))))
def mRw (h:Int):Int:=1000 / 2 ^ ((h - 1) / 8).toNat
theorem QjE {h:Int} (h1:1<=h/\h<=40):Qc6 h=some (mRw h)/\QfY h=some (mRw h)/\62<=mRw h/\mRw h<=1000:=by
 have I:Int.tdiv (h - 1) 8=(h - 1) / 8:=Int.tdiv_eq_ediv_of_nonneg (by omega)
 have e1:RowKit.wrap64 (h - 1)=h - 1:=by unfold RowKit.wrap64;omega
 have J:RowKit.wrap64 ((h - 1) / 8)=(h - 1) / 8:=by unfold RowKit.wrap64;omega
 unfold Qc6 QfY mRw;rw[Qy (n:=h - 1) (by omega) (by omega),e1,I,J,Qy (n:=(h - 1) / 8) (by omega) (by omega),aLE (show (0:Int)<=(h - 1) / 8 by omega),aLB]
 have:(h - 1) / 8=0\/(h - 1) / 8=1\/(h - 1) / 8=2\/(h - 1) / 8=3\/(h - 1) / 8=4:=by omega
 rcases this with e | e | e | e | e<;>rw[e]<;>refine⟨by decide,by decide,by decide,by decide⟩
noncomputable def Qk (l:TL) (S:TState) (id:Int):TRs:=
 if (mBI l id).2=0 then (if (mBI l id).1.1=S.1/\(mBI l id).1.2.1=wrap .i64 (S.2.1+1) then
  (if (mDos l (mBI l id).1.2.1 (mBI l id).1.2.2.2 0 [] S).1=0 then
   (if 1000000<mRw (mBI l id).1.2.1+(mDos l (mBI l id).1.2.1 (mBI l id).1.2.2.2 0 [] S).2.1 then badR 8 else
    (if (JZ (mDos l (mBI l id).1.2.1 (mBI l id).1.2.2.2 0 [] S).2.2.2.2.2.1 id [(mRw (mBI l id).1.2.1+(mDos l (mBI l id).1.2.1 (mBI l id).1.2.2.2 0 [] S).2.1,([(mBI l id).1.2.2.1],(1,0)))] (mBI l id).1.2.1 true).2=0 then
     (0,((mDos l (mBI l id).1.2.1 (mBI l id).1.2.2.2 0 [] S).2.1,((id,((mDos l (mBI l id).1.2.1 (mBI l id).1.2.2.2 0 [] S).2.2.1,S.2.2.2)),(id,((mBI l id).1.2.1,((JZ (mDos l (mBI l id).1.2.1 (mBI l id).1.2.2.2 0 [] S).2.2.2.2.2.1 id [(mRw (mBI l id).1.2.1+(mDos l (mBI l id).1.2.1 (mBI l id).1.2.2.2 0 [] S).2.1,([(mBI l id).1.2.2.1],(1,0)))] (mBI l id).1.2.1 true).1,(mDos l (mBI l id).1.2.1 (mBI l id).1.2.2.2 0 [] S).2.2.2.2.2.2))))))
     else badR (JZ (mDos l (mBI l id).1.2.1 (mBI l id).1.2.2.2 0 [] S).2.2.2.2.2.1 id [(mRw (mBI l id).1.2.1+(mDos l (mBI l id).1.2.1 (mBI l id).1.2.2.2 0 [] S).2.1,([(mBI l id).1.2.2.1],(1,0)))] (mBI l id).1.2.1 true).2))
   else badR (mDos l (mBI l id).1.2.1 (mBI l id).1.2.2.2 0 [] S).1)
  else badR 10) else badR (mBI l id).2
theorem Qkr {v k:Int} (hv:1<=v/\v<=1000000) (hk:mIn k 1 999=true):∀o,o ∈ [((v,([k],(1,0))):TOut)]->mOut o=0/\o.2.1.length<=1000000:=fun o ho=>by
 rw[aLs.1 ho];refine⟨?_,by simp⟩
 unfold mOut;rw[Qz.2 hv,if_pos rfl];show Zg ([k],(1,0))=0
 have:=Qz.1 hk
 unfold Zg Qgd;simp[mIn];omega
theorem Qce {l:TL} (J:mLF l=0) {S:TState} (U:okSt S) {id:Int} (h1:(mBI l id).2=0):okB7 (mBI l id).1/\mIn id 1 60=true/\mIn (mBI l id).1.2.1 0 999=true/\mIn (mBI l id).1.2.2.1 1 999=true/\
  ((mDos l (mBI l id).1.2.1 (mBI l id).1.2.2.2 0 [] S).1=0->okSt (mDos l (mBI l id).1.2.1 (mBI l id).1.2.2.2 0 [] S).2.2.2/\0<=(mDos l (mBI l id).1.2.1 (mBI l id).1.2.2.2 0 [] S).2.1/\(mDos l (mBI l id).1.2.1 (mBI l id).1.2.2.2 0 [] S).2.1<=240000000):=by
 obtain⟨h2,h3⟩:=QwZ (Qaz J) h1;have hb:=Qfp h2
 have hh:=hb.h
 have I:mIn (mBI l id).1.2.1 0 999=true:=Qz.2 (by omega)
 refine⟨hb,h3,I,Qz.2 hb.m,fun h4=>?_⟩
 have hn:=hb.n
 obtain⟨a,b,c,_⟩:=QgK J I _ 0 [] S U (by omega) (by omega) h4
 exact⟨a,b,by omega⟩
theorem Qa5 {l:TL} (I:mLF l=0) {S:TState} (J:okSt S) {id:Int} (h0:(Qk l S id).1=0):okSt (Qk l S id).2.2.2/\(Qk l S id).2.2.2.1=id/\(Qk l S id).2.2.2.2.1=(mBI l id).1.2.1/\(mBI l id).2=0/\(mBI l id).1.1=S.1/\(mBI l id).1.2.1=wrap .i64 (S.2.1+1)/\0<=(Qk l S id).2.1/\(Qk l S id).2.1<=240000000:=by
 unfold Qk at h0 ⊢;by_cases h1:(mBI l id).2=0
 ·rw[if_pos h1] at h0 ⊢
  obtain⟨hb,hid,hh,hk,hd⟩:=Qce I J h1;by_cases h2:(mBI l id).1.1=S.1/\(mBI l id).1.2.1=wrap .i64 (S.2.1+1)
  ·rw[if_pos h2] at h0 ⊢
   generalize mDos l (mBI l id).1.2.1 (mBI l id).1.2.2.2 0 [] S=q at *;by_cases h3:q.1=0
   ·rw[if_pos h3] at h0 ⊢
    obtain⟨d1,d2,d3⟩:=hd h3;by_cases h4:1000000<mRw (mBI l id).1.2.1+q.2.1
    ·rw[if_pos h4] at h0;cases h0
    ·rw[if_neg h4] at h0 ⊢
     have U:=(QjE hb.h).2.2
     by_cases h5:(JZ q.2.2.2.2.2.1 id [(mRw (mBI l id).1.2.1+q.2.1,([(mBI l id).1.2.2.1],(1,0)))] (mBI l id).1.2.1 true).2=0
     ·rw[if_pos h5]
      exact⟨⟨Qov d1.c hid (by simp) (fun o ho=>(Qkr ⟨by omega,by omega⟩ hk o ho).1) hh h5,d1.m⟩,rfl,rfl,h1,h2.1,h2.2,d2,d3⟩
     ·rw[if_neg h5] at h0;exact absurd h0 h5
   ·rw[if_neg h3] at h0;exact absurd h0 h3
  ·rw[if_neg h2] at h0;cases h0
 ·rw[if_neg h1] at h0;exact absurd h0 h1
theorem Qkd {S:TState} (I:okSt S):Qbl S=some S/\QaV S=some S:=by
 have J:=(Zf I.c).1
 have hm:=I.m.2
 constructor
 ·unfold Qbl
  rw[Yj _ (by omega) (Zz I.c),aLc,Qes _ (by unfold LIM;omega)];rfl
 ·unfold QaV
  rw[QaQ _ (by omega) (Zz I.c),aLc,Qj (by simp only[aLj];unfold LIM;omega)];rfl
theorem QnX {l:TL} (hl:mLF l=0) {S:TState} (hS:okSt S) (id:Int):YJ l S id=some (Qk l S id):=by
 have hB:BIG=4611686018427387904:=rfl
 unfold YJ Qk;rw[Qgi (Qaz hl),aLc,QN];split
 ·rename_i h1
  obtain⟨hb,hid,hh,hk,hd⟩:=Qce hl hS h1;generalize (mBI l id).1=b at *;by_cases h2:b.1=S.1/\b.2.1=wrap .i64 (S.2.1+1)
  ·rw[if_pos h2,aLE h2.1,aLE h2.2]
   simp only[aMa,aLC,aLc];rw[(Qkd hS).1,aLc,Qes _ (by have:=hS.m.2;unfold LIM;omega),aLc]
   generalize hg:(fun (s20:Int×Int×TState×TUn)=>_)=g
   have key:∀(d i:Nat) (f:Int) (sp:List (List TCoin)) (S':TState),i+d=b.2.2.2.length->okSt S'->sp.length=i->Qc g (f,((i:Int),(S',(id,(sp,S.2.2.2)))))=some (if (mDos l b.2.1 (b.2.2.2.drop i) f sp S').1=0 then inl ((mDos l b.2.1 (b.2.2.2.drop i) f sp S').2.1,((mDos l b.2.1 (b.2.2.2.drop i) f sp S').2.2.2,(id,((mDos l b.2.1 (b.2.2.2.drop i) f sp S').2.2.1,S.2.2.2)))) else inr (badR (mDos l b.2.1 (b.2.2.2.drop i) f sp S').1)):=by
    intro d;induction d with
    | zero=>
     intro i f sp S' hi _ _;obtain rfl:i=b.2.2.2.length:=by omega
     rw[Qe (show g (f,((b.2.2.2.length:Int),(S',(id,(sp,S.2.2.2)))))=some (.inr (.inl (f,(S',(id,(sp,S.2.2.2)))))) by rw[<-hg];simp only[dge,aLC]),aMr]
     rfl
    | succ d ih=>
     intro i f sp S' hi hS' hsp;have J:i<b.2.2.2.length:=by omega
     have hn:=hb.n
     rw[aLr J];unfold mDos;have I:g (f,((i:Int),(S',(id,(sp,S.2.2.2)))))=if (mDo l S' b.2.2.2[i] b.2.1).2.2.1=0 then some (.inl (wrap .i64 (f+(mDo l S' b.2.2.2[i] b.2.1).1),(((i+1:Nat):Int),((mDo l S' b.2.2.2[i] b.2.1).2.2.2,(id,(sp++[(mDo l S' b.2.2.2[i] b.2.1).2.1],S.2.2.2)))))) else some (.inr (.inr (badR (mDo l S' b.2.2.2[i] b.2.1).2.2.1))):=by
      rw[<-hg];simp only[dlt J,Qb _ i J,Qa _ i _ J,aLB,QwU hl hS' _ hh,aLc,wsucc J (show b.2.2.2.length<BIG by omega),QN]
      split
      ·rw[Qj (by simp only[aLh,aLj];unfold LIM;omega)];rfl
      ·rfl
     by_cases U:(mDo l S' b.2.2.2[i] b.2.1).2.2.1=0
     ·rw[if_pos U] at I ⊢
      rw[Qo I,ih (i+1) _ _ _ (by omega) (Qjt hl hS' hh U).1 (by simp[hsp])]
     ·rw[if_neg U] at I ⊢
      rw[Qe I,if_neg U]
   have:=key b.2.2.2.length 0 0 [] S (by omega) hS rfl
   rw[aMt] at this;show ((Qc g (0,(0,(S,(id,([],S.2.2.2)))))).bind _)=_
   rw[show ((0:Nat):Int)=0 from rfl] at this
   rw[this,aLc];generalize mDos l b.2.1 b.2.2.2 0 [] S=q at *;by_cases h3:q.1=0
   ·obtain⟨d1,d2,d3⟩:=hd h3
    have hr:=QjE hb.h
    rw[if_pos h3,if_pos h3,Sum.elim_inl,hr.1,aLc,Qy (by omega) (by omega)]
    by_cases h4:1000000<mRw b.2.1+q.2.1
    ·rw[aLE h4,if_pos h4];rfl
    ·rw[aLD h4,if_neg h4,aLC]
     have hc:=Zf d1.c
     rw[Qmc (Jb d1.c) (by omega) (Zz d1.c) hid (by simp) (Qkr ⟨by omega,by omega⟩ hk) hh true,aLc,QN]
     split<;>rfl
   ·rw[if_neg h3,if_neg h3];rfl
  ·rw[if_neg h2]
   by_cases h3:b.1=S.1
   ·have h4:¬b.2.1=wrap .i64 (S.2.1+1):=fun h=>h2 ⟨h3,h⟩
    rw[aLE h3,aLD h4];rfl
   ·rw[aLD h3];rfl
 ·rfl
theorem Qnn (c:Int):Q6 c=some (badR c):=rfl
theorem Qiu {l:TL} (hl:mLF l=0) {S:TState} (hS:okSt S) (id:Int):Yv l S id=some (Qk l S id,l):=by
 have hB:BIG=4611686018427387904:=rfl
 unfold Yv Qk;rw[Qf7 hl,aLc,QN];split
 ·rename_i h1
  obtain⟨hb,hid,hh,hk,hd⟩:=Qce hl hS h1;generalize (mBI l id).1=b at *;by_cases h2:b.1=S.1/\b.2.1=wrap .i64 (S.2.1+1)
  ·rw[if_pos h2,aLE h2.1,aLE h2.2]
   simp only[aMa,aLC,aLc];rw[(Qkd hS).2,aLc,Qj (by simp only[aLj];have:=hS.m.2;unfold LIM;omega)]
   generalize hg:(fun (s29:Int×TRs×TL)=>_)=g
   have key:∀(d i:Nat) (f:Int) (sp:List (List TCoin)) (S':TState),i+d=b.2.2.2.length->okSt S'->sp.length=i->Qc g ((i:Int),((0,(f,((id,(sp,S.2.2.2)),S'))),l))=some (if (mDos l b.2.1 (b.2.2.2.drop i) f sp S').1=0 then inl ((0,((mDos l b.2.1 (b.2.2.2.drop i) f sp S').2.1,((id,((mDos l b.2.1 (b.2.2.2.drop i) f sp S').2.2.1,S.2.2.2)),(mDos l b.2.1 (b.2.2.2.drop i) f sp S').2.2.2))),l) else inr (badR (mDos l b.2.1 (b.2.2.2.drop i) f sp S').1,l)):=by
    intro d;induction d with
    | zero=>
     intro i f sp S' hi _ _;obtain rfl:i=b.2.2.2.length:=by omega
     rw[Qe (show g ((b.2.2.2.length:Int),((0,(f,((id,(sp,S.2.2.2)),S'))),l))=some (.inr (.inl ((0,(f,((id,(sp,S.2.2.2)),S'))),l))) by rw[<-hg];simp only[dge,aLC]),aMr]
     rfl
    | succ d ih=>
     intro i f sp S' hi hS' hsp;have J:i<b.2.2.2.length:=by omega
     have hn:=hb.n
     rw[aLr J];unfold mDos;have I:g ((i:Int),((0,(f,((id,(sp,S.2.2.2)),S'))),l))=if (mDo l S' b.2.2.2[i] b.2.1).2.2.1=0 then some (.inl (((i+1:Nat):Int),((0,(wrap .i64 (f+(mDo l S' b.2.2.2[i] b.2.1).1),((id,(sp++[(mDo l S' b.2.2.2[i] b.2.1).2.1],S.2.2.2)),(mDo l S' b.2.2.2[i] b.2.1).2.2.2))),l))) else some (.inr (.inr (badR (mDo l S' b.2.2.2[i] b.2.1).2.2.1,l))):=by
      rw[<-hg];simp only[dlt J,Qb _ i J,Qa _ i _ J,aLB,QwY hl hS' _ hh,aLc,wsucc J (show b.2.2.2.length<BIG by omega),QN,Qnn]
      split
      ·rw[Qj (by simp only[aLh,aLj];unfold LIM;omega)];rfl
      ·rfl
     by_cases U:(mDo l S' b.2.2.2[i] b.2.1).2.2.1=0
     ·rw[if_pos U] at I ⊢
      rw[Qo I,ih (i+1) _ _ _ (by omega) (Qjt hl hS' hh U).1 (by simp[hsp])]
     ·rw[if_neg U] at I ⊢
      rw[Qe I,if_neg U]
   have:=key b.2.2.2.length 0 0 [] S (by omega) hS rfl
   rw[aMt] at this;show ((Qc g (0,((0,(0,((id,([],List.append [] S.2.2.2)),S))),l))).bind _)=_
   rw[show ((0:Nat):Int)=0 from rfl] at this
   rw[show List.append ([]:List TMb) S.2.2.2=S.2.2.2 from rfl,this,aLc]
   generalize mDos l b.2.1 b.2.2.2 0 [] S=q at *;by_cases h3:q.1=0
   ·obtain⟨d1,d2,d3⟩:=hd h3
    have hr:=QjE hb.h
    rw[if_pos h3,if_pos h3,Sum.elim_inl,hr.2.1,aLc];simp only[Qnn,aLc];rw[Qy (by omega) (by omega)]
    by_cases h4:1000000<mRw b.2.1+q.2.1
    ·rw[aLE h4,if_pos h4];rfl
    ·rw[aLD h4,if_neg h4,aLC]
     rw[Qil d1.c hid (by simp) (fun o ho=>(Qkr ⟨by omega,by omega⟩ hk o ho).1) hh true,aLc,QN]
     split<;>rfl
   ·rw[if_neg h3,if_neg h3];rfl
  ·rw[if_neg h2]
   by_cases h3:b.1=S.1
   ·have h4:¬b.2.1=wrap .i64 (S.2.1+1):=fun h=>h2 ⟨h3,h⟩
    rw[aLE h3,aLD h4];rfl
   ·rw[aLD h3];rfl
 ·rfl
abbrev TN:=Int×Int×Int
theorem QlR (l:List TN) (I:l.length<BIG) (p:TN->Bool) (f:TN->Option Bool) (J:∀a,a ∈ l->f a=some (p a)):Zq l f=some (idxF p l):=by
 unfold Zq;refine Yy l p _ (fun i h=>?_) (by simp only[dge,aLC])
 simp only[dlt h,Qb l i h,Qa l i _ h,aLB,J _ (aLl h),aLc,wsucc h I];cases p l[i]<;>rfl
def idT (t:List TN) (id:Int):Int:=idxF (fun n=>decide (n.1=id)) t
theorem JT (t:List TN) (I:t.length<BIG) (id:Int):ZZ t id=some (idT t id):=by
 unfold ZZ idT;rw[QlR t I (fun n=>decide (n.1=id)) _ (fun a _=>by unfold Qdx;rfl)]
 rfl
theorem JC (t:List TN) (I:t.length<BIG) (id:Int):YN t id=some (idT t id):=by
 unfold YN idT;refine Yy t _ _ (fun i h=>?_) (by simp only[dge,aLC])
 simp only[dlt h,Qb t i h,Qa t i _ h,aLB,wsucc h I];cases decide (t[i].1=id)<;>rfl
theorem Qgl {t:List TN} {id:Int} (h:¬idT t id<0):inB (idT t id) t=true:=Qu2 (by unfold idT at h;omega)
theorem QgV (x:Int):decide (0<=x) = !decide (x<0):=by
 by_cases h:x<0
 ·rw[aLE h,aLD (by omega)];rfl
 ·rw[aLD h,aLE (by omega)];rfl
def Qg5 (t:List TN) (n:TN):Int:=
 if mIn n.1 1 60&&mIn n.2.2 1 40 then
  if idT t n.1<0 then
   if n.2.1=0 then (if n.2.2=1 then 0 else 1)
   else if idT t n.2.1<0 then 4 else if n.2.2=wrap .i64 ((List.getD t (Int.toNat (idT t n.2.1)) (0,(0,0))).2.2+1) then 0 else 1
  else 7
 else 3
theorem Ql0 (t:List TN) (U:t.length<BIG) (n:TN):Qcy t n=some (Qg5 t n):=by
 unfold Qcy Qg5;simp only[JT t U,Qc1,Zt,aLc,QgV];by_cases J:n.2.1=0
 ·simp only[J,aMc,aMa,aLC,aLc,if_true]
  cases mIn n.1 1 60<;>cases mIn n.2.2 1 40<;>by_cases h1:idT t n.1<0<;>by_cases h2:n.2.2=1<;>simp[h1,h2]
 ·simp only[J,aMD,aMB,aLB,aLc,if_false]
  by_cases I:idT t n.2.1<0
  ·simp only[I,aMc,aMa,aLC,aLc,if_true]
   cases mIn n.1 1 60<;>cases mIn n.2.2 1 40<;>by_cases h1:idT t n.1<0<;>simp[h1]
  ·simp only[I,aMD,aMB,aLB,Qgl I,aLc,if_false]
   generalize wrap .i64 ((List.getD t (Int.toNat (idT t n.2.1)) (0,(0,0))).2.2+1)=hh;cases mIn n.1 1 60<;>cases mIn n.2.2 1 40<;>by_cases h1:idT t n.1<0<;>by_cases h2:n.2.2=hh<;>simp[h1,h2]
theorem QoQ (t:List TN) (U:t.length<BIG) (n:TN):QeZ t n=some (Qg5 t n):=by
 unfold QeZ Qg5;simp only[JC t U,Zn,aLc,QgV];by_cases J:n.2.1=0
 ·simp only[J,aMc,aMa,aLC,aLc,if_true,Sum.elim_inl,show wrap .i64 ((0:Int)+1)=1 from by decide]
  cases mIn n.1 1 60<;>cases mIn n.2.2 1 40<;>by_cases h1:idT t n.1<0<;>by_cases h2:n.2.2=1<;>simp[h1,h2]
 ·simp only[J,aMD,aMB,aLB,aLc,if_false]
  by_cases I:idT t n.2.1<0
  ·simp only[I,aMc,aLB,aLc,Sum.elim_inr,if_true]
   cases mIn n.1 1 60<;>cases mIn n.2.2 1 40<;>by_cases h1:idT t n.1<0<;>simp[h1]
  ·simp only[I,aMD,aLC,aLB,Qgl I,aLc,Sum.elim_inl,if_false]
   generalize wrap .i64 ((List.getD t (Int.toNat (idT t n.2.1)) (0,(0,0))).2.2+1)=hh;cases mIn n.1 1 60<;>cases mIn n.2.2 1 40<;>by_cases h1:idT t n.1<0<;>by_cases h2:n.2.2=hh<;>simp[h1,h2]
def Ze (t:List TN):Int:=if (60:Int)<(t.length:Int) then 2 else code (fun i n=>Qg5 (t.take i) n) t
theorem QlK (t:List TN) (I:t.length<BIG):Qcx t=some (Ze t):=by
 unfold Qcx Ze;by_cases J:(60:Int)<(t.length:Int)
 ·simp only[J,aMc,aLB,if_true]
 ·simp only[J,aMD,aLC,if_false]
  refine YD t _ _ (fun i h=>?_) (by simp only[dge,aLC])
  simp only[dlt h,Qb t i h,ZI t i (Nat.le_of_lt h),Jq,Qa t i _ h,aLB,Ql0 _ (YZ I i),aLc,wsucc h I,QN];split<;>rfl
theorem Qnq (t:List TN) (I:t.length<BIG):QdT t=some (Ze t):=by
 unfold QdT Ze;by_cases J:(60:Int)<(t.length:Int)
 ·simp only[J,aMc,aLB,if_true]
 ·simp only[J,aMD,aLC,if_false]
  refine YD t _ _ (fun i h=>?_) (by simp only[dge,aLC])
  simp only[dlt h,Qb t i h,ZI t i (Nat.le_of_lt h),Jq,Qa t i _ h,aLB,QoQ _ (YZ I i),aLc,wsucc h I,QN];split<;>rfl
structure Right (t:List TN):Prop where
 len:t.length<=60
 id:∀i (h:i<t.length),1<=t[i].1
 prev:∀i (h:i<t.length),t[i].2.1 ≠ 0->∃j,∃(hj:j<i),(t[j]'(by omega)).1=t[i].2.1
theorem Zh {t:List TN} (h:Ze t=0):Right t:=by
 unfold Ze at h;by_cases U:(60:Int)<(t.length:Int)
 ·rw[if_pos U] at h;cases h
 ·rw[if_neg U] at h
  have hc:=YI h
  refine⟨by omega,fun i hi=>?_,fun i hi hp=>?_⟩
  ·have:=hc i _ (aLf hi)
   unfold Qg5 at this;split at this
   ·rename_i hh
    simp only[aLg,mIn,aLF] at hh;exact hh.1.1
   ·cases this
  ·have:=hc i _ (aLf hi)
   unfold Qg5 at this;split at this
   ·split at this
    ·(try rw[if_neg hp] at this)
     split at this
     ·cases this
     ·rename_i hq
      unfold idT at hq;have I:(t.take i).any (fun n=>decide (n.1=t[i].2.1))=true:=by
       rw[<-Zy];simp;omega
      obtain⟨k,hk,_,J,_⟩:=Qa6 I;simp only[aLn] at hk;rw[aMw] at J;exact⟨k,by omega,by simpa using J⟩
    ·cases this
   ·cases this
def up (t:List TN):Nat->Int->List Int
 | 0,_=>[]
 | n+1,b=>if idT t b<0 then [] else b::up t n (List.getD t (Int.toNat (idT t b)) (0,(0,0))).2.1
theorem QqE (t:List TN):∀n b,(up t n b).length<=n
 | 0,b=>by simp[up]
 | n+1,b=>by
  unfold up;split
  ·simp
  ·simp[QqE t n]
theorem Qal {t:List TN} {b:Int} (h:¬idT t b<0):∃(k:Nat) (hk:k<t.length),idT t b=(k:Int)/\t[k].1=b/\∀j (hj:j<k),(t[j]'(by omega)).1 ≠ b:=by
 have I:t.any (fun n=>decide (n.1=b))=true:=by
  rw[<-Zy];unfold idT at h;simp;omega
 obtain⟨k,hk,h1,h2,h3⟩:=Qa6 I;exact⟨k,hk,h1,by simpa using h2,fun j hj=>by simpa using h3 j hj⟩
theorem Qpx {t:List TN} {b:Int} {j:Nat} (hj:j<t.length) (h:t[j].1=b):¬idT t b<0/\idT t b<=(j:Int):=by
 have h1:¬idT t b<0:=by
  intro hh;have:=(Qfm _ _).1 hh
  rw[aMI] at this;exact this _ (aLl hj) (by simpa using h)
 refine⟨h1,?_⟩;obtain⟨k,hk,h2,h3,h4⟩:=Qal h1;rw[h2];rcases aMg j k with hh | hh
 ·exact absurd h (h4 j hh)
 ·omega
def pos (t:List TN) (b:Int):Nat:=(idT t b+1).toNat
theorem Right.zero {t:List TN} (h:Right t):idT t 0<0:=by
 rcases Int.lt_or_le (idT t 0) 0 with hh | hh
 ·exact hh
 ·obtain⟨k,hk,_,h3,_⟩:=Qal (t:=t) (b:=0) (by omega)
  have:=h.id k hk;omega
theorem Right.down {t:List TN} (h:Right t) {b:Int} (hb:¬idT t b<0):pos t (List.getD t (Int.toNat (idT t b)) (0,(0,0))).2.1<pos t b:=by
 obtain⟨k,hk,h1,h2,h3⟩:=Qal hb;rw[h1,aMd,getD_at t k _ hk];unfold pos;rw[h1];by_cases J:t[k].2.1=0
 ·rw[J];have:=h.zero;omega
 ·obtain⟨j,hj,I⟩:=h.prev k hk J
  obtain⟨_,h5⟩:=Qpx (t:=t) (j:=j) (by omega) I
  omega
theorem QiN (t:List TN) (b:Int):pos t b<=t.length:=by
 unfold pos;rcases Int.lt_or_le (idT t b) 0 with hh | hh
 ·have:=(QiP _ _).1 hh;unfold idT;rw[this];simp
 ·obtain⟨k,hk,h1,_⟩:=Qal (t:=t) (b:=b) (by omega)
  rw[h1];omega
def QgF (t:List TN) (a b:Int):Bool:=decide (a ∈ up t t.length b)
theorem QiC (t:List TN) (ht:t.length<BIG) (hR:Right t) (a b:Int):QbS t a b=some (QgF t a b):=by
 unfold QbS QgF;generalize U:(fun (s10:Int)=>_)=f
 have key:∀(n:Nat) (b:Int),pos t b<=n->((Qc f b).bind fun (j12:Unit⊕Bool)=>Sum.elim (fun _=>some false) (fun j=>some j) j12)=some (decide (a ∈ up t n b)):=by
  intro n;induction n with
  | zero=>
   intro b hb;have I:idT t b<0:=by unfold pos at hb;omega
   by_cases h0:b=0
   ·rw[Qe (x:=inl ()) (by rw[<-U];simp[h0])];simp[up]
   ·rw[Qe (x:=inr false) (by rw[<-U];simp[h0,JC t ht,I])];simp[up]
  | succ n ih=>
   intro b hb;unfold up;by_cases I:idT t b<0
   ·rw[if_pos I]
    by_cases h0:b=0
    ·rw[Qe (x:=inl ()) (by rw[<-U];simp[h0])];simp
    ·rw[Qe (x:=inr false) (by rw[<-U];simp[h0,JC t ht,I])];simp
   ·rw[if_neg I]
    have h0:b ≠ 0:=by rintro rfl;exact I hR.zero
    by_cases J:a=b
    ·rw[Qe (x:=inr true) (by rw[<-U];simp[h0,JC t ht,I,J])];simp[J]
    ·rw[Qo (s':=(List.getD t (Int.toNat (idT t b)) (0,(0,0))).2.1) (by rw[<-U];simp[h0,JC t ht,I,J,Qgl I]),ih _ (by have:=hR.down I;omega)]
     simp[J]
 exact key t.length b (QiN t b)
theorem QgM (t:List TN) (U:Right t) (b:Int):QaP t b=some (up t t.length b).reverse:=by
 have ht:t.length<BIG:=by have:=U.len;unfold BIG;omega
 unfold QaP;rw[JT t ht,aLc];generalize hf:(fun (s11:List Int×Int)=>_)=f
 have key:∀(n:Nat) (b:Int) (acc:List Int),pos t b<=n->acc.length+n<=60->Qc f (acc,idT t b)=some (acc++up t n b):=by
  intro n;induction n with
  | zero=>
   intro b acc hb hl;have I:idT t b<0:=by unfold pos at hb;omega
   rw[Qe (x:=acc) (by rw[<-hf];simp[show ¬0<=idT t b by omega])];simp[up]
  | succ n ih=>
   intro b acc hb hl;unfold up;by_cases I:idT t b<0
   ·rw[if_pos I,Qe (x:=acc) (by rw[<-hf];simp[show ¬0<=idT t b by omega])];simp
   ·rw[if_neg I]
    obtain⟨k,hk,h1,h2,h3⟩:=Qal I;have hid:(List.getD t (Int.toNat (idT t b)) (0,(0,0))).1=b:=by rw[h1,aMd,getD_at t k _ hk,h2]
    have J:decide (List.length acc+List.length [b]<=LIM)=true:=QnE acc b 60 (by omega) (by decide)
    rw[Qo (s':=(acc++[b],idT t (List.getD t (Int.toNat (idT t b)) (0,(0,0))).2.1)) (by
     rw[<-hf];simp only[show decide (0<=idT t b)=true by simp;omega,aLB,Qgl I,hid,J,JT t ht,aLc];rfl),ih _ _ (by have:=U.down I;omega) (by simp;omega)]
    simp
 rw[key t.length b [] (QiN t b) (by simpa using U.len),aLc]
 unfold QbA;have hl:=QqE t t.length b
 have:=U.len
 rw[show Nat.ble (List.length ([]++up t t.length b)) 9223372036854775807=true from by rw[Nat.ble_eq];simp;omega]
 simp
theorem Qiz (t:List TN) (I:Right t) (a b:Int):QbO t a b=some (QgF t a b):=by
 unfold QbO QgF;have J:=QqE t t.length b
 have:=I.len
 rw[QgM t I,aLc,Qeh _ (by rw[List.length_reverse];unfold BIG;omega)]
 simp
def mRel (t:List TN) (a b:Int):Bool:=QgF t a b || QgF t b a
theorem Quk (t:List TN) (a b:Int):mRel t a b=mRel t b a:=Bool.or_comm _ _
theorem QiB (t:List TN) (I:Right t) (a b:Int):QbN t a b=some (mRel t a b):=by
 unfold QbN mRel;rw[Qiz t I,Qiz t I];cases QgF t a b<;>rfl
theorem Jf {t:List TN} (I:Right t):t.length<BIG:=by have:=I.len;unfold BIG;omega
theorem QhO (t:List TN) (I:Right t) (a b:Int):Qax t a b=some (mRel t a b):=by
 unfold Qax mRel;rw[QiC t (Jf I) I,QiC t (Jf I) I];cases QgF t a b<;>rfl
theorem Qki {t:List TN} (h:Ze t=0):∀i (hi:i<t.length),1<=t[i].2.2/\t[i].2.2<=40:=by
 unfold Ze at h;by_cases I:(60:Int)<(t.length:Int)
 ·rw[if_pos I] at h;cases h
 ·rw[if_neg I] at h
  intro i hi;have:=YI h i _ (aLf hi)
  unfold Qg5 at this;split at this
  ·rename_i hh
   simp only[aLg,mIn,aLF] at hh;exact hh.2
  ·cases this
def Qgq (t:List TN) (k:Int):Int:=(List.getD t (Int.toNat (idT t k)) (0,(0,0))).2.2
def mBad (t:List TN) (n:TN) (k:Int):Bool:=!mRel t k n.1 || decide (n.2.2<Qgq t k)
def Qgw (t:List TN) (n:TN) (l:List Int):Bool:=!l.any (mBad t n)
theorem QoI (t:List TN) (J:Right t) (n:TN) (l:List Int) (U:l.length<BIG) (I:∀k,k ∈ l->¬idT t k<0):Qe5 t n l=some (Qgw t n l):=by
 unfold Qe5 Qgw;rw[JA l (fun _ k=>if mBad t n k then some false else none) _ (fun i h=>?_) (by simp only[dge,aLC]),Qfw,Qaf]
 ·cases l.any (mBad t n)<;>rfl
 ·simp only[dlt h,Qb _ i h,Qa _ i _ h,aLB,QhO t J,JC t (Jf J),aLc,wsucc h U,Qgl (I _ (aLl h))]
  unfold mBad Qgq;rw[Quk t l[i] n.1];cases mRel t n.1 l[i]
  ·rfl
  ·generalize (List.getD t (Int.toNat (idT t l[i])) (0,(0,0))).2.2=hh
   by_cases hd:n.2.2<hh<;>simp[hd]
theorem QqQ (t:List TN) (J:Right t) (n:TN) (k:Int) (I:¬idT t k<0):Qcu k t n=some (mBad t n k):=by
 unfold Qcu mBad Qgq;simp only[QiB t J,JT t (Jf J),aLc,Qgl I,aLB];cases mRel t k n.1
 ·rfl
 ·by_cases hd:n.2.2<(List.getD t (Int.toNat (idT t k)) (0,(0,0))).2.2<;>simp[hd]
def Js (t:List TN) (l:List Int) (b n:TN):TN:=if Qgw t n l&&decide (b.2.2<n.2.2) then n else b
theorem QjK (t:List TN) (J:Right t) (l:List Int) (U:l.length<BIG) (I:∀k,k ∈ l->¬idT t k<0):QaY t l=some (t.foldl (Js t l) (0,0,0)).1:=by
 unfold QaY;rw[Zx t (Js t l) (fun b i=>(i,b)) (fun b=>b) (fun _ _=>True) _ (fun i h b _=>?_) (fun b _=>by simp only[dge,aLC]) (0,0,0) trivial]
 ·rfl
 ·refine⟨?_,trivial⟩
  simp only[dlt h,Qb _ i h,Qa _ i _ h,aLB,wsucc h (Jf J)];rw[QdI l U (mBad t t[i]) _ (fun k hk=>by rw[QqQ t J _ _ (I k hk)];rfl),aLc]
  unfold Js Qgw;cases l.any (mBad t t[i])
  ·by_cases hd:b.2.2<t[i].2.2<;>simp[hd]
  ·simp
theorem QjQ (t:List TN) (hR:Right t) (hH:∀i (hi:i<t.length),1<=t[i].2.2) (l:List Int) (hl:l.length<BIG) (hin:∀k,k ∈ l->¬idT t k<0):QaS t l=some (t.foldl (Js t l) (0,0,0)).1:=by
 unfold QaS;generalize hf:(fun (s23:Int×Int)=>_)=f
 have hB:=Jf hR
 have key:∀(n i:Nat) (k:Int) (b:TN),i+n=t.length->((k = -1/\b=(0,0,0))\/∃(j:Nat) (hj:j<t.length),k=(j:Int)/\b=t[j])->
   ∃k',Qc f (k,(i:Int))=some k'/\((k' = -1/\(t.drop i).foldl (Js t l) b=(0,0,0))\/∃(j:Nat) (hj:j<t.length),k'=(j:Int)/\(t.drop i).foldl (Js t l) b=t[j]):=by
  intro n;induction n with
  | zero=>
   intro i k b hi J;obtain rfl:i=t.length:=by omega
   refine⟨k,Qe (by rw[<-hf];simp only[dge,aLC]),?_⟩
   rw[aMr];exact J
  | succ n ih=>
   intro i k b hi J;have h:i<t.length:=by omega
   rw[aLr h,List.foldl_cons];have U:f (k,(i:Int))=some (.inl (if Qgw t t[i] l&&decide (b.2.2<t[i].2.2) then (i:Int) else k,((i+1:Nat):Int))):=by
    rw[<-hf];simp only[dlt h,Qb _ i h,Qa _ i _ h,aLB,QoI t hR _ l hl hin,aLc,wsucc h hB];rcases J with ⟨rfl,rfl⟩ | ⟨j,hj,rfl,rfl⟩
    ·have h1:=hH i h
     have hd:(0:Int)<t[i].2.2:=by omega
     cases Qgw t t[i] l<;>simp[hd]
    ·have I:¬(j:Int)<0:=by omega
     cases Qgw t t[i] l
     ·simp
     ·simp only[I,aMD,aLB,aLC,Qb _ j hj,Qa _ j _ hj,aLc,aMz]
      by_cases hd:t[j].2.2<t[i].2.2<;>simp[hd]
   obtain⟨k',h1,h2⟩:=ih (i+1) (if Qgw t t[i] l&&decide (b.2.2<t[i].2.2) then (i:Int) else k) (Js t l b t[i]) (by omega) (by
    unfold Js;cases hq:Qgw t t[i] l&&decide (b.2.2<t[i].2.2) with
    | true=>exact .inr ⟨i,h,by simp,by simp⟩
    | false=>simpa using J)
   exact⟨k',(Qo U).trans h1,h2⟩
 obtain⟨k',h1,h2⟩:=key t.length 0 (-1) (0,0,0) (by omega) (.inl ⟨rfl,rfl⟩)
 rw[show ((0:Nat):Int)=0 from rfl] at h1
 rw[h1,aLc];simp only[aMt] at h2;rcases h2 with ⟨rfl,h2⟩ | ⟨j,hj,rfl,h2⟩
 ·rw[h2];rfl
 ·rw[h2]
  have I:¬(j:Int)<0:=by omega
  simp only[I,aMD,aLC,Qb _ j hj,Qa _ j _ hj,aLB]
theorem Qur {t:List TN} {b:Int} {i:Nat} (hi:i<=t.length) (h:¬idT (t.take i) b<0):idT t b=idT (t.take i) b:=by
 obtain⟨k,hk,h1,h2,h3⟩:=Qal h;rw[aLn] at hk;rw[aMw] at h2;obtain⟨n1,n2⟩:=Qpx (t:=t) (j:=k) (by omega) h2
 obtain⟨k',U,I,J,h3'⟩:=Qal n1;rw[h1,I];rcases aMg k' k with hh | hh
 ·have:=h3 k' hh
  rw[aMw] at this;exact absurd J this
 ·rw[I] at n2;omega
structure Qtu (t:List TN) (n:TN):Prop where
 id:1<=n.1/\n.1<=60
 h:1<=n.2.2/\n.2.2<=40
 up:n.2.1 ≠ 0->¬idT t n.2.1<0/\n.2.2=Qgq t n.2.1+1
theorem Qwn {t:List TN} (h:Ze t=0) (i:Nat) (hi:i<t.length):Qtu t t[i]:=by
 have hR:=Zh h
 have J:=Qki h
 unfold Ze at h;by_cases hl:(60:Int)<(t.length:Int)
 ·rw[if_pos hl] at h;cases h
 ·rw[if_neg hl] at h
  have I:=YI h i _ (aLf hi)
  unfold Qg5 at I;split at I
  ·rename_i hh
   rw[aLg,Qz,Qz] at hh;refine⟨hh.1,hh.2,fun hp=>?_⟩
   split at I
   ·(try rw[if_neg hp] at I)
    split at I
    ·cases I
    ·rename_i U
     have he:=Qur (Nat.le_of_lt hi) U
     refine⟨by rw[he];exact U,?_⟩
     split at I
     ·rename_i hv
      unfold Qgq;rw[he];obtain⟨k,hk,k1,k2,_⟩:=Qal U;rw[aLn] at hk;rw[k1,aMd] at hv ⊢;have e1:List.getD (t.take i) k (0,(0,0))=t[k]:=by rw[getD_at _ k _ (by rw[aLn];omega),aMw]
      rw[e1] at hv;rw[getD_at t k _ (by omega)]
      have q:=J k (by omega)
      rw[hv];exact Qy (by omega) (by omega)
     ·cases I
   ·cases I
  ·cases I
theorem QiT {t:List TN} (h:Ze t=0) {b:Int} (hb:¬idT t b<0):Qtu t (List.getD t (Int.toNat (idT t b)) (0,(0,0)))/\(List.getD t (Int.toNat (idT t b)) (0,(0,0))).1=b:=by
 obtain⟨k,hk,h1,h2,_⟩:=Qal hb;rw[h1,aMd,getD_at t k _ hk];exact⟨Qwn h k hk,h2⟩
theorem Qrw {t:List TN} (h:Ze t=0):∀(n:Nat) (b:Int),¬idT t b<0->((up t n b).length:Int)<=Qgq t b
 | 0,b,hb=>by
  have:=(QiT h hb).1.h
  show ((0:Nat):Int)<=_
  unfold Qgq;omega
 | n+1,b,hb=>by
  unfold up;rw[if_neg hb,aLh];have I:=(QiT h hb).1
  have h1:=I.h
  by_cases J:(List.getD t (Int.toNat (idT t b)) (0,(0,0))).2.1=0
  ·rw[J]
   have:up t n 0=[]:=by
    cases n with
    | zero=>rfl
    | succ n=>unfold up;rw[if_pos (Zh h).zero]
   rw[this];unfold Qgq;show ((0+1:Nat):Int)<=_
   omega
  ·obtain⟨U,q2⟩:=I.up J
   have:=Qrw h n _ U
   unfold Qgq at this ⊢ q2;omega
theorem QuY {t:List TN} (h:Ze t=0) (b:Int):(up t t.length b).length<=40:=by
 by_cases hb:idT t b<0
 ·have:up t t.length b=[]:=by
   cases t.length with
   | zero=>rfl
   | succ n=>unfold up;rw[if_pos hb]
  rw[this];simp
 ·have h1:=Qrw h t.length b hb
  have h2:=(QiT h hb).1.h
  unfold Qgq at h1;omega
def Qf (t:List TN) (b:Int):List Int:=(up t t.length b).reverse
theorem QgN {t:List TN} (h:Ze t=0) {b:Int} (hb:b=0\/¬idT t b<0):QaX t b=some (Qf t b):=by
 have hR:=Zh h
 have hB:=Jf hR
 have J:=hR.len
 unfold QaX Qf;generalize hf:(fun (s8:Int×List Int)=>_)=f
 have key:∀(n:Nat) (b:Int) (acc:List Int),(b=0\/¬idT t b<0)->pos t b<=n->acc.length+n<=60->Qc f (b,acc)=some ((up t n b).reverse++acc):=by
  intro n;induction n with
  | zero=>
   intro b acc hb U hl;have I:idT t b<0:=by unfold pos at U;omega
   rcases hb with rfl | hb
   ·exact Qe (by rw[<-hf];simp[up])
   ·exact absurd I hb
  | succ n ih=>
   intro b acc hb U hl;unfold up;by_cases I:idT t b<0
   ·rcases hb with rfl | hb
    ·rw[if_pos I];exact Qe (by rw[<-hf];simp)
    ·exact absurd I hb
   ·rw[if_neg I]
    have h0:b ≠ 0:=by rintro rfl;exact I hR.zero
    have hn:=(QiT h I).1
    rw[Qo (s':=((List.getD t (Int.toNat (idT t b)) (0,(0,0))).2.1,b::acc)) (by
     rw[<-hf];simp only[h0,aMD,aMB,aLB,JC t hB,aLc,Qgl I];rw[Qj (by simp only[aLh,aLj];unfold LIM;omega)];rfl),ih _ _ (by
      by_cases U:(List.getD t (Int.toNat (idT t b)) (0,(0,0))).2.1=0
      ·exact .inl U
      ·exact .inr (hn.up U).1) (by have:=hR.down I;omega) (by simp;omega)]
    simp
 rw[key t.length b [] hb (QiN t b) (by simpa using J),aLc,List.append_nil]
def noSt:TState:=(0,(0,([],[])))
theorem QiK:okSt noSt:=⟨rfl,by refine⟨?_,by decide⟩;unfold Qai;simp[noSt]⟩
noncomputable def Q3 (l:TL):List Int->Int->List TUn->TState->TRs×List TUn
 | [],f,us,S=>((0,(f,((0,([],[])),S))),us)
 | i::r,f,us,S=>if (Qk l S i).1=0 then Q3 l r (wrap .i64 (f+(Qk l S i).2.1)) (us++[(Qk l S i).2.2.1]) (Qk l S i).2.2.2 else (badR (Qk l S i).1,[])
noncomputable def Qp (l:TL) (ids:List Int):TRs×List TUn:=Q3 l ids 0 [] noSt
theorem QwI {l:TL} (U:mLF l=0) {ids:List Int} (hn:ids.length<=40):JK l ids=some (Qp l ids):=by
 have hB:BIG=4611686018427387904:=rfl
 unfold JK Qp;generalize hg:(fun (s10:List TUn×Int×TRs)=>_)=g
 have key:∀(d i:Nat) (f:Int) (us:List TUn) (S:TState),i+d=ids.length->okSt S->us.length=i->Qc g (us,((i:Int),(0,(f,((0,([],[])),S)))))=some (if (Q3 l (ids.drop i) f us S).1.1=0 then inl ((Q3 l (ids.drop i) f us S).2,(Q3 l (ids.drop i) f us S).1) else inr ((Q3 l (ids.drop i) f us S).2,(Q3 l (ids.drop i) f us S).1)):=by
  intro d;induction d with
  | zero=>
   intro i f us S hi _ _;obtain rfl:i=ids.length:=by omega
   rw[Qe (show g (us,((ids.length:Int),(0,(f,((0,([],[])),S)))))=some (.inr (.inl (us,(0,(f,((0,([],[])),S)))))) by rw[<-hg];simp only[dge,aLC]),aMr]
   rfl
  | succ d ih=>
   intro i f us S hi hS hu;have J:i<ids.length:=by omega
   rw[aLr J];unfold Q3;have I:g (us,((i:Int),(0,(f,((0,([],[])),S)))))=if (Qk l S ids[i]).1=0 then some (.inl (us++[(Qk l S ids[i]).2.2.1],(((i+1:Nat):Int),(0,(wrap .i64 (f+(Qk l S ids[i]).2.1),((0,([],[])),(Qk l S ids[i]).2.2.2)))))) else some (.inr (.inr ([],badR (Qk l S ids[i]).1))):=by
    rw[<-hg];simp only[dlt J,Qb _ i J,Qa _ i _ J,aLB,QnX U hS,aLc,wsucc J (show ids.length<BIG by omega),QN]
    split
    ·rw[Qj (by simp only[aLh,aLj];unfold LIM;omega)];rfl
    ·rfl
   by_cases hd:(Qk l S ids[i]).1=0
   ·rw[if_pos hd] at I ⊢
    rw[Qo I,ih (i+1) _ _ _ (by omega) (Qa5 U hS hd).1 (by simp[hu])]
   ·rw[if_neg hd] at I ⊢
    rw[Qe I];show _=some (if (Qk l S ids[i]).1=0 then _ else _)
    rw[if_neg hd]
 have:=key ids.length 0 0 [] noSt (by omega) QiK rfl
 rw[aMt] at this;show ((Qc g ([],(0,(0,(0,((0,([],[])),noSt)))))).bind _)=_
 rw[show ((0:Nat):Int)=0 from rfl] at this
 rw[this,aLc];split<;>rfl
theorem Qko {l:TL} (U:mLF l=0) {ids:List Int} (hn:ids.length<=40):Qad l ids=some (Qp l ids).1:=by
 have hB:BIG=4611686018427387904:=rfl
 unfold Qad Qp;obtain⟨_,_,b1,b2⟩:=Qkm U;rw[aLD (by omega),aLC,Qam l (by omega) (by omega),aLc,QN,if_pos U]
 generalize hg:(fun (s21:Int×TL×TRs)=>_)=g
 have key:∀(d i:Nat) (f:Int) (us:List TUn) (S:TState),i+d=ids.length->okSt S->Qc g ((i:Int),(l,(0,(f,((0,([],[])),S)))))=some (if (Q3 l (ids.drop i) f us S).1.1=0 then inl (Q3 l (ids.drop i) f us S).1 else inr (Q3 l (ids.drop i) f us S).1):=by
  intro d;induction d with
  | zero=>
   intro i f us S hi _;obtain rfl:i=ids.length:=by omega
   rw[Qe (show g ((ids.length:Int),(l,(0,(f,((0,([],[])),S)))))=some (.inr (.inl (0,(f,((0,([],[])),S))))) by rw[<-hg];simp only[dge,aLC]),aMr]
   rfl
  | succ d ih=>
   intro i f us S hi hS;have J:i<ids.length:=by omega
   rw[aLr J];unfold Q3;have I:g ((i:Int),(l,(0,(f,((0,([],[])),S)))))=if (Qk l S ids[i]).1=0 then some (.inl (((i+1:Nat):Int),(l,(0,(wrap .i64 (f+(Qk l S ids[i]).2.1),((0,([],[])),(Qk l S ids[i]).2.2.2)))))) else some (.inr (.inr (badR (Qk l S ids[i]).1))):=by
    rw[<-hg];simp only[dlt J,Qb _ i J,Qa _ i _ J,aLB,Qiu U hS,aLc,wsucc J (show ids.length<BIG by omega),QN,Qnn]
   by_cases hd:(Qk l S ids[i]).1=0
   ·rw[if_pos hd] at I ⊢
    rw[Qo I,ih (i+1) _ (us++[(Qk l S ids[i]).2.2.1]) _ (by omega) (Qa5 U hS hd).1]
   ·rw[if_neg hd] at I ⊢
    rw[Qe I];show _=some (if (Qk l S ids[i]).1=0 then _ else _)
    rw[if_neg hd]
 have:=key ids.length 0 0 [] noSt (by omega) QiK
 rw[aMt] at this;show ((Qc g (0,(l,(0,(0,((0,([],[])),noSt)))))).bind _)=_
 rw[show ((0:Nat):Int)=0 from rfl] at this
 rw[this,aLc];split<;>rfl
theorem Qpi {S:TState} (I:okSt S):QiS S:=
 ⟨⟨by have:=(Zf I.c).1;omega,fun c J=>⟨by have:=Zz I.c c J;omega,fun _ _=>trivial⟩⟩,⟨by have:=I.m.2;omega,fun _ _=>trivial⟩⟩
theorem Qt2 {l:TL} (J:mLF l=0) {h:Int} (hh:mIn h 0 999=true):∀(ids:List Int) (f:Int) (sp:List (List TCoin)) (S:TState),okSt S->(∀s,s ∈ sp->bL JD s)->∀s,s ∈ (mDos l h ids f sp S).2.2.1->bL JD s
 | [],f,sp,S,_,h0=>h0
 | i::r,f,sp,S,U,h0=>by
  unfold mDos;by_cases hd:(mDo l S i h).2.2.1=0
  ·rw[if_pos hd]
   refine Qt2 J hh r _ _ _ (Qjt J U hh hd).1 fun s I=>?_
   rcases aMi.1 I with I | I
   ·exact h0 s I
   ·rw[aLs.1 I]
    have hb:=(Qpi U).1
    unfold mDo;split
    ·split
     ·split
      ·split
       ·exact⟨Nat.le_trans (aME _ _) hb.1,fun c hc=>hb.2 c (QkI hc)⟩
       ·exact⟨by simp,fun _ h=>by simp at h⟩
      ·exact⟨by simp,fun _ h=>by simp at h⟩
     ·exact⟨by simp,fun _ h=>by simp at h⟩
    ·exact⟨by simp,fun _ h=>by simp at h⟩
  ·rw[if_neg hd]
   intro s I;simp at I
theorem QtC {l:TL} (J:mLF l=0) {S:TState} (I:okSt S) {id:Int} (h0:(Qk l S id).1=0):Qa8 (Qk l S id).2.2.1:=by
 unfold Qk at h0 ⊢;by_cases h1:(mBI l id).2=0
 ·rw[if_pos h1] at h0 ⊢
  obtain⟨hb,hid,hh,hk,hd⟩:=Qce J I h1;have U:=Qt2 J hh (mBI l id).1.2.2.2 0 [] S I (fun s hs=>by simp at hs)
  by_cases h2:(mBI l id).1.1=S.1/\(mBI l id).1.2.1=wrap .i64 (S.2.1+1)
  ·rw[if_pos h2] at h0 ⊢
   have hn:=hb.n
   have hlen:=fun h=>(QgK J hh (mBI l id).1.2.2.2 0 [] S I (by omega) (by omega) h).2.2.2
   generalize mDos l (mBI l id).1.2.1 (mBI l id).1.2.2.2 0 [] S=q at *;by_cases h3:q.1=0
   ·rw[if_pos h3] at h0 ⊢
    have hlen:=hlen h3
    by_cases h4:1000000<mRw (mBI l id).1.2.1+q.2.1
    ·rw[if_pos h4] at h0;cases h0
    ·rw[if_neg h4] at h0 ⊢
     by_cases h5:(JZ q.2.2.2.2.2.1 id [(mRw (mBI l id).1.2.1+q.2.1,([(mBI l id).1.2.2.1],(1,0)))] (mBI l id).1.2.1 true).2=0
     ·rw[if_pos h5]
      exact⟨⟨by show q.2.2.1.length<=_;rw[hlen];simp only[aLj];omega,U⟩,⟨by have:=I.m.2;show S.2.2.2.length<=_;omega,fun _ _=>trivial⟩⟩
     ·rw[if_neg h5] at h0;exact absurd h0 h5
   ·rw[if_neg h3] at h0;exact absurd h0 h3
  ·rw[if_neg h2] at h0;cases h0
 ·rw[if_neg h1] at h0;exact absurd h0 h1
theorem Qmh {l:TL} (U:mLF l=0):∀(ids:List Int) (f:Int) (us:List TUn) (S:TState),okSt S->(∀u,u ∈ us->Qa8 u)->(Q3 l ids f us S).1.1=0->
  okSt (Q3 l ids f us S).1.2.2.2/\(Q3 l ids f us S).2.length=us.length+ids.length/\(∀u,u ∈ (Q3 l ids f us S).2->Qa8 u)
 | [],f,us,S,J,h0,_=>⟨J,rfl,h0⟩
 | i::r,f,us,S,J,h0,I=>by
  unfold Q3 at I ⊢;by_cases hd:(Qk l S i).1=0
  ·rw[if_pos hd] at I ⊢
   obtain⟨a,b,c⟩:=Qmh U r _ (us++[(Qk l S i).2.2.1]) _ (Qa5 U J hd).1 (fun u hu=>by
    rcases aMi.1 hu with hu | hu
    ·exact h0 u hu
    ·rw[aLs.1 hu];exact QtC U J hd) I
   exact⟨a,by rw[b,aLi,aMj,aLh];omega,c⟩
  ·rw[if_neg hd] at I;exact absurd I hd
theorem QnR (l:TL):∀(ids:List Int) (f:Int) (us:List TUn) (S:TState),(Q3 l ids f us S).1.1=0->∀i (hi:i<us.length),(Q3 l ids f us S).2[i]? = some us[i]
 | [],f,us,S,_,i,hi=>aLf hi
 | k::r,f,us,S,I,i,hi=>by
  unfold Q3 at I ⊢;by_cases hd:(Qk l S k).1=0
  ·rw[if_pos hd] at I ⊢
   rw[QnR l r _ _ _ I i (by rw[aLi];omega),List.getElem_append_left hi]
  ·rw[if_neg hd] at I;exact absurd I hd
theorem Yw (x y:List (List TCoin)) (g:(List TCoin)->(List TCoin)->Option Bool) (hg:∀a b,(bL JD) a->g a b=some (decide (a=b))) (U:bL (bL JD) x):Qx x y g=some (decide (x=y)):=by
 unfold Qx;by_cases I:x.length=y.length
 ·have J:decide ((x.length:Int)=(y.length:Int))=true:=by simp[I]
  rw[J,aMa,aLC];refine YH x y I _ (fun i h h'=>?_) (by simp only[dge,aLC])
  simp only[dlt h,Qb x i h,Qb y i h',Qa x i _ h,Qa y i _ h',aLB,QQ i _ h U.1,hg _ _ (U.2 _ (aLl h)),aLc];exact Jc _
 ·have J:decide ((x.length:Int)=(y.length:Int))=false:=aLD (fun h=>I (by omega))
  rw[J,Y9 I];rfl
theorem QlU (x y:TUn) (I:Qa8 x):QcB x y=some (decide (x=y)):=by
 unfold QcB;obtain⟨J,a2,a3⟩:=x;obtain⟨U,b2,b3⟩:=y;rw[Yw _ _ _ (fun a b ha=>by rw[QhL a b ha];rfl) I.1,Qgz _ _ I.2]
 by_cases h1:J=U<;>by_cases h2:a2=b2<;>by_cases h3:a3=b3<;>simp[h1,h2,h3]
theorem Y2 (x y:List TUn) (g:TUn->TUn->Option Bool) (hg:∀a b,Qa8 a->g a b=some (decide (a=b))) (U:bL Qa8 x):QF x y g=some (decide (x=y)):=by
 unfold QF;by_cases I:x.length=y.length
 ·have J:decide ((x.length:Int)=(y.length:Int))=true:=by simp[I]
  rw[J,aMa,aLC];refine YH x y I _ (fun i h h'=>?_) (by simp only[dge,aLC])
  simp only[dlt h,Qb x i h,Qb y i h',Qa x i _ h,Qa y i _ h',aLB,QQ i _ h U.1,hg _ _ (U.2 _ (aLl h)),aLc];exact Jc _
 ·have J:decide ((x.length:Int)=(y.length:Int))=false:=aLD (fun h=>I (by omega))
  rw[J,Y9 I];rfl
theorem Qo5 (x y:TUn) (U:Qa8 x):Qa4 x y=some (decide (x=y)):=by
 unfold Qa4;rw[QjI _ _ U.2];by_cases h1:x.1=y.1
 ·by_cases I:x.2.1.length=y.2.1.length
  ·have J:decide ((x.2.1.length:Int)=(y.2.1.length:Int))=true:=by simp[I]
   by_cases h3:x.2.2=y.2.2
   ·rw[J,aLE h1,aLE h3]
    simp only[aMa,aLC,aLc];rw[YH x.2.1 y.2.1 I _ (fun i h h'=>?_) (by simp only[dge,aLC])]
    ·congr 1
     rw[decide_eq_decide];exact⟨fun h=>Prod.ext h1 (Prod.ext h h3),fun h=>by rw[h]⟩
    ·simp only[dlt h,Qb _ i h,Qb _ i h',Qa _ i _ h,Qa _ i _ h',aLB,QQ i _ h U.1.1,QjM _ _ (U.1.2 _ (aLl h)),aLc]
     exact Jc _
   ·rw[J,aLE h1,aLD h3,aLD (p:=x=y) (fun h=>h3 (by rw[h]))];rfl
  ·have J:decide ((x.2.1.length:Int)=(y.2.1.length:Int))=false:=aLD (fun h=>I (by omega))
   rw[J,aLE h1,aLD (p:=x=y) (fun h=>I (by rw[h]))];rfl
 ·rw[aLD h1,aLD (p:=x=y) (fun h=>h1 (by rw[h]))];rfl
abbrev TC:=TL×List TN×List Int×TState×List TUn
theorem Qap {t:List TN} (h:Ze t=0) (b:Int):(Qf t b).length<=40:=by unfold Qf;rw[List.length_reverse];exact QuY h b
theorem Qqm {c:TC} (J:mLF c.1=0) (I:Ze c.2.1=0) (b:Int):Jl c b=some (Qp c.1 (Qf c.2.1 b)):=by
 unfold Jl;rw[QgM _ (Zh I),aLc];show (JK c.1 (Qf c.2.1 b)).bind _=_
 rw[QwI J (Qap I b),aLc]
noncomputable def mNd (c:TC) (n:TN):Int:=if (mBI c.1 n.1).2=0 then (if (mBI c.1 n.1).1.1=n.2.1/\(mBI c.1 n.1).1.2.1=n.2.2 then (Qp c.1 (Qf c.2.1 n.1)).1.1 else 1) else (mBI c.1 n.1).2
theorem Qnw {t:List TN} (h:Ze t=0) {n:TN} (I:n ∈ t):¬idT t n.1<0:=by
 obtain⟨k,hk,rfl⟩:=aMe.1 I;have:=(Qpx (t:=t) hk rfl).1
 intro h2;revert this;unfold idT at *;omega
theorem QpQ {c:TC} (I:mLF c.1=0) (J:Ze c.2.1=0):Jg c=some (code (fun _ n=>mNd c n) c.2.1):=by
 unfold Jg;refine YD c.2.1 (fun _ n=>mNd c n) _ (fun i hi=>?_) (by simp only[dge,aLC])
 simp only[dlt hi,Qb _ i hi,Qa _ i _ hi,aLB,Qgi (Qaz I),aLc,Qqm I J,wsucc hi (Jf (Zh J)),QN];unfold mNd;generalize c.2.1[i]=n;by_cases h1:(mBI c.1 n.1).2=0<;>by_cases h2:(mBI c.1 n.1).1.1=n.2.1<;>by_cases h3:(mBI c.1 n.1).1.2.1=n.2.2<;>by_cases h4:(Qp c.1 (Qf c.2.1 n.1)).1.1=0<;>simp[h1,h2,h3,h4]
theorem Qso {c:TC} (J:mLF c.1=0) (I:Ze c.2.1=0):Qc9 c=some (code (fun _ n=>mNd c n) c.2.1):=by
 unfold Qc9;refine YD c.2.1 (fun _ n=>mNd c n) _ (fun i hi=>?_) (by simp only[dge,aLC])
 simp only[dlt hi,Qb _ i hi,Qa _ i _ hi,aLB,Qf7 J,aLc,QgN I (.inr (Qnw I (aLl hi))),Qko J (Qap I _),wsucc hi (Jf (Zh I)),QN];unfold mNd;generalize c.2.1[i]=n;by_cases h1:(mBI c.1 n.1).2=0<;>by_cases h2:(mBI c.1 n.1).1.1=n.2.1<;>by_cases h3:(mBI c.1 n.1).1.2.1=n.2.2<;>by_cases h4:(Qp c.1 (Qf c.2.1 n.1)).1.1=0<;>simp[h1,h2,h3,h4]
def mLk (c:TC) (i:Nat) (k:Int):Int:=if idT c.2.1 k<0 then 4 else if (c.2.2.1.take i).any (fun a=>!mRel c.2.1 a k)=true then 10 else 0
theorem Qmk {c:TC} (I:Ze c.2.1=0) (l:List Int) (J:l.length<BIG) (k:Int):YK c l k=some (!l.any (fun a=>!mRel c.2.1 a k)):=by
 unfold YK;rw[QdI l J (fun a=>!mRel c.2.1 a k) _ (fun a _=>by unfold QaK;rw[QiB _ (Zh I)];rfl)];rfl
theorem QnW {t:List TN} (I:Ze t=0) (l:List Int) (J:l.length<BIG) (k:Int):QbT t l k=some (!l.any (fun a=>!mRel t a k)):=by
 unfold QbT;rw[JA l (fun _ a=>if !mRel t a k then some false else none) _ (fun i h=>?_) (by simp only[dge,aLC]),Qfw,Qaf]
 ·cases l.any (fun a=>!mRel t a k)<;>rfl
 ·simp only[dlt h,Qb _ i h,Qa _ i _ h,aLB,QhO t (Zh I),aLc,wsucc h J]
  cases mRel t l[i] k<;>rfl
theorem QpR {c:TC} (I:Ze c.2.1=0) (hk:c.2.2.1.length<BIG):Jh c=some (code (mLk c) c.2.2.1):=by
 unfold Jh;refine YD c.2.2.1 (mLk c) _ (fun i hi=>?_) (by simp only[dge,aLC])
 unfold Qc0;simp only[dlt hi,Qb _ i hi,Qa _ i _ hi,aLB,JT _ (Jf (Zh I)),aLc,ZI _ i (Nat.le_of_lt hi),Jq,Qmk I _ (YZ hk i),wsucc hi hk,QgV];unfold mLk;by_cases h1:idT c.2.1 c.2.2.1[i]<0
 ·simp[h1]
 ·cases J:(c.2.2.1.take i).any (fun a=>!mRel c.2.1 a c.2.2.1[i])<;>simp[h1]
theorem Qr3 {c:TC} (I:Ze c.2.1=0) (hk:c.2.2.1.length<BIG):Qc3 c=some (code (mLk c) c.2.2.1):=by
 unfold Qc3;refine YD c.2.2.1 (mLk c) _ (fun i hi=>?_) (by simp only[dge,aLC])
 simp only[dlt hi,Qb _ i hi,Qa _ i _ hi,aLB,JC _ (Jf (Zh I)),aLc,ZI _ i (Nat.le_of_lt hi),Jq,QnW I _ (YZ hk i),wsucc hi hk];unfold mLk;by_cases h1:idT c.2.1 c.2.2.1[i]<0
 ·simp[h1]
 ·cases J:(c.2.2.1.take i).any (fun a=>!mRel c.2.1 a c.2.2.1[i])<;>simp[h1]
noncomputable def Qbi (c:TC):Int:=(c.2.1.foldl (Js c.2.1 c.2.2.1) (0,0,0)).1
noncomputable def mStC (c:TC):Int:=if c.2.2.2.1.1=Qbi c then (if (Qp c.1 (Qf c.2.1 c.2.2.2.1.1)).1.2.2.2=c.2.2.2.1 then (if (Qp c.1 (Qf c.2.1 c.2.2.2.1.1)).2=c.2.2.2.2 then 0 else 1) else 10) else 10
noncomputable def mChF (c:TC):Int:=if mLF c.1=0 then (if Ze c.2.1=0 then (if (20:Int)<(c.2.2.1.length:Int) then 2 else if code (fun _ n=>mNd c n) c.2.1=0 then (if code (mLk c) c.2.2.1=0 then mStC c else code (mLk c) c.2.2.1) else code (fun _ n=>mNd c n) c.2.1) else Ze c.2.1) else mLF c.1
theorem QqC (t:List TN) (l:List Int):∀(r:List TN) (b:TN),r.foldl (Js t l) b=b\/r.foldl (Js t l) b ∈ r
 | [],b=>.inl rfl
 | n::r,b=>by
  rw[List.foldl_cons];rcases QqC t l r (Js t l b n) with h | h
  ·rw[h];unfold Js
   cases Qgw t n l&&decide (b.2.2<n.2.2)
   ·exact .inl rfl
   ·exact .inr (aLm ..)
  ·exact .inr (aLp _ h)
theorem Qrx (c:TC):Qbi c=0\/∃n,n ∈ c.2.1/\Qbi c=n.1:=by
 unfold Qbi;rcases QqC c.2.1 c.2.2.1 c.2.1 (0,0,0) with h | h
 ·rw[h];exact .inl rfl
 ·exact .inr ⟨_,h,rfl⟩
theorem QgB {t:List TN} (h:Ze t=0):Qf t 0=[]:=by
 unfold Qf;have:up t t.length 0=[]:=by
  cases t.length with
  | zero=>rfl
  | succ n=>unfold up;rw[if_pos (Zh h).zero]
 rw[this];rfl
theorem Qkz {c:TC} (J:code (fun _ n=>mNd c n) c.2.1=0) {n:TN} (h:n ∈ c.2.1):(Qp c.1 (Qf c.2.1 n.1)).1.1=0:=by
 obtain⟨k,hk,rfl⟩:=aMe.1 h;have I:=YI J k _ (aLf hk)
 unfold mNd at I;by_cases h1:(mBI c.1 c.2.1[k].1).2=0
 ·rw[if_pos h1] at I
  split at I
  ·exact I
  ·cases I
 ·rw[if_neg h1] at I;exact absurd I h1
theorem Qik {c:TC} (I:Ze c.2.1=0) (J:code (fun _ n=>mNd c n) c.2.1=0):(Qp c.1 (Qf c.2.1 (Qbi c))).1.1=0/\(Qbi c=0\/¬idT c.2.1 (Qbi c)<0):=by
 rcases Qrx c with h | ⟨n,h1,h2⟩
 ·rw[h,QgB I];exact⟨rfl,.inl rfl⟩
 ·rw[h2];exact⟨Qkz J h1,.inr (Qnw I h1)⟩
theorem QlH {c:TC} (h:code (mLk c) c.2.2.1=0):∀k,k ∈ c.2.2.1->¬idT c.2.1 k<0:=fun k hk I=>by
 obtain⟨i,hi,rfl⟩:=aMe.1 hk;have:=YI h i _ (aLf hi)
 unfold mLk at this;rw[if_pos I] at this;cases this
theorem QrR {l:TL} (I:mLF l=0) {ids:List Int} (h:(Qp l ids).1.1=0):okSt (Qp l ids).1.2.2.2/\(Qp l ids).2.length=ids.length/\∀u,u ∈ (Qp l ids).2->Qa8 u:=by
 obtain⟨a,b,d⟩:=Qmh I ids 0 [] noSt QiK (fun u hu=>by simp at hu) h
 exact⟨a,by unfold Qp;rw[b];simp,d⟩
theorem QkW {c:TC} (b1:c.1.1.length<BIG) (b2:c.1.2.length<BIG) (b3:c.2.1.length<BIG) (b4:c.2.2.1.length<BIG):QbI c=some (mChF c):=by
 unfold QbI mChF;rw[Qkj _ b1 b2,aLc,QN];split
 ·rename_i U
  rw[QlK _ b3,aLc,QN];split
  ·rename_i J
   by_cases I:(20:Int)<(c.2.2.1.length:Int)
   ·rw[aLE I,if_pos I];rfl
   ·rw[aLD I,if_neg I,aLC,QpQ U J,aLc,QN]
    split
    ·rename_i hn
     rw[QpR J b4,aLc,QN];split
     ·rename_i hk
      rw[QjK _ (Zh J) _ b4 (QlH hk),aLc];show (bif !decide (c.2.2.2.1.1=Qbi c) then _ else _)=_
      unfold mStC;by_cases h1:c.2.2.2.1.1=Qbi c
      ·have hf:=(Qik J hn).1
       rw[if_pos h1,aLE h1,aMa,aLC,Qqm U J,aLc];rw[<-h1] at hf;obtain⟨a,b,d⟩:=QrR U hf;have hp:=Qap J c.2.2.2.1.1
       generalize Qp c.1 (Qf c.2.1 c.2.2.2.1.1)=q at *;rw[QkY _ _ (Qpi a),aLc];by_cases h2:q.1.2.2.2=c.2.2.2.1
       ·rw[aLE h2,if_pos h2,aMa,aLC,Y2 _ _ _ (fun a b ha=>by rw[QlU a b ha];rfl) ⟨by omega,d⟩,aLc]
        by_cases h3:q.2=c.2.2.2.2
        ·rw[aLE h3,if_pos h3];rfl
        ·rw[aLD h3,if_neg h3];rfl
       ·rw[aLD h2,if_neg h2];rfl
      ·rw[if_neg h1,aLD h1];rfl
     ·rfl
    ·rfl
  ·rfl
 ·rfl
theorem Qtd {c:TC} (hl:mLF c.1=0) {ids:List Int} (hU:c.2.2.2.2.length=ids.length) (g:Int×TState×TC->Option ((Int×TState×TC)⊕(TC⊕(Int×TC))))
  (I:∀(i:Nat) (h:i<ids.length) (h':i<c.2.2.2.2.length) (S:TState),okSt S->g ((i:Int),(S,c))=if c.2.2.2.2[i]=(Qk c.1 S ids[i]).2.2.1 then some (.inl (((i+1:Nat):Int),((Qk c.1 S ids[i]).2.2.2,c))) else some (.inr (.inr (1,c)))) (U:∀S,g ((ids.length:Int),(S,c))=some (.inr (.inl c))) :
  ∀(d i:Nat) (f:Int) (us:List TUn) (S:TState),i+d=ids.length->okSt S->us.length=i->(Q3 c.1 (ids.drop i) f us S).1.1=0->Qc g ((i:Int),(S,c))=some (if c.2.2.2.2.drop i=(Q3 c.1 (ids.drop i) f us S).2.drop i then .inl c else .inr (1,c)):=by
 intro d;induction d with
 | zero=>
  intro i f us S hi _ hu _;obtain rfl:i=ids.length:=by omega
  rw[Qe (U S),aMr];show _=some (if c.2.2.2.2.drop ids.length=us.drop ids.length then _ else _)
  rw[if_pos (by rw[<-hu,aMr,hu,<-hU,aMr])]
 | succ d ih=>
  intro i f us S hi hS hu J;have hi2:i<ids.length:=by omega
  have hi3:i<c.2.2.2.2.length:=by omega
  rw[aLr hi2] at J ⊢;unfold Q3 at J ⊢;by_cases hd:(Qk c.1 S ids[i]).1=0
  ·rw[if_pos hd] at J ⊢
   have ihh:=ih (i+1) _ (us++[(Qk c.1 S ids[i]).2.2.1]) _ (by omega) (Qa5 hl hS hd).1 (by simp[hu]) J
   have hg:(Q3 c.1 (ids.drop (i+1)) (wrap .i64 (f+(Qk c.1 S ids[i]).2.1)) (us++[(Qk c.1 S ids[i]).2.2.1]) (Qk c.1 S ids[i]).2.2.2).2[i]? = some (Qk c.1 S ids[i]).2.2.1:=by
    rw[QnR _ _ _ _ _ J i (by rw[aLi,aMj];omega)]
    congr 1;subst hu;exact List.getElem_concat_length rfl _
   generalize Q3 c.1 (ids.drop (i+1)) (wrap .i64 (f+(Qk c.1 S ids[i]).2.1)) (us++[(Qk c.1 S ids[i]).2.2.1]) (Qk c.1 S ids[i]).2.2.2=q at *;obtain⟨hlt,he⟩:=aLy.1 hg;have hs:=I i hi2 hi3 S hS
   rw[aLr hlt,aLr hi3,he];by_cases h2:c.2.2.2.2[i]=(Qk c.1 S ids[i]).2.2.1
   ·rw[if_pos h2] at hs
    rw[Qo hs,ihh];by_cases h3:c.2.2.2.2.drop (i+1)=q.2.drop (i+1)
    ·rw[if_pos h3,if_pos (by rw[h2,h3])]
    ·rw[if_neg h3,if_neg (fun h=>h3 (List.cons.inj h).2)]
   ·rw[if_neg h2] at hs
    rw[Qe hs,if_neg (fun h=>h2 (List.cons.inj h).1)]
  ·rw[if_neg hd] at J;exact absurd J hd
theorem QsD {c:TC} (J:mLF c.1=0) (I:Ze c.2.1=0) (b4:c.2.2.1.length<BIG) (hn:code (fun _ n=>mNd c n) c.2.1=0) (hk:code (mLk c) c.2.2.1=0) (hu:bL Qa8 c.2.2.2.2):Qc8 c=some (mStC c,c):=by
 have hB:BIG=4611686018427387904:=rfl
 unfold Qc8;rw[QjQ _ (Zh I) (fun i hi=>(Qki I i hi).1) _ b4 (QlH hk),aLc]
 show (bif !decide (c.2.2.2.1.1=Qbi c) then _ else _)=_
 unfold mStC;by_cases h1:c.2.2.2.1.1=Qbi c
 ·obtain⟨U,hb⟩:=Qik I hn
  rw[<-h1] at U hb;rw[if_pos h1,aLE h1,aMa,aLC,QgN I hb,aLc];have hp:=Qap I c.2.2.2.1.1
  generalize Qf c.2.1 c.2.2.2.1.1=ids at *;rw[Qko J hp,aLc,QN,if_pos U];obtain⟨a,b,d⟩:=QrR J U;rw[QoJ _ _ (Qpi a),aLc];by_cases h2:(Qp c.1 ids).1.2.2.2=c.2.2.2.1
  ·rw[aLE h2,if_pos h2,aMa,aLC]
   by_cases h3:c.2.2.2.2.length=ids.length
   ·rw[aLE (show (c.2.2.2.2.length:Int)=(ids.length:Int) by omega),aMa,aLC]
    generalize hg:(fun (s23:Int×TState×TC)=>_)=g
    have:=Qtd J h3 g (fun i h h' S hS=>by
     rw[<-hg];simp only[dlt h,Qb _ i h,Qb _ i h',Qa _ i _ h,Qa _ i _ h',aLB,Qiu J hS,aLc,wsucc h (show ids.length<BIG by omega),Qo5 _ _ (hu.2 _ (aLl h'))]
     by_cases hq:c.2.2.2.2[i]=(Qk c.1 S ids[i]).2.2.1
     ·rw[aLE hq,if_pos hq];rfl
     ·rw[aLD hq,if_neg hq];rfl) (fun S=>by rw[<-hg];simp only[dge,aLC]) ids.length 0 0 [] noSt (by omega) QiK rfl U
    rw[show ((0:Nat):Int)=0 from rfl] at this
    show ((Qc g (0,(noSt,c))).bind _)=_
    rw[this,aLc];rw[aMt,aMt,aMt];show Sum.elim _ _ (if c.2.2.2.2=(Qp c.1 ids).2 then _ else _)=_
    by_cases h4:(Qp c.1 ids).2=c.2.2.2.2
    ·rw[if_pos h4,if_pos h4.symm];rfl
    ·rw[if_neg h4,if_neg (fun h=>h4 h.symm)];rfl
   ·rw[aLD (show ¬(c.2.2.2.2.length:Int)=(ids.length:Int) by omega),if_neg (fun h=>h3 (by rw[<-h,b]))];rfl
  ·rw[aLD h2,if_neg h2];rfl
 ·rw[if_neg h1,aLD h1];rfl
theorem Qss {c:TC} (b1:c.1.1.length<BIG) (b2:c.1.2.length<BIG) (b3:c.2.1.length<BIG) (U:c.2.2.1.length<BIG) (hu:bL Qa8 c.2.2.2.2):Qc7 c=some (mChF c,c):=by
 unfold Qc7 mChF;rw[Qam _ b1 b2,aLc,QN];split
 ·rename_i hl
  rw[Qnq _ b3,aLc,QN];split
  ·rename_i J
   by_cases I:(20:Int)<(c.2.2.1.length:Int)
   ·rw[aLE I,if_pos I];rfl
   ·rw[aLD I,if_neg I,aLC,Qso hl J,aLc,QN]
    split
    ·rename_i hn
     rw[Qr3 J U,aLc,QN];split
     ·rename_i hk
      rw[QsD hl J U hn hk hu];rfl
     ·rfl
    ·rfl
  ·rfl
 ·rfl
theorem Qtv (c:TC) (h:Bnd s16 c):QdL c:=by
 obtain⟨⟨h1,h2⟩,h3,h4,⟨_,_,h5,h6⟩,h7⟩:=h;have I:∀y:TCoin,Bnd s7 y->JD y:=fun y J=>by
  obtain⟨_,⟨_,J,_⟩,_⟩:=J;exact QfL (s:=.int .i64) (p:=bAny) (fun _ _=>trivial) J
 exact⟨⟨QfL (s:=.str) (p:=bL bAny) (fun y J=>⟨J,fun _ _=>trivial⟩) h1,QfL (s:=s0) (p:=bAny) (fun _ _=>trivial) h2⟩,QfL (s:=s2) (p:=bAny) (fun _ _=>trivial) h3,QfL (s:=.int .i64) (p:=bAny) (fun _ _=>trivial) h4,
  ⟨QfL (s:=s7) (p:=JD) I h5,QfL (s:=s2) (p:=bAny) (fun _ _=>trivial) h6⟩,
  QfL (s:=s12) (p:=Qa8) (fun y J=>by
   obtain⟨_,U,hy2⟩:=J;exact⟨QfL (s:=.list s7) (p:=bL JD) (fun z hz=>QfL (s:=s7) (p:=JD) I hz) U,QfL (s:=s2) (p:=bAny) (fun _ _=>trivial) hy2⟩) h7⟩
theorem QvL {c:TC} (h:J4 c<=1048576):c.1.1.length<BIG/\c.1.2.length<BIG/\c.2.1.length<BIG/\c.2.2.1.length<BIG:=by
 have I:BIG=4611686018427387904:=rfl
 simp only[J4] at h;have h0:c.1.1.length<=QhK c.1.1:=Nat.le_add_right _ _
 omega
theorem Qj0 {l r:List TCoin} (h:l.Perm r) (I:Rise l) (J:Rise r):l=r:=
 QfI l r h I J (fun a _ b _ h1 h2=>by rw[Qlo h1] at h2;cases h2)
theorem Qkn:∀(xs l:List TCoin),Rise l->(∀x,x ∈ xs->∀y,y ∈ l->y.1 ≠ x.1)->(xs.Pairwise fun a b=>a.1 ≠ b.1)->Rise (YR l xs)
 | [],_,J,_,_=>J
 | x::xs,l,J,h1,h2=>by
  rw[List.pairwise_cons] at h2;refine Qkn xs (insC l x) (QnO J (h1 x (aLm ..))) (fun z U y I=>?_) h2.2
  rcases aMi.1 ((Qh8 l x).mem_iff.1 I) with I | I
  ·exact h1 z (aLp _ U) y I
  ·rw[aLs.1 I];exact h2.1 z U
theorem QvY {l:List TCoin} (h:Rise l):l.Pairwise fun a b=>a.1 ≠ b.1:=
 List.Pairwise.imp (fun {a b} I he=>by rw[he,ZM] at I;cases I) h
theorem Qr7 {c:List TCoin} (I:Rise c) (t:TX):YR (offC c t.2.2.1) (mSp c t)=c:=by
 have J:(YR (offC c t.2.2.1) (mSp c t)).Perm c:=by
  refine (Qbz _ _).trans (List.perm_append_comm.trans ?_);exact List.filter_append_perm _ c
 refine Qj0 J (Qkn _ _ (Qbx I _) (fun x U y hy he=>?_) (QvY (Qbx I _))) I
 have h1:=(aMv.1 U).2
 have h2:=(aMv.1 hy).2
 rw[he,h1] at h2;cases h2
theorem QqS {c:List TCoin} (I:Rise c) (t:TX):(offC c t.2.2.1++mSp c t).Perm c:=List.perm_append_comm.trans (List.filter_append_perm _ c)
def Qcj (c:List TCoin) (id:Int):List TCoin:=c.filter fun x=>!decide (x.1.1=id)
def onId (c:List TCoin) (id:Int):List TCoin:=c.filter fun x=>decide (x.1.1=id)
theorem QmP {l:List TCoin} {id:Int} (h:(l.any fun x=>decide (x.1.1=id))=false):∀x,x ∈ l->¬x.1.1=id:=fun x I he=>by
 have:=aMI.1 h x I
 exact this (by simpa using he)
theorem Qow (id h:Int) (m:Bool):∀(os:List TOut) (k:Nat),Rise (ZH id h m k os)
 | [],_=>List.Pairwise.nil
 | o::r,k=>by
  unfold ZH;refine List.pairwise_cons.2 ⟨fun x I=>?_,Qow id h m r (k+1)⟩
  obtain⟨h1,h2,_⟩:=Qht I;unfold Qv;rw[if_pos h1.symm];exact aLE (by show (k:Int)<x.1.2;omega)
theorem Qn6 {l:List TCoin} (U:Rise l) {id:Int} (J:(l.any fun x=>decide (x.1.1=id))=false) (outs:List TOut) (h:Int) (m:Bool) :
  Qcj (YR l (ZH id h m 0 outs)) id=l/\onId (YR l (ZH id h m 0 outs)) id=ZH id h m 0 outs:=by
 have hR:Rise (YR l (ZH id h m 0 outs)):=Qgv outs 0 l U (fun y hy he=>absurd he (QmP J y hy))
 have hP:=Qbz (ZH id h m 0 outs) l
 have n1:∀x,x ∈ ZH id h m 0 outs->x.1.1=id:=fun x I=>(Qht I).1
 constructor
 ·refine Qj0 ((hP.filter _).trans ?_) (Qbx hR _) U
  rw[List.filter_append,aMG.2 (fun x I=>by simpa using QmP J x I),List.filter_eq_nil_iff.2 (fun x I=>by simpa using n1 x I),List.append_nil]
 ·refine Qj0 ((hP.filter _).trans ?_) (Qbx hR _) (Qow id h m outs 0)
  rw[List.filter_append,List.filter_eq_nil_iff.2 (fun x I=>by simpa using QmP J x I),aMG.2 (fun x I=>by simpa using n1 x I),aLx]
theorem Qrd {c:List TCoin} (J:Q9 c=0) {t:TX} {id h:Int} (h0:(ZV c t id h).2=0) :
  Qcj (ZV c t id h).1 id=offC c t.2.2.1/\onId (ZV c t id h).1 id=ZH id h false 0 t.2.2.2/\(ZV c t id h).1.length<=40/\(∀r,r ∈ t.2.2.1->∀x,x ∈ (ZV c t id h).1->x.1 ≠ r\/x.1.1=id):=by
 unfold ZV at h0 ⊢;cases h1:c.any fun x=>decide (x.1.1=id) with
 | true=>rw[h1,if_pos rfl] at h0;cases h0
 | false=>
  rw[h1,if_neg (by simp)] at h0
  rw[if_neg (by simp)]
  have h2:((offC c t.2.2.1).any fun x=>decide (x.1.1=id))=false:=aMI.2 (fun x I=>by simpa using QmP h1 x (aMv.1 I).1)
  unfold JZ at h0 ⊢;rw[h2] at h0 ⊢;by_cases h3:40<(offC c t.2.2.1).length+t.2.2.2.length
  ·rw[if_neg (by simp),if_pos h3] at h0;cases h0
  ·rw[if_neg (by simp),if_neg h3]
   obtain⟨a,b⟩:=Qn6 (Qbx (Jb J) _) h2 t.2.2.2 h false;refine⟨a,b,?_,fun r U x I=>?_⟩
   ·show (YR _ _).length<=40
    rw[(Qbz _ _).length_eq,aLi,Qaw];omega
   ·rcases aMi.1 ((Qbz _ _).mem_iff.1 I) with I | I
    ·refine .inl fun he=>?_
     have:=(aMv.1 I).2
     rw[he,aLE U] at this;cases this
    ·exact .inr (Qht I).1
structure okM (l:List TMb):Prop where
 r:Qai l/\l.length<=8
 k:∀x,x ∈ l->(1<=x.1/\x.1<=999)/\mRef x.2=true
 d:l.Pairwise fun a b=>a.2 ≠ b.2
theorem QvV:okM []:=⟨⟨List.Pairwise.nil,by simp⟩,fun _ h=>by simp at h,List.Pairwise.nil⟩
theorem QuX {l:List TMb} (h:okM l) {t:TX} (ht:okT t) {id:Int} (hid:mIn id 1 60=true):okM (QcF l t id).1:=by
 have J:∀x,x ∈ mOff l t->x ∈ l:=fun x I=>(aMv.1 I).1
 have hd:(mOff l t).Pairwise fun a b=>a.2 ≠ b.2:=List.Pairwise.filter _ h.d
 refine⟨QrB h.r t id,?_,?_⟩
 ·intro x I
  unfold QcF at I;split at I
  ·simp at I
  ·split at I
   ·rename_i h1
    unfold Qjy at I;split at I
    ·simp at I
    ·split at I
     ·simp at I
     ·rcases aMi.1 I with I | I
      ·rcases aMi.1 I with I | I
       ·exact h.k x (J x ((List.takeWhile_sublist _).subset I))
       ·rw[aLs.1 I]
        refine⟨?_,QaB.2 ⟨Qz.1 hid,by simp⟩⟩
        rcases ht.mem with ⟨h2,_⟩ | ⟨_,h2⟩
        ·rw[h1] at h2;cases h2
        ·exact h2
      ·exact h.k x (J x ((List.dropWhile_sublist _).subset I))
   ·exact h.k x (J x I)
 ·unfold QcF
  split
  ·exact List.Pairwise.nil
  ·split
   ·unfold Qjy
    split
    ·exact List.Pairwise.nil
    ·rename_i U
     split
     ·exact List.Pairwise.nil
     ·show ((mOff l t).takeWhile _++[_]++(mOff l t).dropWhile _).Pairwise _
      have hp:((mOff l t).takeWhile (fun y:TMb=>decide (y.1<t.2.1))++[(t.2.1,(id,0))]++(mOff l t).dropWhile (fun y:TMb=>decide (y.1<t.2.1))).Perm ((t.2.1,(id,0))::mOff l t):=by
       conv=>rhs;rw[<-List.takeWhile_append_dropWhile (p:=fun y:TMb=>decide (y.1<t.2.1)) (l:=mOff l t)]
       rw[aMm];exact List.perm_middle
      refine (hp.pairwise_iff (fun {a b} hab he=>hab he.symm)).2 (List.pairwise_cons.2 ⟨fun y hy he=>?_,hd⟩)
      refine U (List.any_eq_true.2 ⟨y,hy,?_⟩);rw[aMC];exact .inr (aLE he.symm)
   ·exact hd
theorem Qtf {l:List TMb} {i:Nat} (hi:i<l.length) (h0:0<i):List.getD l (i - 1) (0,(0,0))=l[i - 1]'(by omega):=by
 rw[aLk,aLf (by omega)];rfl
theorem Qrg {α:Type} {c:Nat->α->Int}:∀{l:List α},(∀i (hi:i<l.length),c i l[i]=0)->code c l=0:=fun {l} h=>by
 unfold code;have key:∀(l':List α) (k:Nat),(∀i (hi:i<l'.length),c (k+i) l'[i]=0)->first (fun i a=>if c i a=0 then none else some (c i a)) k l'=none:=by
  intro l';induction l' with
  | nil=>intro k _;rfl
  | cons a r I=>
   intro k hk;have h0:=hk 0 (by simp)
   simp only[List.getElem_cons_zero,Nat.add_zero] at h0;unfold first
   rw[if_pos h0];exact I (k+1) (fun i hi=>by have:=hk (i+1) (by simpa using hi);rw[List.getElem_cons_succ] at this;rw[show k+1+i=k+(i+1) by omega];exact this)
 rw[key l 0 (fun i hi=>by rw[aMf];exact h i hi)]
theorem mem_of {l:List TMb} (h:okM l):mMem l=0:=by
 unfold mMem;have U:=h.r.2
 rw[if_neg (by omega)]
 have h1:code (mMb l) l=0:=Qrg fun i hi=>by
  unfold mMb;obtain⟨a,b⟩:=h.k _ (aLl hi);rw[Qz.2 a,b,Bool.and_self,if_pos rfl];by_cases h0:0<i
  ·have:=List.pairwise_iff_getElem.1 h.r.1 (i - 1) i (by omega) hi (by omega)
   rw[Qtf hi h0,aLD (by omega:¬l[i].1<=(l[i - 1]'(by omega)).1),Bool.and_false];rfl
  ·rw[aLD h0,Bool.false_and];rfl
 rw[if_pos h1];refine Qrg fun i hi=>?_
 unfold mMd;rw[if_neg ?_];intro I;obtain⟨y,J,he⟩:=List.any_eq_true.1 I;obtain⟨j,hj,rfl⟩:=List.mem_take_iff_getElem.1 J;exact List.pairwise_iff_getElem.1 h.d j i (by omega) hi (by omega) (aLG he)
structure okS (S:TState):Prop where
 o:okSt S
 m:okM S.2.2.2
 t:0<=S.1/\S.1<=60
 h:0<=S.2.1/\S.2.1<=40
 z:S.1=0↔S.2.1=0
theorem QpV:okS noSt:=⟨QiK,QvV,by decide,by decide,by decide⟩
theorem QwQ {l:TL} (I:mLF l=0) {S:TState} (hm:okM S.2.2.2) (id h:Int):okM (mDo l S id h).2.2.2.2.2.2:=by
 unfold mDo;split
 ·rename_i h1
  split
  ·split
   ·split
    ·exact QuX hm (Jk (Qhz h1)) (Qjm (Qaz I) h1)
    ·exact hm
   ·exact hm
  ·exact hm
 ·exact hm
theorem QrF {l:TL} (I:mLF l=0) (h:Int):∀(ids:List Int) (f:Int) (sp:List (List TCoin)) (S:TState),okM S.2.2.2->okM (mDos l h ids f sp S).2.2.2.2.2.2
 | [],_,_,_,hm=>hm
 | i::r,f,sp,S,hm=>by
  unfold mDos;split
  ·exact QrF I h r _ _ _ (QwQ I hm i h)
  ·exact hm
theorem QlW {l:TL} (I:mLF l=0) {S:TState} (J:okS S) {id:Int} (h0:(Qk l S id).1=0):okS (Qk l S id).2.2.2:=by
 obtain⟨U,a2,a3,a4,_⟩:=Qa5 I J.o h0;obtain⟨hb,hid,_⟩:=Qce I J.o a4;have hh:=hb.h
 have hi:=Qz.1 hid
 refine⟨U,?_,by omega,by omega,by omega⟩
 unfold Qk at h0 ⊢;rw[if_pos a4] at h0 ⊢;split at h0
 ·rename_i h2
  rw[if_pos h2] at ⊢;split at h0
  ·rename_i h3
   rw[if_pos h3] at ⊢;split at h0
   ·cases h0
   ·rename_i h4
    rw[if_neg h4] at ⊢;split at h0
    ·rename_i h5
     rw[if_pos h5] at ⊢;exact QrF I _ _ _ _ _ J.m
    ·rename_i h5;exact absurd h0 h5
  ·rename_i h3;exact absurd h0 h3
 ·cases h0
theorem Qor {l:TL} (U:mLF l=0):∀(ids:List Int) (f:Int) (us:List TUn) (S:TState),okS S->(Q3 l ids f us S).1.1=0->okS (Q3 l ids f us S).1.2.2.2
 | [],f,us,S,J,_=>J
 | i::r,f,us,S,J,I=>by
  unfold Q3 at I ⊢;by_cases hd:(Qk l S i).1=0
  ·rw[if_pos hd] at I ⊢
   exact Qor U r _ _ _ (QlW U J hd) I
  ·rw[if_neg hd] at I;exact absurd I hd
theorem Qgc {l:TL} (I:mLF l=0) {ids:List Int} (h:(Qp l ids).1.1=0):okS (Qp l ids).1.2.2.2:=Qor I ids 0 [] noSt QpV h
structure okCh (c:TC):Prop where
 l:mLF c.1=0
 t:Ze c.2.1=0
 k:c.2.2.1.length<=20
 n:code (fun _ n=>mNd c n) c.2.1=0
 kc:code (mLk c) c.2.2.1=0
 b:c.2.2.2.1.1=Qbi c
 s:(Qp c.1 (Qf c.2.1 c.2.2.2.1.1)).1.2.2.2=c.2.2.2.1
 u:(Qp c.1 (Qf c.2.1 c.2.2.2.1.1)).2=c.2.2.2.2
theorem QmW {c:TC} (h:mChF c=0):okCh c:=by
 unfold mChF at h;split at h
 ·rename_i h1
  split at h
  ·rename_i h2
   split at h
   ·cases h
   ·rename_i h3
    split at h
    ·rename_i h4
     split at h
     ·rename_i h5
      unfold mStC at h;split at h
      ·rename_i h6
       split at h
       ·rename_i h7
        split at h
        ·rename_i h8
         exact⟨h1,h2,by omega,h4,h5,h6,h7,h8⟩
        ·cases h
       ·cases h
      ·cases h
     ·rename_i h5;exact absurd h h5
    ·rename_i h4;exact absurd h h4
  ·rename_i h2;exact absurd h h2
 ·rename_i h1;exact absurd h h1
theorem okCh.f {c:TC} (h:okCh c):(Qp c.1 (Qf c.2.1 c.2.2.2.1.1)).1.1=0:=by rw[h.b];exact (Qik h.t h.n).1
theorem okCh.st {c:TC} (h:okCh c):okS c.2.2.2.1:=by
 have:=Qgc h.l h.f
 rw[h.s] at this;exact this
theorem Qon {l:TL}:∀(ids:List Int) (id f:Int) (us:List TUn) (S:TState),(Q3 l (ids++[id]) f us S).1.1=0->
  (Q3 l ids f us S).1.1=0/\(Qk l (Q3 l ids f us S).1.2.2.2 id).1=0/\(Q3 l (ids++[id]) f us S).1.2.2.2=(Qk l (Q3 l ids f us S).1.2.2.2 id).2.2.2/\(Q3 l (ids++[id]) f us S).2=(Q3 l ids f us S).2++[(Qk l (Q3 l ids f us S).1.2.2.2 id).2.2.1]
 | [],id,f,us,S,h=>by
  simp only[aLx,Q3] at h ⊢;by_cases hd:(Qk l S id).1=0
  ·rw[if_pos hd];exact⟨trivial,hd,rfl,rfl⟩
  ·rw[if_neg hd] at h;exact absurd h hd
 | k::r,id,f,us,S,h=>by
  rw[aMs] at h ⊢;unfold Q3 at h ⊢;by_cases hd:(Qk l S k).1=0
  ·rw[if_pos hd] at h
   simp only[if_pos hd];exact Qon r id _ _ _ h
  ·rw[if_neg hd] at h;exact absurd h hd
theorem QhF {l:TL} {ids:List Int} {id:Int} (h:(Qp l (ids++[id])).1.1=0) :
  (Qp l ids).1.1=0/\(Qk l (Qp l ids).1.2.2.2 id).1=0/\(Qp l (ids++[id])).1.2.2.2=(Qk l (Qp l ids).1.2.2.2 id).2.2.2/\(Qp l (ids++[id])).2=(Qp l ids).2++[(Qk l (Qp l ids).1.2.2.2 id).2.2.1]:=Qon ids id 0 [] noSt h
theorem QtF {l:TL} (U:mLF l=0) (ids:List Int) (h:(Qp l ids).1.1=0):(Qp l ids).1.2.2.2.2.1=(ids.length:Int):=by
 have key:∀(n:Nat) (ids:List Int),ids.length=n->(Qp l ids).1.1=0->(Qp l ids).1.2.2.2.2.1=(n:Int):=by
  intro n;induction n with
  | zero=>intro ids I _;rw[List.length_eq_zero_iff.1 I];rfl
  | succ n ih=>
   intro ids I h;obtain⟨a,b,rfl⟩:∃a b,ids=a++[b]:=⟨ids.dropLast,ids.getLast (by intro he;rw[he] at I;cases I),(List.dropLast_concat_getLast _).symm⟩
   obtain⟨h1,h2,h3,_⟩:=QhF h;rw[aLi,aMj] at I;have e:=ih a (by omega) h1
   have J:=Qgc U h1
   obtain⟨_,_,c3,_,_,c6,_⟩:=Qa5 U J.o h2;rw[h3,c3,c6,e,Qy (by have:=J.h;omega) (by have:=J.h;omega)]
   rfl
 exact key _ ids rfl h
theorem QuZ {l:TL} (I:mLF l=0) {ids:List Int} {id:Int} (h:(Qp l (ids++[id])).1.1=0):(Qp l (ids++[id])).1.2.2.2.1=id:=by
 obtain⟨h1,h2,h3,_⟩:=QhF h;rw[h3];exact (Qa5 I (Qgc I h1).o h2).2.1
theorem QrJ {t:List TN} (I:Right t):∀(n:Nat) (b:Int),pos t b<=n->up t (n+1) b=up t n b
 | 0,b,h=>by
  have:idT t b<0:=by unfold pos at h;omega
  unfold up;rw[if_pos this]
 | n+1,b,h=>by
  unfold up;by_cases hb:idT t b<0
  ·rw[if_pos hb,if_pos hb]
  ·rw[if_neg hb,if_neg hb,QrJ I n _ (by have:=I.down hb;omega)]
def parT (t:List TN) (b:Int):Int:=(List.getD t (Int.toNat (idT t b)) (0,(0,0))).2.1
theorem Qbg {t:List TN} (h:Ze t=0) {b:Int} (hb:¬idT t b<0):Qf t b=Qf t (parT t b)++[b]:=by
 have I:=Zh h
 have hd:=I.down hb
 have U:=QiN t b
 unfold Qf;obtain⟨n,J⟩:∃n,t.length=n+1:=⟨t.length - 1,by omega⟩
 rw[J];have:up t (n+1) b=b::up t n (parT t b):=by rw[up,if_neg hb];rfl
 rw[this,List.reverse_cons,QrJ I n _ (by unfold parT;omega)]
theorem QtA {t:List TN} (h:Ze t=0) {b:Int} (hb:¬idT t b<0):parT t b=0\/¬idT t (parT t b)<0:=by
 by_cases h0:parT t b=0
 ·exact .inl h0
 ·exact .inr ((QiT h hb).1.up h0).1
structure DoP (l:TL) (S:TState) (id h:Int):Prop where
 ti:(mTI l id).2=0
 ck:(mChk l S.2.2.1 (mTI l id).1 h).2=0
 sp0:(ZV S.2.2.1 (mTI l id).1 id h).2=0
 sp:(mDo l S id h).2.1=mSp S.2.2.1 (mTI l id).1
 co:(mDo l S id h).2.2.2.2.2.1=(ZV S.2.2.1 (mTI l id).1 id h).1
theorem Qu5 {l:TL} {S:TState} {id h:Int} (h0:(mDo l S id h).2.2.1=0):DoP l S id h:=by
 unfold mDo at h0;by_cases h1:(mTI l id).2=0
 ·rw[if_pos h1] at h0
  by_cases h2:(mChk l S.2.2.1 (mTI l id).1 h).2=0
  ·rw[if_pos h2] at h0
   by_cases h3:(QcF S.2.2.2 (mTI l id).1 id).2=0
   ·rw[if_pos h3] at h0
    by_cases h4:(ZV S.2.2.1 (mTI l id).1 id h).2=0
    ·exact⟨h1,h2,h4,by unfold mDo;rw[if_pos h1,if_pos h2,if_pos h3,if_pos h4],by unfold mDo;rw[if_pos h1,if_pos h2,if_pos h3,if_pos h4]⟩
    ·rw[if_neg h4] at h0;exact absurd h0 h4
   ·rw[if_neg h3] at h0;exact absurd h0 h3
  ·rw[if_neg h2] at h0;exact absurd h0 h2
 ·rw[if_neg h1] at h0;exact absurd h0 h1
theorem Qm4 {l:TL} {h:Int}:∀(ids:List Int) (id f:Int) (sp:List (List TCoin)) (S:TState),(mDos l h (ids++[id]) f sp S).1=0->
  (mDos l h ids f sp S).1=0/\(mDo l (mDos l h ids f sp S).2.2.2 id h).2.2.1=0/\(mDos l h (ids++[id]) f sp S).2.2.2=(mDo l (mDos l h ids f sp S).2.2.2 id h).2.2.2/\(mDos l h (ids++[id]) f sp S).2.2.1=(mDos l h ids f sp S).2.2.1++[(mDo l (mDos l h ids f sp S).2.2.2 id h).2.1]
 | [],id,f,sp,S,h0=>by
  simp only[aLx,mDos] at h0 ⊢;by_cases hd:(mDo l S id h).2.2.1=0
  ·rw[if_pos hd];exact⟨trivial,hd,rfl,rfl⟩
  ·rw[if_neg hd] at h0;exact absurd h0 hd
 | k::r,id,f,sp,S,h0=>by
  rw[aMs] at h0 ⊢;unfold mDos at h0 ⊢;by_cases hd:(mDo l S k h).2.2.1=0
  ·rw[if_pos hd] at h0
   simp only[if_pos hd];exact Qm4 r id _ _ _ h0
  ·rw[if_neg hd] at h0;exact absurd h0 hd
theorem Qlu {l:TL} {h:Int} {ids:List Int} {f:Int} {sp:List (List TCoin)} {S:TState} (h0:(mDos l h ids f sp S).1=0) (J:(mDos l h ids f sp S).2.2.1.length=sp.length+ids.length):∀(d k:Nat),k+d=ids.length->
  (mDos l h (ids.take k) f sp S).1=0/\(mDos l h (ids.take k) f sp S).2.2.1=(mDos l h ids f sp S).2.2.1.take (sp.length+k)
 | 0,k,hk=>by
  rw[aMx (by omega),aMx (by omega)];exact⟨h0,rfl⟩
 | d+1,k,hk=>by
  obtain⟨a,b⟩:=Qlu h0 J d (k+1) (by omega)
  have I:k<ids.length:=by omega
  rw[aMl I] at a b;obtain⟨c1,c2,c3,c4⟩:=Qm4 _ _ _ _ _ a;refine⟨c1,?_⟩;have hlen:(mDos l h (ids.take k) f sp S).2.2.1.length=sp.length+k:=by
   have:=congrArg List.length c4
   rw[b,aLn,aLi,aMj] at this;omega
  have:=congrArg (List.take (sp.length+k)) c4
  rw[b,List.take_take,List.take_append_of_le_length (by omega),aMx (by omega:(mDos l h (ids.take k) f sp S).2.2.1.length<=_),Nat.min_eq_left (by omega)] at this
  exact this.symm
theorem QwM {l:TL} {h:Int} {ids:List Int} {f:Int} {S:TState} (h0:(mDos l h ids f [] S).1=0) (U:(mDos l h ids f [] S).2.2.1.length=ids.length) {k:Nat} (hk:k<ids.length) :
  (mDos l h (ids.take k) f [] S).1=0/\DoP l (mDos l h (ids.take k) f [] S).2.2.2 ids[k] h/\(mDos l h (ids.take (k+1)) f [] S).2.2.2=(mDo l (mDos l h (ids.take k) f [] S).2.2.2 ids[k] h).2.2.2/\(mDos l h ids f [] S).2.2.1[k]'(by omega)=mSp (mDos l h (ids.take k) f [] S).2.2.2.2.2.1 (mTI l ids[k]).1:=by
 have I:(mDos l h ids f [] S).2.2.1.length=([]:List (List TCoin)).length+ids.length:=by rw[U];simp
 obtain⟨a,b⟩:=Qlu h0 I (ids.length - (k+1)) (k+1) (by omega)
 obtain⟨_,b2⟩:=Qlu h0 I (ids.length - k) k (by omega)
 rw[aMl hk] at a b ⊢;obtain⟨c1,c2,c3,c4⟩:=Qm4 _ _ _ _ _ a;have J:=Qu5 c2
 refine⟨c1,J,c3,?_⟩;rw[c4,b2,J.sp] at b;simp only[aLj,aMf] at b;rw[aMl (by omega)] at b
 exact (List.singleton_inj.1 (List.append_cancel_left b)).symm
structure Qg6 (C C':List TCoin) (t:TX) (id h:Int):Prop where
 c:Q9 C=0
 c':Q9 C'=0
 sp:Q9 (mSp C t)=0
 len:(mSp C t).length=t.2.2.1.length
 ref:∀x,x ∈ mSp C t->x.1 ∈ t.2.2.1
 on:onId C' id=ZH id h false 0 t.2.2.2
 off:Qcj C' id=offC C t.2.2.1
 no:∀r,r ∈ t.2.2.1->∀x,x ∈ C'->x.1 ≠ r
 back:YR (Qcj C' id) (mSp C t)=C
 perm:(Qcj C' id++mSp C t).Perm C
theorem QuV {c:List TCoin} {t:TX} {id h:Int} (h0:(ZV c t id h).2=0):(c.any fun x=>decide (x.1.1=id))=false:=by
 unfold ZV at h0;cases h1:c.any fun x=>decide (x.1.1=id) with
 | true=>rw[h1,if_pos rfl] at h0;cases h0
 | false=>rfl
theorem Qus {l:TL} (hl:mLF l=0) {S:TState} (I:Q9 S.2.2.1=0) {id h:Int} (hh:mIn h 0 999=true) (P:DoP l S id h):Qg6 S.2.2.1 (ZV S.2.2.1 (mTI l id).1 id h).1 (mTI l id).1 id h:=by
 have ht:=Jk (Qhz P.ti)
 have hid:=Qjm (Qaz hl) P.ti
 have hlen:=Qna P.ck
 obtain⟨a,b,d,e⟩:=Qrd I P.sp0;have U:=Jb I
 have hno:=QmP (QuV P.sp0)
 refine⟨I,Qk4 I ht hid hh P.sp0,Qji I _,hlen,fun x hx=>aLG (aMv.1 hx).2,b,a,fun r J x hx he=>?_,?_,?_⟩
 ·rcases e r J x hx with q | q
  ·exact q he
  ·obtain⟨y,hy,hy2⟩:=Qj3 U ht.nd hlen r J
   exact hno y hy (by rw[hy2,<-he];exact q)
 ·rw[a];exact Qr7 U _
 ·rw[a];exact QqS U _
noncomputable def qD (l:TL) (S:TState) (id:Int):Int×Int×List (List TCoin)×TState:=mDos l (mBI l id).1.2.1 (mBI l id).1.2.2.2 0 [] S
structure QvH (l:TL) (S:TState) (id:Int):Prop where
 bi:(mBI l id).2=0
 ok:okB7 (mBI l id).1
 tip:(mBI l id).1.1=S.1
 hi:(mBI l id).1.2.1=S.2.1+1
 q:(qD l S id).1=0
 qs:okSt (qD l S id).2.2.2
 ql:(qD l S id).2.2.1.length=(mBI l id).1.2.2.2.length
 un:(Qk l S id).2.2.1=(id,((qD l S id).2.2.1,S.2.2.2))
 s1:(Qk l S id).2.2.2.1=id
 s2:(Qk l S id).2.2.2.2.1=(mBI l id).1.2.1
 off:offC (Qk l S id).2.2.2.2.2.1 [(id,0)]=(qD l S id).2.2.2.2.2.1
 on:∃x,x ∈ (Qk l S id).2.2.2.2.2.1/\x.1=(id,0)
theorem QvR {c:List TCoin} {id:Int} {a:TCoin} (h:onId c id=[a]) (I:a.1=(id,0)):offC c [(id,0)]=Qcj c id:=by
 unfold offC Qcj;refine List.filter_congr fun x J=>?_
 congr 1;rw[decide_eq_decide,aLs];refine⟨fun h1=>by rw[h1],fun h1=>?_⟩
 have:x ∈ onId c id:=aMv.2 ⟨J,aLE h1⟩
 rw[h,aLs] at this;rw[this];exact I
theorem Qjc {l:TL} (J:mLF l=0) {S:TState} (I:okS S) {id:Int} (h0:(Qk l S id).1=0):QvH l S id:=by
 obtain⟨_,r2,r3,U,r5,r6,_⟩:=Qa5 J I.o h0;obtain⟨hb,hid,hh,hk,hd⟩:=Qce J I.o U;have hw:(mBI l id).1.2.1=S.2.1+1:=by rw[r6];exact Qy (by have:=I.h;omega) (by have:=I.h;omega)
 have hn:=hb.n
 have key:(qD l S id).1=0/\(Qk l S id).2.2.1=(id,((qD l S id).2.2.1,S.2.2.2))/\∃o:TOut,(JZ (qD l S id).2.2.2.2.2.1 id [o] (mBI l id).1.2.1 true).2=0/\(Qk l S id).2.2.2.2.2.1=(JZ (qD l S id).2.2.2.2.2.1 id [o] (mBI l id).1.2.1 true).1:=by
  unfold Qk at h0 ⊢;rw[if_pos U,if_pos ⟨r5,r6⟩] at h0 ⊢;unfold qD;generalize mDos l (mBI l id).1.2.1 (mBI l id).1.2.2.2 0 [] S=q at *;by_cases h3:q.1=0
  ·rw[if_pos h3] at h0 ⊢
   by_cases h4:1000000<mRw (mBI l id).1.2.1+q.2.1
   ·rw[if_pos h4] at h0;cases h0
   ·rw[if_neg h4] at h0 ⊢
    by_cases h5:(JZ q.2.2.2.2.2.1 id [(mRw (mBI l id).1.2.1+q.2.1,([(mBI l id).1.2.2.1],(1,0)))] (mBI l id).1.2.1 true).2=0
    ·rw[if_pos h5]
     exact⟨h3,rfl,_,h5,rfl⟩
    ·rw[if_neg h5] at h0;exact absurd h0 h5
  ·rw[if_neg h3] at h0;exact absurd h0 h3
 obtain⟨k1,k2,o,k3,k4⟩:=key;have hq:okSt (qD l S id).2.2.2:=(hd k1).1
 have hp:(JZ (qD l S id).2.2.2.2.2.1 id [o] (mBI l id).1.2.1 true).1=YR (qD l S id).2.2.2.2.2.1 (ZH id (mBI l id).1.2.1 true 0 [o])/\((qD l S id).2.2.2.2.2.1.any fun x=>decide (x.1.1=id))=false:=by
  unfold JZ at k3 ⊢;cases h1:(qD l S id).2.2.2.2.2.1.any fun x=>decide (x.1.1=id) with
  | true=>rw[h1,if_pos rfl] at k3;cases k3
  | false=>
   rw[h1,if_neg (by simp)] at k3
   rw[if_neg (by simp)]
   split at k3
   ·cases k3
   ·rename_i h2
    rw[if_neg h2];exact⟨rfl,rfl⟩
 obtain⟨p1,p2⟩:=Qn6 (Jb hq.c) hp.2 [o] (mBI l id).1.2.1 true;rw[<-hp.1,<-k4] at p1 p2;refine⟨U,hb,r5,hw,k1,hq,(QgK J hh _ 0 [] S I.o (by omega) (by omega) k1).2.2.2.trans (by simp),k2,r2,r3,?_,?_⟩
 ·rw[QvR p2 rfl,p1]
 ·exact⟨_,(aMv.1 (show ((id,((0:Nat):Int)),(o,((mBI l id).1.2.1,true))) ∈ onId _ id by rw[p2];exact aLs.2 rfl)).1,rfl⟩
theorem Qi5 {t:List TN} {b:Int} (hb:idT t b<0):Qf t b=[]:=by
 unfold Qf;have:up t t.length b=[]:=by
  cases t.length with
  | zero=>rfl
  | succ n=>unfold up;rw[if_pos hb]
 rw[this];rfl
theorem QlT {t:List TN} (h:Ze t=0):∀(n:Nat) (a:Int),pos t a<=n->∀b,b ∈ Qf t a->∃r,Qf t a=Qf t b++r
 | 0,a,J,b,hb=>by
  have:idT t a<0:=by unfold pos at J;omega
  rw[Qi5 this] at hb;cases hb
 | n+1,a,J,b,hb=>by
  by_cases I:idT t a<0
  ·rw[Qi5 I] at hb;cases hb
  ·rw[Qbg h I] at hb ⊢
   rcases aMi.1 hb with hb | hb
   ·have hd:pos t (parT t a)<pos t a:=(Zh h).down I
    obtain⟨r,U⟩:=QlT h n (parT t a) (by omega) b hb
    exact⟨r++[a],by rw[U,aMm]⟩
   ·rw[aLs.1 hb,<-Qbg h I];exact⟨[],(List.append_nil _).symm⟩
theorem Qi3 {t:List TN} (h:Ze t=0):∀(n:Nat) (a:Int),pos t a<=n->∀b,b ∈ Qf t a->¬idT t b<0/\pos t b<=pos t a
 | 0,a,J,b,hb=>by
  have:idT t a<0:=by unfold pos at J;omega
  rw[Qi5 this] at hb;cases hb
 | n+1,a,J,b,hb=>by
  by_cases I:idT t a<0
  ·rw[Qi5 I] at hb;cases hb
  ·rw[Qbg h I] at hb
   have hd:pos t (parT t a)<pos t a:=(Zh h).down I
   rcases aMi.1 hb with hb | hb
   ·obtain⟨h1,h2⟩:=Qi3 h n (parT t a) (by omega) b hb
    exact⟨h1,by omega⟩
   ·rw[aLs.1 hb];exact⟨I,aMb _⟩
theorem Qsi {t:List TN} (h:Ze t=0) {a b:Int} (hb:b ∈ Qf t a):∃r,Qf t a=Qf t (parT t b)++b::r/\¬idT t b<0/\b ∉ Qf t (parT t b):=by
 obtain⟨r,I⟩:=QlT h _ a (aMb _) b hb;have hi:=(Qi3 h _ a (aMb _) b hb).1
 refine⟨r,by rw[I,Qbg h hi,aMm];rfl,hi,fun hm=>?_⟩
 have h1:=(Qi3 h _ _ (aMb _) b hm).2
 have h2:pos t (parT t b)<pos t b:=(Zh h).down hi
 omega
theorem Qqp {l:TL}:∀(r ids:List Int),(Qp l (ids++r)).1.1=0->(Qp l ids).1.1=0:=by
 intro r;generalize I:r.length=n;induction n generalizing r with
 | zero=>intro ids h;rw[List.length_eq_zero_iff.1 I,List.append_nil] at h;exact h
 | succ n J=>
  intro ids h;obtain⟨a,b,rfl⟩:∃a b,r=a++[b]:=⟨r.dropLast,r.getLast (by intro he;rw[he] at I;cases I),(List.dropLast_concat_getLast _).symm⟩
  rw[aLi,aMj] at I;rw[<-aMm] at h;exact J a (by omega) ids (QhF h).1
def inT (t:List TN) (a:Int):Prop:=a=0\/¬idT t a<0
structure okMv (c:TC):Prop where
 l:mLF c.1=0
 t:Ze c.2.1=0
 n:∀n,n ∈ c.2.1->(Qp c.1 (Qf c.2.1 n.1)).1.1=0
 a:inT c.2.1 c.2.2.2.1.1
 s:(Qp c.1 (Qf c.2.1 c.2.2.2.1.1)).1.2.2.2=c.2.2.2.1
 u:(Qp c.1 (Qf c.2.1 c.2.2.2.1.1)).2=c.2.2.2.2
theorem okCh.mv {c:TC} (h:okCh c):okMv c:=⟨h.l,h.t,fun _ I=>Qkz h.n I,by rw[h.b];exact (Qik h.t h.n).2,h.s,h.u⟩
noncomputable def wIds (c:TC) (ids:List Int):TC:=(c.1,(c.2.1,(c.2.2.1,((Qp c.1 ids).1.2.2.2,(Qp c.1 ids).2))))
theorem okMv.w {c:TC} (h:okMv c):wIds c (Qf c.2.1 c.2.2.2.1.1)=c:=by unfold wIds;rw[h.s,h.u]
theorem okMv.f {c:TC} (h:okMv c) {a:Int} (I:inT c.2.1 a):(Qp c.1 (Qf c.2.1 a)).1.1=0:=by
 rcases I with rfl | I
 ·rw[QgB h.t];rfl
 ·obtain⟨k,hk,_,h2,_⟩:=Qal I
  rw[<-h2];exact h.n _ (aLl hk)
theorem okMv.tip {c:TC} (h:okMv c) {a:Int} (I:inT c.2.1 a):(Qp c.1 (Qf c.2.1 a)).1.2.2.2.1=a:=by
 have J:=h.f I
 rcases I with rfl | I
 ·rw[QgB h.t];rfl
 ·rw[Qbg h.t I] at J ⊢
  exact QuZ h.l J
theorem okMv.high {c:TC} (h:okMv c) {a:Int} (I:inT c.2.1 a):(Qp c.1 (Qf c.2.1 a)).1.2.2.2.2.1=((Qf c.2.1 a).length:Int):=QtF h.l _ (h.f I)
theorem Qrk {t:List TN} (h:Ze t=0) {b:Int} (hb:¬idT t b<0):inT t (parT t b):=QtA h hb
theorem QtH {t:List TN} (h:Ze t=0) {a b:Int} (hb:b ∈ Qf t a):b ≠ 0:=fun h0=>by
 have:=(Qi3 h _ a (aMb _) b hb).1
 rw[h0] at this;exact this (Zh h).zero
def bk (t:List TN) (p:List Int):Nat->Int->Int×Nat
 | 0,a=>(a,0)
 | n+1,a=>if a=0\/a ∈ p then (a,0) else ((bk t p n (parT t a)).1,(bk t p n (parT t a)).2+1)
theorem QrZ {t:List TN} (h:Ze t=0) (p:List Int):∀(n:Nat) (a:Int),inT t a->pos t a<=n->inT t (bk t p n a).1/\((bk t p n a).1=0\/(bk t p n a).1 ∈ p)/\(bk t p n a).2+(Qf t (bk t p n a).1).length=(Qf t a).length
 | 0,a,I,U=>by
  have J:idT t a<0:=by unfold pos at U;omega
  rcases I with I | I
  ·exact⟨.inl I,.inl I,aMf _⟩
  ·exact absurd J I
 | n+1,a,I,U=>by
  unfold bk;by_cases hh:a=0\/a ∈ p
  ·rw[if_pos hh];exact⟨I,hh,aMf _⟩
  ·rw[if_neg hh]
   rcases I with I | I
   ·exact absurd (.inl I) hh
   ·have hd:pos t (parT t a)<pos t a:=(Zh h).down I
    obtain⟨i1,i2,i3⟩:=QrZ h p n (parT t a) (QtA h I) (by omega)
    refine⟨i1,i2,?_⟩;rw[Qbg h I,aLi,aMj];show (bk t p n (parT t a)).2+1+(Qf t (bk t p n (parT t a)).1).length=_
    omega
theorem Qoi {t:List TN} (h:Ze t=0) {a id:Int} (I:a=0\/a ∈ Qf t id):Qf t id=Qf t a++(Qf t id).drop (Qf t a).length:=by
 rcases I with rfl | I
 ·rw[QgB h];rfl
 ·obtain⟨r,J⟩:=QlT h _ id (aMb _) a I
  conv=>lhs;rw[J]
  rw[J,List.drop_left]
theorem Qu3 {t:List TN} (h:Ze t=0) {a id:Int} (J:a=0\/a ∈ Qf t id):idxF (fun x=>decide (a=x)) (Qf t id)+1=((Qf t a).length:Int):=by
 by_cases h0:a=0
 ·have hn:(Qf t id).any (fun x=>decide (a=x))=false:=aMI.2 fun x hx=>by
   have:=QtH h hx
   simp only[aLF];rw[h0];exact fun e=>this e.symm
  rw[(QiP _ _).1 (by rw[<-Zy] at hn;simpa using hn),h0,QgB h];rfl
 ·have J:a ∈ Qf t id:=J.resolve_left h0
  obtain⟨r,U,hi,hnm⟩:=Qsi h J;have I:(Qf t id).any (fun x=>decide (a=x))=true:=List.any_eq_true.2 ⟨a,J,by simp⟩
  obtain⟨k,hk,h1,h2,h3⟩:=Qa6 I;have h2:a=(Qf t id)[k]:=by simpa using h2
  rw[h1,Qbg h hi,aLi,aMj];have hg:(Qf t id)[(Qf t (parT t a)).length]'(by rw[U,aLi,aLh];omega)=a:=by
   simp only[U];rw[List.getElem_append_right (aMb _)];simp
  have hk2:k=(Qf t (parT t a)).length:=by
   rcases Nat.lt_trichotomy k (Qf t (parT t a)).length with hh | hh | hh
   ·refine absurd ?_ hnm
    have hm:a ∈ Qf t (parT t a):=by
     have h4:(Qf t id)[k]=(Qf t (parT t a))[k]'hh:=by simp only[U];rw[List.getElem_append_left hh]
     have h5:=aLl (l:=Qf t (parT t a)) hh
     rw[<-h4,<-h2] at h5;exact h5
    exact hm
   ·exact hh
   ·have:=h3 _ hh
    simp only[hg] at this;simp at this
  rw[hk2];omega
def mvN (c:TC) (id:Int):Nat:=(bk c.2.1 (Qf c.2.1 id) 60 c.2.2.2.1.1).2+((Qf c.2.1 id).length - (Qf c.2.1 (bk c.2.1 (Qf c.2.1 id) 60 c.2.2.2.1.1).1).length)
abbrev TRC:=Int×Int×TC
def noC:TC:=(([],[]),([],([],((0,(0,([],[]))),[]))))
def badC (k:Int):TRC:=(k,(0,noC))
noncomputable def mMv (c:TC) (id:Int):TRC:=(0,((mvN c id:Int),wIds c (Qf c.2.1 id)))
end GL
end Go.Dx
set_option maxHeartbeats 2000000
namespace Go.Dx
namespace GL
open IntKind Sum
def cTL (c:TC) (t:List TN) (l:List Int):TC:=(c.1,(t,(l,c.2.2.2)))
theorem Qlr {c:TC} (I:Ze c.2.1=0):inT c.2.1 (Qbi c):=by
 rcases Qrx c with h | ⟨n,h1,h2⟩
 ·exact .inl h
 ·exact .inr (by rw[h2];exact Qnw I h1)
noncomputable def mLB1 (c:TC) (id:Int):TRC:=
 if idT c.2.1 id<0 then badC 4 else if (c.2.2.1.any fun a=>!mRel c.2.1 a id)=true then badC 10 else if id ∈ c.2.2.1 then (0,(0,c)) else if c.2.2.1.length=20 then badC 2 else
  mMv (cTL c c.2.1 (c.2.2.1++[id])) (Qbi (cTL c c.2.1 (c.2.2.1++[id])))
noncomputable def mLB (c:TC) (id:Int):TRC:=if mChF c=0 then mLB1 c id else badC (mChF c)
theorem QkL {c:TC} (h:okCh c) (l:List Int):okMv (cTL c c.2.1 l):=⟨h.l,h.t,fun _ I=>Qkz h.n I,h.mv.a,h.s,h.u⟩
theorem QhM (l:List TCoin) (I:l.length<BIG) (p:TCoin->Bool) (f:TCoin->Option Bool) (J:∀a,a ∈ l->f a=some (p a)):QM l f=some (idxF p l):=by
 unfold QM;refine Yy l p _ (fun i h=>?_) (by simp only[dge,aLC])
 simp only[dlt h,Qb l i h,Qa l i _ h,aLB,J _ (aLl h),aLc,wsucc h I];cases p l[i]<;>rfl
theorem QjX (l:List TCoin) (I:l.length<BIG) (p:TCoin->Bool) (f:TCoin->Option Bool) (J:∀a,a ∈ l->f a=some (p a)):QH l f=some (l.any p):=by
 unfold QH;rw[QhM l I p f J,aLc,Zy]
theorem Qqz (l:List TCoin) (I:l.length<=LIM):ZF l=some l:=by
 unfold ZF;rw[JF I,aLB];cases l with
 | nil=>exact Qd0 _
 | cons a l=>rfl
theorem QgP (l:List TCoin) (hl:l.length<BIG) (p:TCoin->Bool) (f:TCoin->Option Bool) (hf:∀a,f a=some (p a)):Q0 l f=some (l.filter (fun a=>!p a)):=by
 unfold Q0;rw[QhM l hl p f (fun a _=>hf a),aLc]
 cases I:l.any p with
 | false=>
  have h1:idxF p l = -1:=(QiP p l).1 ((Qfm p l).2 I)
  rw[h1];simp only[aMc,aLB];congr 1;refine (aMG.2 fun a ha=>?_).symm
  rw[aMI] at I;simpa using I a ha
 | true=>
  obtain⟨k,hk,h1,h2,h3⟩:=Qa6 I;rw[h1,aLD (by omega:¬(k:Int) = -1),aLC,wsucc hk hl]
  have hpre:(l.take (k+1)).filter (fun a=>!p a)=l.take k:=by
   rw[aMl hk,List.filter_append];have e1:(l.take k).filter (fun a=>!p a)=l.take k:=aMG.2 fun a ha=>by
    obtain⟨j,hj,rfl⟩:=aMe.1 ha;rw[aLn] at hj;simp only[aMw];rw[h3 j (by omega)];rfl
   rw[e1];simp[h2]
  refine QpI l p k hk hpre _ _ _ (fun X j i h hX hj=>?_) (fun X j hX=>by rw[<-hX];simp only[dge,aLC]) (fun J U e2 e3 e4=>?_)
  ·have e1:decide ((i:Int)<(X.length:Int))=true:=dlt h
   simp only[e1,Qb X i h,Qa X i _ h,aLB,hf,aLc,wsucc h (by omega:X.length<BIG),Qb X j (by omega),wsucc (by omega:j<X.length) (by omega:X.length<BIG)]
   cases p X[i] with
   | true=>rfl
   | false=>simp
  have c1:QA (U:Int) (J.length:Int) J=true:=by unfold QA;simp;omega
  have hcl:clr (s:=(.prod (.prod (.int .i64) (.int .i64)) (.prod (.prod (.int .i64) (.prod (.list (.int .i64)) (.prod (.int .i64) (.int .i64)))) (.prod (.int .i64) .bool)))) (U:Int) (J.length:Int) J=J.take U++(List.replicate (J.length - U) (((0,0),((0,([],(0,0))),(0,false))):TCoin)++[]):=by
   unfold clr;simp[Sh.dflt]
  have c2:QA 0 (U:Int) (clr (s:=(.prod (.prod (.int .i64) (.int .i64)) (.prod (.prod (.int .i64) (.prod (.list (.int .i64)) (.prod (.int .i64) (.int .i64)))) (.prod (.int .i64) .bool)))) (U:Int) (J.length:Int) J)=true:=by
   unfold QA;rw[hcl];simp;omega
  rw[c1,c2,aLB,aLB,hcl];simp only[Int.sub_zero,aMd,Int.toNat_zero,aMt];rw[List.take_append_of_le_length (by rw[aLn];omega),List.take_take,Nat.min_self,e4]
theorem QnF (id h:Int) (m:Bool):∀(os:List TOut) (k i:Nat) (hi:i<os.length),(ZH id h m k os)[i]? = some ((id,((k+i:Nat):Int)),(os[i],(h,m)))
 | o::r,k,0,_=>rfl
 | o::r,k,i+1,hi=>by
  unfold ZH;rw[List.getElem?_cons_succ,QnF id h m r (k+1) i (by simpa using hi),show k+1+i=k+(i+1) by omega];rfl
theorem Qwg {id h:Int} {m:Bool} {os:List TOut} {x:TCoin} (I:x ∈ ZH id h m 0 os):∃(i:Nat) (hi:i<os.length),x=((id,(i:Int)),(os[i],(h,m))):=by
 obtain⟨i,hi,rfl⟩:=aMe.1 I;rw[Qaw] at hi;refine⟨i,hi,?_⟩;have:=QnF id h m os 0 i hi
 rw[aLf (by rw[Qaw];exact hi),aMf] at this
 exact aMu this
theorem Qv7 {C C':List TCoin} {t:TX} {id h:Int} (U:Qg6 C C' t id h) (I:okT t):QfC (mSp C t) t.2.2.1=some true:=by
 have hl:=(Zf U.sp).1
 have J:=I.li
 unfold QfC;rw[aLE (by rw[U.len]),aLB,QjX _ (by unfold BIG;omega) (fun x=>!decide (x.1 ∈ t.2.2.1)) _ (fun a _=>by unfold QfK;rw[Qgf _ (by unfold BIG;omega)];rfl),aLc,
  aMI.2 (fun x hx=>by rw[aLE (U.ref x hx)];simp)]
 rfl
theorem QtV {C C':List TCoin} {t:TX} {id h:Int} (U:Qg6 C C' t id h) (J:okT t):Qd4 C' id t.2.2.2=some true:=by
 have hl:=(Zf U.c').1
 have hlo:=J.lo
 unfold Qd4;rw[Qqz _ (by unfold LIM;omega),aLc,QgP _ (by unfold BIG;omega) (fun x=>!decide (x.1.1=id)) _ (fun a=>by unfold Qen;rfl),aLc]
 have hf:(C'.filter fun a=>!(!decide (a.1.1=id)))=ZH id h false 0 t.2.2.2:=by
  rw[<-U.on];unfold onId;congr 1;funext x;rw[Bool.not_not]
 rw[hf,Qaw,aLE rfl,aMa,aLC];rw[QgI t.2.2.2.length _ (inl ()) (fun i hi=>?_) (by simp only[Qaw,dge,aLC]),aLc,Sum.elim_inl]
 ·have I:i<(ZH id h false 0 t.2.2.2).length:=by rw[Qaw];exact hi
  have hg:(ZH id h false 0 t.2.2.2)[i]=((id,(i:Int)),(t.2.2.2[i],(h,false))):=by
   have:=QnF id h false t.2.2.2 0 i hi
   rw[aLf I,aMf] at this;exact aMu this
  have ho:=(Qkh J _ (aLl hi)).2
  simp only[Qaw,dlt hi,Qb _ i I,Qa _ i _ I,hg,aMc,aMa,aLC,aLB,Qb _ i hi,Qa _ i _ hi,Qib _ _ (show bL bAny (t.2.2.2[i]).2.1 from ⟨by omega,fun _ _=>trivial⟩),aLc,wsucc hi (show t.2.2.2.length<BIG by unfold BIG;omega)]
theorem Qvh {C C':List TCoin} {t:TX} {id h:Int} (U:Qg6 C C' t id h) (J:okT t) (hid:mIn id 1 60=true):QeQ C' t id (mSp C t)=some (C,0):=by
 have hl:=(Zf U.c').1
 have hl1:=(Zf U.c).1
 have hl2:=(Zf U.sp).1
 have hli:=J.li
 have I:=U.perm
 have hlen:=I.length_eq
 rw[aLi] at hlen;unfold QeQ;rw[Qc1,aLc,hid,Qv7 U J,aLc,QtV U J,aLc];simp only[aMa,aLC,aLc];rw[Qj2 _ (by unfold BIG;omega) (fun _=>false) _ (fun r hr=>?_),aLc,aMI.2 (fun _ _=>by simp),aLC,Yj _ (by omega) (Zz U.c'),aLc,
  QgP _ (by unfold BIG;omega) (fun x=>decide (x.1.1=id)) _ (fun a=>by unfold Qfh;rfl),aLc,Yj _ (by omega) (Zz U.sp),aLc]
 ·show (bif decide ((Qcj C' id).length+(mSp C t).length<=LIM) then (J6 (Qcj C' id++mSp C t)).bind _ else none)=_
  rw[Qj (by unfold LIM;omega),Qjz (Jb U.c) (fun x hx=>I.mem_iff.1 hx) I.symm (Jb U.c) (by rw[aLi];omega),aLc,aLD (by omega)]
  rfl
 ·unfold Qfi
  obtain⟨k,hk,hor⟩:=QgY (Jb U.c') (by omega) r
  rw[hk,aLc];have:¬∃h:k<C'.length,(C'[k]'h).1=r:=fun ⟨h1,h2⟩=>U.no r hr _ (aLl h1) h2
  rw[aLD this];rfl
theorem Qo9 {C C':List TCoin} {t:TX} {id h:Int} (U:Qg6 C C' t id h) (I:mTxF t=0) (hid:mIn id 1 60=true):Qe6 C' t id (mSp C t)=some (0,C):=by
 have ht:=Jk I
 have hl:=(Zf U.c').1
 have hl2:=(Zf U.sp).1
 unfold Qe6;rw[QgS _ (by unfold BIG;omega) (fun x J=>by have:=Zz U.c' x J;unfold BIG;omega),aLc,QgS _ (by unfold BIG;omega) (fun x J=>by have:=Zz U.sp x J;unfold BIG;omega),aLc,
  QiQ t ht.b,aLc,U.c',U.sp,I]
 rw[QgI 3 _ (inl ()) (fun i hi=>?_) rfl,aLc,Sum.elim_inl,Qvh U ht hid]
 ·rfl
 ·have:i=0\/i=1\/i=2:=by omega
  rcases this with rfl | rfl | rfl<;>rfl
theorem Qwc (C:List TCoin) (t:TX):mSp (mSp C t) t=mSp C t:=by unfold mSp;rw[List.filter_filter];simp
def cntI (id:Int) (a:Int) (x:TCoin):Int:=if x.1.1=id then a+1 else a
theorem Qn9 (id:Int):∀(l:List TCoin) (a:Int),l.foldl (cntI id) a=a+((onId l id).length:Int)
 | [],a=>by simp[onId]
 | x::r,a=>by
  rw[List.foldl_cons,Qn9 id r];unfold onId cntI;by_cases I:x.1.1=id
  ·rw[if_pos I,List.filter_cons_of_pos (by simpa using I),aLh];omega
  ·rw[if_neg I,List.filter_cons_of_neg (by simpa using I)]
theorem Qu8 {C C':List TCoin} {t:TX} {id h:Int} (U:Qg6 C C' t id h) (J:okT t):QeV C' t id=some true:=by
 have hl:=(Zf U.c').1
 have hlo:=J.lo
 unfold QeV;rw[Zx C' (cntI id) (fun a i=>(a,i)) (fun a=>inl a) (fun a i=>0<=a/\a<=(i:Int)) _ (fun i hi a ha=>?_) (fun a _=>by simp only[dge,aLC]) 0 ⟨Int.le_refl _,Int.le_refl _⟩,aLc,Sum.elim_inl,Qn9,U.on,Qaw]
 ·simp
 ·refine⟨?_,by unfold cntI;split<;>omega⟩
  simp only[dlt hi,Qb _ i hi,Qa _ i _ hi,aLB,wsucc hi (show C'.length<BIG by unfold BIG;omega)]
  unfold cntI;by_cases I:C'[i].1.1=id
  ·have hm:C'[i] ∈ ZH id h false 0 t.2.2.2:=by rw[<-U.on];exact aMv.2 ⟨aLl hi,by simpa using I⟩
   obtain⟨k,hk,he⟩:=Qwg hm;have ho:=(Qkh J _ (aLl hk)).2
   rw[if_pos I,he];simp only[aMc,aMa,aLC,aLD (show ¬((t.2.2.2.length:Int)<=(k:Int)) by omega),Qb _ k hk,aLB,Qa _ k _ hk,QjV _ _ (show bL bAny (t.2.2.2[k]).2.1 from ⟨by omega,fun _ _=>trivial⟩),aLc]
   rw[Qy (by omega) (by omega)]
  ·rw[if_neg I,aLD I];rfl
def offI (id:Int) (a:List TCoin) (x:TCoin):List TCoin:=if x.1.1=id then a else a++[x]
theorem QoB (id:Int):∀(l a:List TCoin),l.foldl (offI id) a=a++Qcj l id
 | [],a=>by simp[Qcj]
 | x::r,a=>by
  rw[List.foldl_cons,QoB id r];unfold Qcj offI;by_cases I:x.1.1=id
  ·rw[if_pos I,List.filter_cons_of_neg (by simpa using I)]
  ·rw[if_neg I,List.filter_cons_of_pos (by simpa using I),aMm];rfl
theorem Quz {C C':List TCoin} {t:TX} {id h:Int} (U:Qg6 C C' t id h):QeJ C' id (mSp C t)=some C:=by
 have hl:=(Zf U.c').1
 have hl1:=(Zf U.c).1
 have hl2:=(Zf U.sp).1
 have hlen:=U.perm.length_eq
 rw[aLi] at hlen;unfold QeJ;rw[Zx C' (offI id) (fun a i=>(a,i)) (fun a=>a) (fun a i=>a.length<=i) _ (fun i hi a J=>?_) (fun a _=>by simp only[dge,aLC]) [] (aMb _),aLc,QoB,aLx]
 ·rw[Zx (mSp C t) insC (fun a i=>(a,i)) (fun a=>a) (fun a i=>a.length=(Qcj C' id).length+i) _ (fun i hi a J=>?_) (fun a _=>by simp only[dge,aLC]) (Qcj C' id) rfl,aLc]
  ·show ((Ya (YR (Qcj C' id) (mSp C t))).bind _)=_
   rw[U.back,QaQ _ (by omega) (Zz U.c)];rfl
  ·refine⟨?_,by rw[QpL,J];omega⟩
   simp only[dlt hi,Qb _ i hi,Qa _ i _ hi,aLB,wsucc hi (show (mSp C t).length<BIG by unfold BIG;omega)]
   rw[Qkp (by omega)];rfl
 ·refine⟨?_,by unfold offI;split;omega;rw[aLi,aMj];omega⟩
  simp only[dlt hi,Qb _ i hi,Qa _ i _ hi,aLB,wsucc hi (show C'.length<BIG by unfold BIG;omega)]
  unfold offI;by_cases I:C'[i].1.1=id
  ·rw[if_pos I,aLE I];rfl
  ·rw[if_neg I,aLD I,Qj (by simp only[aLh,aLj];unfold LIM;omega)];rfl
theorem Qo0 {C C':List TCoin} {t:TX} {id h:Int} (U:Qg6 C C' t id h) (I:mTxF t=0) (hid:mIn id 1 60=true):QeT C' t id (mSp C t)=some (0,C):=by
 have ht:=Jk I
 have hli:=ht.li
 have hl:=(Zf U.c').1
 have hl1:=(Zf U.c).1
 have hl2:=(Zf U.sp).1
 unfold QeT;rw[Qao _ (by unfold BIG;omega) (fun x J=>by have:=Zz U.c' x J;unfold BIG;omega),aLc,Qao _ (by unfold BIG;omega) (fun x J=>by have:=Zz U.sp x J;unfold BIG;omega),aLc,
  QbU t ht.b,aLc,U.c',U.sp,I,Zn,aLc,hid,Qel U.sp t (by omega),aLc,Qwc,aLE U.len,Qu8 U ht,aLc]
 simp only[aMc,aMa,aLC,aLc];rw[QgI t.2.2.1.length _ (inl ()) (fun i hi=>?_) (by simp only[dge,aLC]),aLc,Sum.elim_inl,Quz U,aLc,aLD (by omega)]
 ·rfl
 ·have hno:idxF (fun x=>decide (x.1=t.2.2.1[i])) C'<0:=(Qfm _ _).2 (aMI.2 fun x J=>by simpa using U.no _ (aLl hi) x J)
  simp only[dlt hi,Qb _ i hi,Qa _ i _ hi,aLB,Qlj _ (show C'.length<BIG by unfold BIG;omega),aLc,aLD (show ¬0<=idxF (fun x=>decide (x.1=t.2.2.1[i])) C' by omega),aLC,wsucc hi (show t.2.2.1.length<BIG by unfold BIG;omega)]
theorem QsZ {c:List TCoin} (J:Rise c) (hl:c.length<=1000) {k:Nat} (U:k<c.length) {r:Int×Int} (I:c[k].1=r):QW c (k:Int) ((k:Int)+1)=some (offC c [r]):=by
 unfold QW delS;rw[aLE ⟨by omega,by omega,by omega,by omega⟩,aLB,aMd,show ((k:Int)+1).toNat=k+1 by omega]
 congr 1;rw[<-Qix (p:=fun x=>!decide (x.1=r)) U (by rw[aLE I];rfl) (fun j hj hjk=>by
  rw[aLD (fun he=>?_)];rfl
  rcases aMg j k with h1 | h1
  ·have h2:=Qb8 J h1 U
   rw[he,I,ZM] at h2;cases h2
  ·have h2:=Qb8 J (show k<j by omega) hj
   rw[he,I,ZM] at h2;cases h2)]
 unfold offC;congr 1
 funext x
 simp only[aLs]
noncomputable def cK (l:TL) (S:TState) (id:Int) (k:Nat):List TCoin:=(mDos l (mBI l id).1.2.1 ((mBI l id).1.2.2.2.take k) 0 [] S).2.2.2.2.2.1
theorem QnI {l:TL} (J:mLF l=0) {S:TState} (U:okS S) {id:Int} (P:QvH l S id) {k:Nat} (hk:k<(mBI l id).1.2.2.2.length) :
  (mTI l ((mBI l id).1.2.2.2[k])).2=0/\Qg6 (cK l S id k) (cK l S id (k+1)) (mTI l ((mBI l id).1.2.2.2[k])).1 ((mBI l id).1.2.2.2[k]) (mBI l id).1.2.1/\∀hq:k<(qD l S id).2.2.1.length,(qD l S id).2.2.1[k]=mSp (cK l S id k) (mTI l ((mBI l id).1.2.2.2[k])).1:=by
 have hb:=P.ok
 have hh:mIn (mBI l id).1.2.1 0 999=true:=Qz.2 (by have:=hb.h;omega)
 obtain⟨d1,d2,d3,d4⟩:=QwM P.q P.ql hk;have hn:=hb.n
 have I:=(QgK J hh ((mBI l id).1.2.2.2.take k) 0 [] S U.o (by omega) (by rw[aLn];omega) d1).1
 refine⟨d2.ti,?_,fun _=>d4⟩
 have hu:=Qus J I.c hh d2
 have e:cK l S id (k+1)=(ZV (cK l S id k) (mTI l ((mBI l id).1.2.2.2[k])).1 ((mBI l id).1.2.2.2[k]) (mBI l id).1.2.1).1:=by
  unfold cK;rw[d3,d2.co]
 rw[e];exact hu
theorem cK_0 (l:TL) (S:TState) (id:Int):cK l S id 0=S.2.2.1:=by unfold cK;rw[List.take_zero];rfl
theorem cK_n (l:TL) (S:TState) (id:Int):cK l S id (mBI l id).1.2.2.2.length=(qD l S id).2.2.2.2.2.1:=by unfold cK qD;rw[List.take_length]
theorem wpred {k:Nat} (h:k<1000):wrap .i64 ((k:Int) - 1)=(k:Int) - 1:=Qy (by omega) (by omega)
theorem Qqb {l:TL} (U:mLF l=0) {S:TState} (I:okS S) {id:Int} (h0:(Qk l S id).1=0):Y3 l (Qk l S id).2.2.2 (Qk l S id).2.2.1=some (0,(0,((0,([],[])),S))):=by
 have P:=Qjc U I h0
 have J:=QlW U I h0
 obtain⟨hb,hid,_⟩:=Qce U I.o P.bi;have hid':=Qz.1 hid
 have hn:=hb.n
 have hstep:=fun (k:Nat) (hk:k<(mBI l id).1.2.2.2.length)=>QnI U I P hk
 have hcn:=cK_n l S id
 have hc0:=cK_0 l S id
 have hoff:=P.off
 obtain⟨x,hx,hx1⟩:=P.on;have hql:=P.ql
 rw[P.un];have hs1:=P.s1
 have hs2:=P.s2
 have htip:=P.tip
 have hhi:=P.hi
 generalize (Qk l S id).2.2.2=S' at *;have hcl:=Zf J.o.c
 unfold Y3;rw[hs1,aLD (by omega:¬id=0),aLE (rfl:id=id)]
 simp only[aLC,aMa,aLc];rw[Qgi (Qaz U),aLc,P.bi];generalize hB:(mBI l id).1=b at *;have e1:decide ((((qD l S id).2.2.1.length:Nat):Int)=(b.2.2.2.length:Int))=true:=aLE (by rw[hql])
 simp only[aMc,aMa,aLC,hs2,aLc,e1];rw[QjY _ (by have:=I.m.r.2;unfold BIG;omega),aLc,mem_of I.m]
 simp only[aMc,aMa,aLC];obtain⟨k,hk,hor⟩:=QgY (Jb J.o.c) (by omega) (id,0)
 rcases hor with ⟨hk1,hk2⟩ | hno
 ·rw[hk,aLc,aLE (⟨hk1,hk2⟩:∃h:k<S'.2.2.1.length,(S'.2.2.1[k]'h).1=(id,0))]
  simp only[aMa,aLC];rw[Yj _ (by omega) (Zz J.o.c),aLc,Qy (by omega) (by omega),QsZ (Jb J.o.c) (by omega) hk1 hk2,aLc,hoff,<-hcn]
  generalize hg:(fun (s30:List TCoin×Int)=>_)=g
  have key:∀(j:Nat),j<=b.2.2.2.length->Qc g (cK l S id j,(j:Int) - 1)=some (.inl (cK l S id 0)):=by
   intro j;induction j with
   | zero=>intro _;exact Qe (by rw[<-hg];rfl)
   | succ j ih=>
    intro hj;obtain⟨s1,s2,s3⟩:=hstep j (by omega)
    have hq:j<(qD l S id).2.2.1.length:=by omega
    have hj2:j<b.2.2.2.length:=by omega
    rw[show ((j+1:Nat):Int) - 1=(j:Int) by omega]
    rw[Qo (s':=(cK l S id j,(j:Int) - 1)) (by
     rw[<-hg];simp only[aLE (show (0:Int)<=(j:Int) by omega),aLB,Qb _ j hj2,Qa _ j _ hj2,Qk7 (Qaz U),aLc,s1,aMc,aMa,aLC,Qb _ j hq,Qa _ j _ hq,s3 hq,
      Qo9 s2 (Qhz s1) (Qjm (Qaz U) s1),wpred (show j<1000 by omega)])]
    exact ih (by omega)
  rw[wpred (by omega),key _ (aMb _),aLc,Sum.elim_inl,Qes _ (by have:=I.m.r.2;unfold LIM;omega),aLc,hc0,Qy (by have:=I.h;omega) (by have:=I.h;omega),htip,hhi]
  congr 4;obtain⟨a1,a2,a3,a4⟩:=S;simp only[aLe,and_true,true_and];show a2+1 - 1=a2
  omega
 ·exact absurd hx1 (hno x hx)
theorem QwN {S:TState} (h:okS S):mSt S=0:=by
 unfold mSt;rw[Qz.2 h.t,Qz.2 h.h,Bool.and_self,if_pos rfl,if_pos (decide_eq_decide.2 h.z),if_pos h.o.c,mem_of h.m]
theorem Qw3 {S:TState} (h:okS S):bS S:=⟨by have:=(Zf h.o.c).1;unfold BIG;omega,fun x I=>by have:=Zz h.o.c x I;unfold BIG;omega,by have:=h.m.r.2;unfold BIG;omega⟩
theorem Qp1 {l:TL} (J:mLF l=0) {S:TState} (U:okS S) {id:Int} (h0:(Qk l S id).1=0):Jx l (Qk l S id).2.2.2 (Qk l S id).2.2.1=some (0,(0,((0,([],[])),S))):=by
 have P:=Qjc J U h0
 have I:=QlW J U h0
 obtain⟨hb,hid,_⟩:=Qce J U.o P.bi;obtain⟨_,_,b1,b2⟩:=Qkm J;have hid':=Qz.1 hid
 have hn:=hb.n
 have hstep:=fun (k:Nat) (hk:k<(mBI l id).1.2.2.2.length)=>QnI J U P hk
 have hcn:=cK_n l S id
 have hc0:=cK_0 l S id
 have hoff:=P.off
 have hon:=P.on
 have hql:=P.ql
 rw[P.un];have hs1:=P.s1
 have hs2:=P.s2
 have htip:=P.tip
 have hhi:=P.hi
 generalize (Qk l S id).2.2.2=S' at *;have hcl:=Zf I.o.c
 unfold Jx;rw[Qam l (by unfold BIG;omega) (by unfold BIG;omega),aLc,J,QnL _ (Qw3 I),aLc,QwN I,hs1,aLD (by omega:¬id=0),aLE (rfl:id=id)]
 simp only[aLC,aMc,aMa,aLc];rw[Qf7 J,aLc,P.bi];generalize hB:(mBI l id).1=b at *;have e1:decide ((((qD l S id).2.2.1.length:Nat):Int)=(b.2.2.2.length:Int))=true:=aLE (by rw[hql])
 simp only[aMc,aMa,aLC,hs2,aLc,e1];rw[Qi1 _ (by have:=U.m.r.2;unfold BIG;omega),aLc,mem_of U.m]
 simp only[aMc,aMa,aLC];rw[(Qkd I.o).2,aLc,QjO (Jb I.o.c) (by omega) (Zz I.o.c) (by simp) (by simp) (fun r hr=>by rw[aLs.1 hr];exact hon),aLc,hoff,<-hcn]
 simp only[aMa,aLC];have hback:QeK l (S'.1,(S'.2.1,(cK l S id b.2.2.2.length,S'.2.2.2))) b.2.2.2 (id,((qD l S id).2.2.1,S.2.2.2))=some (0,(S'.1,(S'.2.1,(cK l S id 0,S'.2.2.2)))):=by
  unfold QeK;generalize hg:(fun (s15:Int×TState)=>_)=g
  have key:∀(j:Nat),j<=b.2.2.2.length->Qc g ((j:Int) - 1,(S'.1,(S'.2.1,(cK l S id j,S'.2.2.2))))=some (.inl (S'.1,(S'.2.1,(cK l S id 0,S'.2.2.2)))):=by
   intro j;induction j with
   | zero=>intro _;exact Qe (by rw[<-hg];rfl)
   | succ j ih=>
    intro hj;obtain⟨s1,s2,s3⟩:=hstep j (by omega)
    have hq:j<(qD l S id).2.2.1.length:=by omega
    have hj2:j<b.2.2.2.length:=by omega
    rw[show ((j+1:Nat):Int) - 1=(j:Int) by omega]
    rw[Qo (s':=((j:Int) - 1,(S'.1,(S'.2.1,(cK l S id j,S'.2.2.2))))) (by
     rw[<-hg];simp only[aLE (show (0:Int)<=(j:Int) by omega),aLB,Qb _ j hj2,Qa _ j _ hj2,Qk6 J,aLc,s1,aMc,aMa,aLC,Qb _ j hq,Qa _ j _ hq,s3 hq,
      Qo0 s2 (Qhz s1) (Qjm (Qaz J) s1),wpred (show j<1000 by omega)])]
    exact ih (by omega)
  rw[wpred (by omega),key _ (aMb _)];rfl
 rw[hback,aLc];simp only[aMc,aMa,aLC];rw[Qj (by simp only[aLj];have:=U.m.r.2;unfold LIM;omega),hc0,Qy (by have:=U.h;omega) (by have:=U.h;omega),htip,hhi]
 show some (0,(0,((0,([],[])),(S.1,(S.2.1+1 - 1,(S.2.2.1,S.2.2.2))))))=_
 rw[show S.2.1+1 - 1=S.2.1 by omega]
structure smU (u:TUn):Prop where
 s:u.2.1.length<=100
 c:∀s,s ∈ u.2.1->s.length<=100/\∀x,x ∈ s->x.2.1.2.1.length<=100
 m:u.2.2.length<=100
theorem QpG {c:List TCoin} (h:Q9 c=0):c.length<=100/\∀x,x ∈ c->x.2.1.2.1.length<=100:=by
 obtain⟨h1,h2⟩:=Zf h;exact⟨by omega,fun x I=>by have:=(Yq (h2 x I).rule).len;omega⟩
theorem Qu0 {l:TL} (J:mLF l=0) {S:TState} (I:okS S) {id:Int} (h0:(Qk l S id).1=0):smU (Qk l S id).2.2.1:=by
 have P:=Qjc J I h0
 have hn:=P.ok.n
 have hm:=I.m.r.2
 rw[P.un];refine⟨by show (qD l S id).2.2.1.length<=_;rw[P.ql];omega,fun s U=>?_,by show S.2.2.2.length<=_;omega⟩
 obtain⟨k,hk,rfl⟩:=aMe.1 (show s ∈ (qD l S id).2.2.1 from U)
 obtain⟨_,h2,h3⟩:=QnI J I P (k:=k) (by rw[<-P.ql];exact hk)
 rw[h3 hk];exact QpG h2.sp
theorem Qf6 {l:TL} (J:mLF l=0):∀(n:Nat) (ids:List Int),ids.length=n->(Qp l ids).1.1=0->(Qp l ids).2.length=n/\∀u,u ∈ (Qp l ids).2->smU u
 | 0,ids,I,_=>by rw[List.length_eq_zero_iff.1 I];exact⟨rfl,fun u hu=>by cases hu⟩
 | n+1,ids,I,h=>by
  obtain⟨a,b,rfl⟩:∃a b,ids=a++[b]:=⟨ids.dropLast,ids.getLast (by intro he;rw[he] at I;cases I),(List.dropLast_concat_getLast _).symm⟩
  obtain⟨h1,h2,_,h4⟩:=QhF h;rw[aLi,aMj] at I;obtain⟨i1,i2⟩:=Qf6 J n a (by omega) h1
  rw[h4];refine⟨by rw[aLi,aMj,i1],fun u hu=>?_⟩
  rcases aMi.1 hu with hu | hu
  ·exact i2 u hu
  ·rw[aLs.1 hu];exact Qu0 J (Qgc J h1) h2
structure smC (c:TC):Prop where
 l1:c.1.1.length<=100
 l2:c.1.2.length<=200
 t:c.2.1.length<=100
 k:c.2.2.1.length<=100
 s:okS c.2.2.2.1
 u:c.2.2.2.2.length<=100
 us:∀u,u ∈ c.2.2.2.2->smU u
theorem okMv.smI {c:TC} (h:okMv c) (hk:c.2.2.1.length<=100) {ids:List Int} (I:(Qp c.1 ids).1.1=0) (J:ids.length<=100):smC (wIds c ids):=by
 obtain⟨_,_,U,b2⟩:=Qkm h.l;have ht:=(Zh h.t).len
 obtain⟨f1,f2⟩:=Qf6 h.l _ ids rfl I;exact⟨by show c.1.1.length<=_;omega,by show c.1.2.length<=_;omega,by show c.2.1.length<=_;omega,hk,Qgc h.l I,by show (Qp c.1 ids).2.length<=_;omega,f2⟩
theorem okMv.sm {c:TC} (h:okMv c) (hk:c.2.2.1.length<=100):smC c:=by
 have:=h.smI hk (h.f h.a) (by have:=Qap h.t c.2.2.2.1.1;omega)
 rw[h.w] at this;exact this
theorem QnS {α:Type}:∀(l a:List α),l.foldl (fun a x=>a++[x]) a=a++l
 | [],a=>by simp
 | x::r,a=>by rw[List.foldl_cons,QnS r,aMm];rfl
theorem Qh0 {α S X:Type} (l:List α) (enc:List α->Int->S) (D:List α->X) (f:S->Option (S⊕X)) (J:∀(i:Nat) (h:i<l.length) (a:List α),a.length=i->f (enc a (i:Int))=some (.inl (enc (a++[l[i]]) ((i+1:Nat):Int))))
  (he:∀a,f (enc a (l.length:Int))=some (.inr (D a))):Qc f (enc [] 0)=some (D l):=by
 rw[Zx l (fun a x=>a++[x]) enc D (fun a i=>a.length=i) f (fun i hi a I=>⟨J i hi a I,by rw[aLi,aMj,I]⟩) (fun a _=>he a) [] rfl,QnS];rfl
theorem QtD {u:TUn} (h:smU u):Qeb u=some u:=by
 obtain⟨h1,h2,h3⟩:=h;unfold Qeb;rw[Qes _ (by unfold LIM;omega),aLc,Qh0 u.2.1 (fun a i=>(i,(u.1,(a,u.2.2)))) (fun a=>(u.1,(a,u.2.2))) _ (fun i hi a J=>?_) (fun a=>by simp only[dge,aLC])];rfl
 obtain⟨k1,k2⟩:=h2 _ (aLl hi);simp only[dlt hi,Qb _ i hi,Qa _ i _ hi,aLB,wsucc hi (show u.2.1.length<BIG by unfold BIG;omega),Yj _ (show (u.2.1[i]).length<=1000000 by omega) (fun x I=>by have:=k2 x I;omega),aLc]
 rw[Qj (by simp only[aLh,aLj];unfold LIM;omega)];rfl
theorem QtJ {u:TUn} (h:smU u):QdW u=some u:=by
 obtain⟨h1,h2,h3⟩:=h;unfold QdW;rw[Qj (by simp only[aLj];unfold LIM;omega),show List.append ([]:List TMb) u.2.2=u.2.2 from rfl,Qh0 u.2.1 (fun a i=>(i,(u.1,(a,u.2.2)))) (fun a=>(u.1,(a,u.2.2))) _ (fun i hi a J=>?_) (fun a=>by simp only[dge,aLC])];rfl
 obtain⟨k1,k2⟩:=h2 _ (aLl hi);simp only[dlt hi,Qb _ i hi,Qa _ i _ hi,aLB,wsucc hi (show u.2.1.length<BIG by unfold BIG;omega),QaQ _ (show (u.2.1[i]).length<=1000000 by omega) (fun x I=>by have:=k2 x I;omega),aLc]
 rw[Qj (by simp only[aLh,aLj];unfold LIM;omega)];rfl
theorem QpZ (l:List TN) (I:l.length<=LIM):ZD l=some l:=by
 unfold ZD;rw[JF I,aLB];cases l with
 | nil=>exact Qd0 _
 | cons a l=>rfl
theorem Qra {l:TL} (h1:l.1.length<=LIM) (h2:l.2.length<=LIM):QcE l=some l:=by
 unfold QcE;rw[Qrb _ h1,aLc,Qp4 _ h2];rfl
theorem Qs7 {l:TL} (h1:l.1.length<=LIM) (h2:l.2.length<=LIM):QeO l=some l:=by
 unfold QeO;rw[JF h1,JF h2];rfl
theorem QmB {c:TC} (h:smC c):Qbk c=some c:=by
 obtain⟨h1,h2,h3,h4,h5,h6,h7⟩:=h;unfold Qbk;rw[Qra (by unfold LIM;omega) (by unfold LIM;omega),aLc,QpZ _ (by unfold LIM;omega),aLc,Qll _ (by unfold LIM;omega),aLc,(Qkd h5.o).1,aLc,
  Qh0 c.2.2.2.2 (fun a i=>(i,(c.1,(c.2.1,(c.2.2.1,(c.2.2.2.1,a)))))) (fun a=>(c.1,(c.2.1,(c.2.2.1,(c.2.2.2.1,a))))) _ (fun i hi a I=>?_) (fun a=>by simp only[dge,aLC])];rfl
 simp only[dlt hi,Qb _ i hi,Qa _ i _ hi,aLB,wsucc hi (show c.2.2.2.2.length<BIG by unfold BIG;omega),QtD (h7 _ (aLl hi)),aLc]
 rw[Qj (by simp only[aLh,aLj];unfold LIM;omega)];rfl
theorem Qn8 {c:TC} (h:smC c):Qb4 c=some c:=by
 obtain⟨h1,h2,h3,h4,h5,h6,h7⟩:=h;unfold Qb4;rw[Qs7 (by unfold LIM;omega) (by unfold LIM;omega),aLc,Qj (by simp only[aLj];unfold LIM;omega),Qj (by simp only[aLj];unfold LIM;omega),(Qkd h5.o).2,aLc,
  show (List.append [] c.2.1)=c.2.1 from rfl,show (List.append [] c.2.2.1)=c.2.2.1 from rfl,Qh0 c.2.2.2.2 (fun a i=>(i,(c.1,(c.2.1,(c.2.2.1,(c.2.2.2.1,a)))))) (fun a=>(c.1,(c.2.1,(c.2.2.1,(c.2.2.2.1,a))))) _ (fun i hi a I=>?_) (fun a=>by simp only[dge,aLC])];rfl
 simp only[dlt hi,Qb _ i hi,Qa _ i _ hi,aLB,wsucc hi (show c.2.2.2.2.length<BIG by unfold BIG;omega),QtJ (h7 _ (aLl hi)),aLc]
 rw[Qj (by simp only[aLh,aLj];unfold LIM;omega)];rfl
theorem QpN {α:Type} (l:List α) (a:α):List.take l.length (l++[a])=l:=List.take_left
theorem Qrm {α:Type} (l:List α) (a d:α):List.getD (l++[a]) l.length d=a:=by simp[aLk]
theorem Qh2 {c:TC} (I:mLF c.1=0) {ids:List Int} {id:Int} (J:(Qp c.1 (ids++[id])).1.1=0) :
  (Qp c.1 ids).1.1=0/\okS (Qp c.1 ids).1.2.2.2/\(Qk c.1 (Qp c.1 ids).1.2.2.2 id).1=0/\wIds c (ids++[id])=(c.1,(c.2.1,(c.2.2.1,((Qk c.1 (Qp c.1 ids).1.2.2.2 id).2.2.2,(Qp c.1 ids).2++[(Qk c.1 (Qp c.1 ids).1.2.2.2 id).2.2.1])))):=by
 obtain⟨h1,h2,h3,h4⟩:=QhF J;exact⟨h1,Qgc I h1,h2,by unfold wIds;rw[h3,h4]⟩
theorem QwP {c:TC} (I:mLF c.1=0) {ids:List Int} (U:ids.length<=100) {id:Int} (J:(Qp c.1 (ids++[id])).1.1=0):J7 (wIds c (ids++[id]))=some (0,wIds c ids):=by
 obtain⟨h1,h2,h3,h4⟩:=Qh2 I J;have hlen:=(Qf6 I _ ids rfl h1).1
 rw[h4];unfold J7;simp only[aLi,aMj];rw[show wrap .i64 ((((Qp c.1 ids).2.length+1:Nat):Int) - 1)=((Qp c.1 ids).2.length:Int) by rw[Qy (by omega) (by omega)];omega,Qb _ _ (by rw[aLi,aMj];omega),aLB,aMd,Qrm,Qqb I h2 h3,aLc]
 rw[aLE (rfl:(0:Int)=0),aLB,ZI _ _ (by rw[aLi];omega),aLB]
 simp only[Int.sub_zero,aMd,Int.toNat_zero,aMt,QpN];rfl
theorem P_on {c:TC} (I:mLF c.1=0) {ids:List Int} (U:ids.length<=100) {id:Int} (J:(Qp c.1 (ids++[id])).1.1=0):Qdf (wIds c ids) id=some (0,wIds c (ids++[id])):=by
 obtain⟨h1,h2,h3,h4⟩:=Qh2 I J;have hlen:=(Qf6 I _ ids rfl h1).1
 rw[h4];unfold Qdf wIds;rw[QnX I h2.o,aLc];simp only[h3,aMc,aLB];rw[Qj (by simp only[aLh,aLj];unfold LIM;omega)]
 show some ((Qk c.1 (Qp c.1 ids).1.2.2.2 id).1,_)=_
 rw[h3];rfl
theorem QqX (l:List Int) (I:l.length<BIG) (x:Int):Zd l x=some (idxF (fun a=>decide (x=a)) l):=by
 unfold Zd;refine Yy l _ _ (fun i h=>?_) (by simp only[dge,aLC])
 simp only[dlt h,Qb l i h,Qa l i _ h,aLB,wsucc h I];cases decide (x=l[i])<;>rfl
theorem QhE {c:TC} (h:okMv c) {a:Int} (I:inT c.2.1 a):(wIds c (Qf c.2.1 a)).2.2.2.1.1=a:=h.tip I
theorem wS {m:Nat} (h:m<=10000):wrap .i64 ((m:Int)+1)=((m+1:Nat):Int):=by rw[Qy (by omega) (by omega)];omega
theorem QwS {c:TC} (h:okMv c) {id:Int} (hid:inT c.2.1 id):QbH c id=some ((mvN c id:Int),(0,wIds c (Qf c.2.1 id))):=by
 have hp40:=Qap h.t id
 have hR:=Zh h.t
 have hl60:=hR.len
 unfold QbH;rw[QgM _ hR,aLc];show ((Qc _ (0,c)).bind _)=_
 rw[show (up c.2.1 c.2.1.length id).reverse=Qf c.2.1 id from rfl]
 generalize hp:Qf c.2.1 id=p at *;generalize hg:(fun (s35:Int×TC)=>_)=g
 have key:∀(n:Nat) (a:Int) (m:Nat),inT c.2.1 a->pos c.2.1 a<=n->m+n<=1000->Qc g ((m:Int),wIds c (Qf c.2.1 a))=some (.inl (((m+(bk c.2.1 p n a).2:Nat):Int),wIds c (Qf c.2.1 (bk c.2.1 p n a).1))):=by
  intro n;induction n with
  | zero=>
   intro a m U hpn hm;have hneg:idT c.2.1 a<0:=by unfold pos at hpn;omega
   rcases U with rfl | U
   ·refine Qe ?_
    rw[<-hg];show ((bif !decide ((wIds c (Qf c.2.1 0)).2.2.2.1.1=0) then _ else some false:Option Bool).bind _)=_
    rw[QhE h (.inl rfl)];rfl
   ·exact absurd hneg U
  | succ n ih=>
   intro a m U hpn hm;have J:Qw p a=some (decide (a ∈ p)):=Qeh p (by unfold BIG;omega) a
   unfold bk;by_cases hh:a=0\/a ∈ p
   ·rw[if_pos hh]
    refine Qe ?_;rw[<-hg];show ((bif !decide ((wIds c (Qf c.2.1 a)).2.2.2.1.1=0) then (Qw p (wIds c (Qf c.2.1 a)).2.2.2.1.1).bind _ else some false:Option Bool).bind _)=_
    rw[QhE h U];by_cases h0:a=0
    ·rw[aLE h0];rfl
    ·rw[aLD h0,J,aLE (hh.resolve_left h0)];rfl
   ·rw[if_neg hh]
    have h0:a ≠ 0:=fun h0=>hh (.inl h0)
    have h1:a ∉ p:=fun h1=>hh (.inr h1)
    have hin:¬idT c.2.1 a<0:=U.resolve_left h0
    have hd:pos c.2.1 (parT c.2.1 a)<pos c.2.1 a:=hR.down hin
    have hf:=h.f U
    have hs:=Qbg h.t hin
    have hpl:=Qap h.t (parT c.2.1 a)
    have hstep:g ((m:Int),wIds c (Qf c.2.1 a))=some (.inl (((m+1:Nat):Int),wIds c (Qf c.2.1 (parT c.2.1 a)))):=by
     rw[<-hg];show ((bif !decide ((wIds c (Qf c.2.1 a)).2.2.2.1.1=0) then (Qw p (wIds c (Qf c.2.1 a)).2.2.2.1.1).bind _ else some false:Option Bool).bind _)=_
     rw[QhE h U,aLD h0,J,aLD h1];show (J7 (wIds c (Qf c.2.1 a))).bind _=_
     rw[hs] at hf ⊢;rw[QwP h.l (by omega) hf,aLc]
     show some (inl (wrap .i64 ((m:Int)+1),_))=_
     rw[wS (by omega)]
    rw[Qo hstep,ih _ (m+1) (Qrk h.t hin) (by omega) (by omega)]
    congr 3;show ((m+1+(bk c.2.1 p n (parT c.2.1 a)).2:Nat):Int)=((m+((bk c.2.1 p n (parT c.2.1 a)).2+1):Nat):Int)
    omega
 have hpos:=QiN c.2.1 c.2.2.2.1.1
 have k1:=key 60 c.2.2.2.1.1 0 h.a (by omega) (by omega)
 rw[h.w] at k1;rw[show ((0:Nat):Int)=0 from rfl,aMf] at k1
 rw[k1,aLc,Sum.elim_inl];obtain⟨b1,b2,b3⟩:=QrZ h.t p 60 c.2.2.2.1.1 h.a (by omega)
 have hpt:=Qap h.t c.2.2.2.1.1
 have hmv:mvN c id=(bk c.2.1 p 60 c.2.2.2.1.1).2+(p.length - (Qf c.2.1 (bk c.2.1 p 60 c.2.2.2.1.1).1).length):=by unfold mvN;rw[hp]
 rw[hmv];generalize bk c.2.1 p 60 c.2.2.2.1.1=q at *;rw[<-hp] at b2;have hidx:=Qu3 h.t b2
 have I:=Qoi h.t b2
 rw[hp] at hidx I;have hle:(Qf c.2.1 q.1).length<=p.length:=by rw[I,aLi];omega
 show (Zd p (wIds c (Qf c.2.1 q.1)).2.2.2.1.1).bind _=_
 rw[QhE h b1,QqX _ (by unfold BIG;omega),aLc,hidx]
 rw[Qy (by omega) (by omega)]
 have hcut:QA ((Qf c.2.1 q.1).length:Int) (p.length:Int) p=true:=by unfold QA;simp;omega
 rw[hcut,aLB];have hdrop:List.take (Int.toNat ((p.length:Int) - ((Qf c.2.1 q.1).length:Int))) (List.drop (Int.toNat ((Qf c.2.1 q.1).length:Int)) p)=p.drop (Qf c.2.1 q.1).length:=by
  rw[aMd,aMx (by rw[aLz];omega)]
 simp only[hdrop];generalize hk:(Qf c.2.1 q.1).length=k at *;have hpre:Qf c.2.1 q.1=p.take k:=by
  conv=>rhs;rw[I]
  rw[<-hk,List.take_left]
 rw[hpre];generalize hg2:(fun (s46:Int×Int×TC)=>_)=g2
 have hfp:(Qp c.1 p).1.1=0:=by rw[<-hp];exact h.f hid
 have key2:∀(d i:Nat),k+i+d=p.length->Qc g2 (((q.2+i:Nat):Int),((i:Int),wIds c (p.take (k+i))))=some (.inl (((q.2+(p.length - k):Nat):Int),wIds c p)):=by
  intro d;induction d with
  | zero=>
   intro i hi;refine Qe ?_;rw[<-hg2,aMx (by omega)]
   have e1:¬(i:Int)<((p.drop k).length:Int):=by rw[aLz];omega
   simp only[e1,aMD,aLC];rw[show q.2+i=q.2+(p.length - k) by omega]
  | succ d ih=>
   intro i hi;have hki:k+i<p.length:=by omega
   have hdl:i<(p.drop k).length:=by rw[aLz];omega
   have hpe:p.take (k+(i+1))=p.take (k+i)++[p[k+i]]:=by rw[show k+(i+1)=k+i+1 by omega,aMl hki]
   have hfi:(Qp c.1 (p.take (k+i)++[p[k+i]])).1.1=0:=by
    rw[<-hpe];refine Qqp (p.drop (k+(i+1))) _ ?_;rw[List.take_append_drop];exact hfp
   have hge:(p.drop k)[i]=p[k+i]:=by rw[List.getElem_drop]
   rw[Qo (s':=(((q.2+(i+1):Nat):Int),(((i+1:Nat):Int),wIds c (p.take (k+(i+1)))))) (by
    rw[<-hg2];simp only[dlt hdl,Qb _ i hdl,Qa _ i _ hdl,aLB,hge];rw[P_on h.l (by rw[aLn];omega) hfi,aLc]
    simp only[aMc,aMa,aLC];rw[wS (by omega),wS (by omega),hpe,aMh])]
   exact ih (i+1) (by omega)
 have k2:=key2 (p.length - k) 0 (by omega)
 rw[Nat.add_zero,Nat.add_zero,show ((0:Nat):Int)=0 from rfl] at k2
 show ((Qc g2 ((q.2:Int),(0,wIds c (List.take k p)))).bind _)=_
 rw[k2,aLc,Sum.elim_inl]
theorem Qv1 {c:TC} (h:okMv c) (hk:c.2.2.1.length<=100) {id:Int} (hid:inT c.2.1 id):JN c id=some (mMv c id,wIds c (Qf c.2.1 id)):=by
 unfold JN;rw[QwS h hid,aLc];simp only[aMc,aMa,aLC];rw[QmB (h.smI hk (h.f hid) (by have:=Qap h.t id;omega)),aLc]
 rfl
theorem QiJ (l:List Int) (I:l.length<BIG) (x:Int):ZL l x=some (decide (x ∈ l)):=by
 unfold ZL;rw[QhC l (fun a=>decide (a=x)) _ (fun i h=>?_) (by simp only[dge,aLC])]
 ·congr 1
  rw[Bool.eq_iff_iff];simp
 ·simp only[dlt h,Qb l i h,Qa l i _ h,aLB,wsucc h I]
  cases decide (l[i]=x)<;>rfl
theorem QsV {c:TC} (h:okMv c) (hk:c.2.2.1.length<=100) {id:Int} (hid:inT c.2.1 id):Qca c id=some (mMv c id):=by
 have hp40:=Qap h.t id
 have hR:=Zh h.t
 have hl60:=hR.len
 unfold Qca;rw[Qn8 (h.sm hk),aLc,QgN h.t hid,aLc];unfold mMv;generalize hp:Qf c.2.1 id=p at *;generalize hg:(fun (s49:TRC)=>_)=g
 have key:∀(n:Nat) (a:Int) (m:Nat),inT c.2.1 a->pos c.2.1 a<=n->m+n<=1000->Qc g (0,((m:Int),wIds c (Qf c.2.1 a)))=some (.inl (0,(((m+(bk c.2.1 p n a).2:Nat):Int),wIds c (Qf c.2.1 (bk c.2.1 p n a).1)))):=by
  intro n;induction n with
  | zero=>
   intro a m ha hpn hm;have hneg:idT c.2.1 a<0:=by unfold pos at hpn;omega
   rcases ha with rfl | ha
   ·refine Qe ?_
    rw[<-hg];show ((bif !decide ((wIds c (Qf c.2.1 0)).2.2.2.1.1=0) then _ else some false:Option Bool).bind _)=_
    rw[QhE h (.inl rfl)];rfl
   ·exact absurd hneg ha
  | succ n ih=>
   intro a m ha hpn hm;have J:ZL p a=some (decide (a ∈ p)):=QiJ p (by unfold BIG;omega) a
   unfold bk;by_cases hh:a=0\/a ∈ p
   ·rw[if_pos hh]
    refine Qe ?_;rw[<-hg];show ((bif !decide ((wIds c (Qf c.2.1 a)).2.2.2.1.1=0) then (ZL p (wIds c (Qf c.2.1 a)).2.2.2.1.1).bind _ else some false:Option Bool).bind _)=_
    rw[QhE h ha];by_cases h0:a=0
    ·rw[aLE h0];rfl
    ·rw[aLD h0,J,aLE (hh.resolve_left h0)];rfl
   ·rw[if_neg hh]
    have h0:a ≠ 0:=fun h0=>hh (.inl h0)
    have h1:a ∉ p:=fun h1=>hh (.inr h1)
    have hin:¬idT c.2.1 a<0:=ha.resolve_left h0
    have hd:pos c.2.1 (parT c.2.1 a)<pos c.2.1 a:=hR.down hin
    have hf:=h.f ha
    have hs:=Qbg h.t hin
    have hpl:=Qap h.t (parT c.2.1 a)
    have hstep:g (0,((m:Int),wIds c (Qf c.2.1 a)))=some (.inl (0,(((m+1:Nat):Int),wIds c (Qf c.2.1 (parT c.2.1 a))))):=by
     rw[<-hg];show ((bif !decide ((wIds c (Qf c.2.1 a)).2.2.2.1.1=0) then (ZL p (wIds c (Qf c.2.1 a)).2.2.2.1.1).bind _ else some false:Option Bool).bind _)=_
     rw[QhE h ha,aLD h0,J,aLD h1];simp only[aMB,aLB,aLc];rw[hs] at hf ⊢;obtain⟨f1,f2,f3,f4⟩:=Qh2 h.l hf;have hlen:=(Qf6 h.l _ _ rfl f1).1
     rw[f4];simp only[aLi,aMj];rw[aLD (by omega),aLC]
     rw[show wrap .i64 ((((Qp c.1 (Qf c.2.1 (parT c.2.1 a))).2.length+1:Nat):Int) - 1)=((Qp c.1 (Qf c.2.1 (parT c.2.1 a))).2.length:Int) by rw[Qy (by omega) (by omega)];omega,Qb _ _ (by rw[aLi,aMj];omega),aLB,aMd,Qrm,Qp1 h.l f2 f3,aLc]
     rw[aLE (rfl:(0:Int)=0),aMa,aLC,ZI _ _ (by rw[aLi];omega),aLB]
     simp only[Int.sub_zero,aMd,Int.toNat_zero,aMt,QpN];rw[wS (by omega)];rfl
    rw[Qo hstep,ih _ (m+1) (Qrk h.t hin) (by omega) (by omega)]
    congr 4;show ((m+1+(bk c.2.1 p n (parT c.2.1 a)).2:Nat):Int)=((m+((bk c.2.1 p n (parT c.2.1 a)).2+1):Nat):Int)
    omega
 have hpos:=QiN c.2.1 c.2.2.2.1.1
 have k1:=key 60 c.2.2.2.1.1 0 h.a (by omega) (by omega)
 rw[h.w] at k1;rw[show ((0:Nat):Int)=0 from rfl,aMf] at k1
 rw[k1,aLc,Sum.elim_inl];obtain⟨b1,b2,b3⟩:=QrZ h.t p 60 c.2.2.2.1.1 h.a (by omega)
 have hpt:=Qap h.t c.2.2.2.1.1
 have hmv:mvN c id=(bk c.2.1 p 60 c.2.2.2.1.1).2+(p.length - (Qf c.2.1 (bk c.2.1 p 60 c.2.2.2.1.1).1).length):=by unfold mvN;rw[hp]
 rw[hmv];generalize bk c.2.1 p 60 c.2.2.2.1.1=q at *;rw[<-hp] at b2;have I:=Qoi h.t b2
 rw[hp] at I;have hhigh:(wIds c (Qf c.2.1 q.1)).2.2.2.1.2.1=((Qf c.2.1 q.1).length:Int):=h.high b1
 simp only[hhigh];have hle:(Qf c.2.1 q.1).length<=p.length:=by rw[I,aLi];omega
 generalize hk2:(Qf c.2.1 q.1).length=k at *;have hpre:Qf c.2.1 q.1=p.take k:=by
  conv=>rhs;rw[I]
  rw[<-hk2,List.take_left]
 rw[hpre];generalize hg2:(fun (s63:Int×TRC)=>_)=g2
 have hfp:(Qp c.1 p).1.1=0:=by rw[<-hp];exact h.f hid
 have key2:∀(d i:Nat),k+i+d=p.length->Qc g2 (((k+i:Nat):Int),(0,(((q.2+i:Nat):Int),wIds c (p.take (k+i)))))=some (.inl (0,(((q.2+(p.length - k):Nat):Int),wIds c p))):=by
  intro d;induction d with
  | zero=>
   intro i hi;refine Qe ?_;rw[<-hg2,aMx (by omega)]
   simp only[aLD (show ¬((k+i:Nat):Int)<(p.length:Int) by omega),aLC]
   rw[show q.2+i=q.2+(p.length - k) by omega]
  | succ d ih=>
   intro i hi;have U:k+i<p.length:=by omega
   have hpe:p.take (k+(i+1))=p.take (k+i)++[p[k+i]]:=by rw[show k+(i+1)=k+i+1 by omega,aMl U]
   have hfi:(Qp c.1 (p.take (k+i)++[p[k+i]])).1.1=0:=by
    rw[<-hpe];refine Qqp (p.drop (k+(i+1))) _ ?_;rw[List.take_append_drop];exact hfp
   obtain⟨f1,f2,f3,f4⟩:=Qh2 h.l hfi;have hlen:=(Qf6 h.l _ _ rfl f1).1
   have hlt:(p.take (k+i)).length<=100:=by rw[aLn];omega
   rw[Qo (s':=(((k+(i+1):Nat):Int),(0,(((q.2+(i+1):Nat):Int),wIds c (p.take (k+(i+1))))))) (by
    rw[<-hg2];simp only[dlt U,Qb _ _ U,Qa _ _ _ U,aLB];rw[hpe,f4];show ((Yv c.1 (Qp c.1 (p.take (k+i))).1.2.2.2 p[k+i]).bind _)=_
    rw[Qiu h.l f2.o,aLc];simp only[f3,aMc,aMa,aLC];rw[wS (by omega),wS (by omega)]
    show (bif decide ((Qp c.1 (p.take (k+i))).2.length+_<=LIM) then _ else none)=_
    rw[Qj (by simp only[aLh,aLj];unfold LIM;omega)]
    rfl)]
   exact ih (i+1) (by omega)
 have k2:=key2 (p.length - k) 0 (by omega)
 rw[Nat.add_zero,Nat.add_zero] at k2;rw[k2,aLc,Sum.elim_inl]
theorem Qj7 (x:List (List UInt8)) (U:x.length<BIG) (k:Int) (h0:0<=k) (hb:k+(cntL cS x:Int)<(BIG:Int)):Qbh (mkL cS mkS k x) k=some (k+(cntL cS x:Int)):=by
 unfold Qbh;refine Qdr cS mkS x k h0 hb _ (fun i k h J h0 hk I=>?_) (fun k=>by simp only[Y8,dge,aLC])
 simp only[cS] at hk;have w1:wrap .i64 (k+1)=k+1:=wk h0 (by omega)
 simp only[Y8,dlt h,Qb _ i J,aMd,getD_at _ i _ J,I,mkS,aLB,w1,aMc,aMa,aLC,wsucc h U,QmM k h0 (by omega),aLc]
 rfl
theorem QlQ (x:List (Int×Int)) (U:x.length<BIG) (k:Int) (h0:0<=k) (hb:k+(cntL cG x:Int)<(BIG:Int)):Qct (mkL cG mkG k x) k=some (k+(cntL cG x:Int)):=by
 unfold Qct;refine Qdr cG mkG x k h0 hb _ (fun i k h J h0 hk I=>?_) (fun k=>by simp only[Y8,dge,aLC])
 simp only[cG] at hk;have w1:wrap .i64 (k+1)=k+1:=wk h0 (by omega)
 have w2:wrap .i64 (k+1+1)=k+2:=by rw[wk (by omega) (by omega)];omega
 simp only[Y8,dlt h,Qb _ i J,aMd,getD_at _ i _ J,I,mkG,aLB,w1,w2,aMc,aMa,aLC,wsucc h U];rfl
theorem QdC (x:List TMb) (U:x.length<BIG) (k:Int) (h0:0<=k) (hb:k+(cntL cM3 x:Int)<(BIG:Int)):JO (mkL cM3 mkM k x) k=some (k+(cntL cM3 x:Int)):=by
 unfold JO;refine Qdr cM3 mkM x k h0 hb _ (fun i k h J h0 hk I=>?_) (fun k=>by simp only[Y8,dge,aLC])
 simp only[cM3] at hk;have w1:wrap .i64 (k+1)=k+1:=wk h0 (by omega)
 have w2:wrap .i64 (k+1+1)=k+2:=by rw[wk (by omega) (by omega)];omega
 have w3:wrap .i64 (k+2+1)=k+3:=by rw[wk (by omega) (by omega)];omega
 simp only[Y8,dlt h,Qb _ i J,aMd,getD_at _ i _ J,I,mkM,aLB,w1,w2,w3,aMc,aMa,aLC,wsucc h U];rfl
theorem Qlt (x:List TN) (I:x.length<BIG) (k:Int) (h0:0<=k) (hb:k+(cntL cM3 x:Int)<(BIG:Int)):Qfk x k=some (k+(cntL cM3 x:Int),mkL cM3 mkM k x):=Qdp x I k h0 hb
theorem Ql5 (x:List TN) (I:x.length<BIG) (k:Int) (h0:0<=k) (hb:k+(cntL cM3 x:Int)<(BIG:Int)):Qfc (mkL cM3 mkM k x) k=some (k+(cntL cM3 x:Int)):=QdC x I k h0 hb
theorem QhN (x:List TCoin) (hl:x.length<BIG) (I:∀c,c ∈ x->c.2.1.2.1.length<BIG) (k:Int) (h0:0<=k) (hb:k+(cntL cC7 x:Int)<(BIG:Int)):QaC (mkL cC7 mkC7 k x) k=some (k+(cntL cC7 x:Int)):=by
 unfold QaC;refine Qdr cC7 mkC7 x k h0 hb _ (fun i k h h' h0 hk J=>?_) (fun k=>by simp only[Y8,dge,aLC])
 have U:=I _ (aLl h)
 simp only[cC7] at hk;have w1:wrap .i64 (k+1)=k+1:=wk h0 (by omega)
 have w2:wrap .i64 (k+1+1)=k+2:=by rw[wk (by omega) (by omega)];omega
 have w3:wrap .i64 (k+2+1)=k+3:=by rw[wk (by omega) (by omega)];omega
 have hm:=QgR x[i].2.1.2.1 U (k+3) (by omega) (by omega)
 simp only[Y8,dlt h,Qb _ i h',aMd,getD_at _ i _ h',J,mkC7,aLB,w1,w2,w3,aMc,aMa,aLC,hm,aLc];generalize hn:(cntL cI1 x[i].2.1.2.1:Int)=n at *;have hn0:0<=n:=by omega
 have v1:wrap .i64 (k+3+n+1)=k+4+n:=by rw[wk (by omega) (by omega)];omega
 have v2:wrap .i64 (k+4+n+1)=k+5+n:=by rw[wk (by omega) (by omega)];omega
 have v3:wrap .i64 (k+5+n+1)=k+6+n:=by rw[wk (by omega) (by omega)];omega
 have v4:wrap .i64 (k+6+n+1)=k+7+n:=by rw[wk (by omega) (by omega)];omega
 simp only[v1,v2,v3,v4,aLD (show ¬k+3+n<0 by omega),aMc,aMa,aLC,Sh.beq,beq_self_eq_true,wsucc h hl,cC7]
 congr 3;omega
def mkCs (k:Int) (l:List TCoin):List TCoin:=mkL cC7 mkC7 k l
def cU (u:TUn):Nat:=1+cntL (cntL cC7) u.2.1+cntL cM3 u.2.2
def mkU (k:Int) (u:TUn):TUn:=(k,(mkL (cntL cC7) mkCs (k+1) u.2.1,mkL cM3 mkM (k+1+(cntL (cntL cC7) u.2.1:Int)) u.2.2))
theorem Qhf {α:Type} {c:α->Nat} (h:∀a,1<=c a):∀l:List α,l.length<=cntL c l
 | []=>Nat.zero_le _
 | a::l=>by rw[JL,aLh];have:=Qhf h l;have:=h a;omega
theorem Qlq {l:List TCoin}:l.length<=cntL cC7 l/\∀c,c ∈ l->c.2.1.2.1.length<=cntL cC7 l:=by
 refine⟨Qhf (fun a=>by unfold cC7;omega) l,fun c I=>?_⟩
 have h1:=Qm2 cC7 l c I
 have h2:=Qhf (c:=cI1) (fun _=>aMb _) c.2.1.2.1
 have h3:cC7 c=cntL cI1 c.2.1.2.1+7:=rfl
 omega
theorem Qmt {n:Nat} {k:Int} (h0:0<=k) (h:k+(n:Int)<(BIG:Int)) {m:Nat} (hm:m<=n):m<BIG:=by omega
theorem QkV (x:List (List TCoin)) (hl:x.length<BIG) (k:Int) (h0:0<=k) (hb:k+(cntL (cntL cC7) x:Int)<(BIG:Int)):QbB x k=some (k+(cntL (cntL cC7) x:Int),mkL (cntL cC7) mkCs k x):=by
 unfold QbB;rw[Qdw (cntL cC7) mkCs x k h0 hb _ (fun acc i k h I hm h0 hk=>?_) (fun acc k I=>by simp only[I,dge,aLC])]
 ·rfl
 ·obtain⟨J,U⟩:=Qlq (l:=acc[i])
  simp only[dlt h,Qb acc i h,aMd,getD_at acc i _ h,aLB,wsucc h (show acc.length<BIG by omega)]
  rw[Qhp _ (Qmt h0 hk J) (fun c hc=>Qmt h0 hk (U c hc)) _ h0 hk]
  rfl
theorem QkZ (x:List (List TCoin)) (U:x.length<BIG) (k:Int) (h0:0<=k) (hb:k+(cntL (cntL cC7) x:Int)<(BIG:Int)):QbK (mkL (cntL cC7) mkCs k x) k=some (k+(cntL (cntL cC7) x:Int)):=by
 unfold QbK;refine Qdr (cntL cC7) mkCs x k h0 hb _ (fun i k h J h0 hk I=>?_) (fun k=>by simp only[Y8,dge,aLC])
 obtain⟨q1,q2⟩:=Qlq (l:=x[i]);simp only[Y8,dlt h,Qb _ i J,aMd,getD_at _ i _ J,I,mkCs,aLB,wsucc h U];rw[QhN _ (Qmt h0 hk q1) (fun c hc=>Qmt h0 hk (q2 c hc)) _ h0 hk,aLc,aLD (by omega),aLC]
theorem QkS (l:List TMb):l.length<=cntL cM3 l:=Qhf (fun _=>by unfold cM3;omega) l
theorem Ql6 (x:List TUn) (hl:x.length<BIG) (J:∀u,u ∈ x->u.2.1.length<BIG) (k:Int) (h0:0<=k) (hb:k+(cntL cU x:Int)<(BIG:Int)):Qcl x k=some (k+(cntL cU x:Int),mkL cU mkU k x):=by
 unfold Qcl;rw[Qdw cU mkU x k h0 hb _ (fun acc i k h I hm h0 hk=>?_) (fun acc k I=>by simp only[I,dge,aLC])]
 ·rfl
 ·have U:=QkS acc[i].2.2
  simp only[cU] at hk;have w1:wrap .i64 (k+1)=k+1:=wk h0 (by omega)
  have m1:=QkV acc[i].2.1 (J _ hm) (k+1) (by omega) (by omega)
  have m2:=Qdp acc[i].2.2 (by omega) (k+1+(cntL (cntL cC7) acc[i].2.1:Int)) (by omega) (by omega)
  simp only[dlt h,Qhb,Qb acc i h,aMd,List.set_set,QaT acc i _ _ h,getD_at acc i _ h,aLB,w1,wsucc h (show acc.length<BIG by omega),m1,m2,aLc]
  simp only[mkU,cU];congr 4;omega
theorem QlG (x:List TUn) (U:x.length<BIG) (hs:∀u,u ∈ x->u.2.1.length<BIG) (k:Int) (h0:0<=k) (hb:k+(cntL cU x:Int)<(BIG:Int)):Qcr (mkL cU mkU k x) k=some (k+(cntL cU x:Int)):=by
 unfold Qcr;refine Qdr cU mkU x k h0 hb _ (fun i k h J h0 hk I=>?_) (fun k=>by simp only[Y8,dge,aLC])
 have hms:=QkS x[i].2.2
 simp only[cU] at hk;have w1:wrap .i64 (k+1)=k+1:=wk h0 (by omega)
 have m1:=QkZ x[i].2.1 (hs _ (aLl h)) (k+1) (by omega) (by omega)
 have m2:=QdC x[i].2.2 (by omega) (k+1+(cntL (cntL cC7) x[i].2.1:Int)) (by omega) (by omega)
 simp only[Y8,dlt h,Qb _ i J,aMd,getD_at _ i _ J,I,mkU,aLB,w1,aMc,aMa,aLC,m1,m2,aLc,wsucc h U];rw[aLD (by omega),aLD (by omega)]
 simp only[aLC,cU];congr 3;omega
def cC (c:TC):Nat:=cL c.1+cntL cM3 c.2.1+cntL cI1 c.2.2.1+(cntL cC7 c.2.2.2.1.2.2.1+cntL cM3 c.2.2.2.1.2.2.2)+cntL cU c.2.2.2.2
noncomputable def mkCh (k:Int) (c:TC):TC:=
 (mkLd k c.1,(mkL cM3 mkM (k+(cL c.1:Int)) c.2.1,(mkL cI1 mkI (k+(cL c.1:Int)+(cntL cM3 c.2.1:Int)) c.2.2.1,((c.2.2.2.1.1,(c.2.2.2.1.2.1,(mkL cC7 mkC7 (k+(cL c.1:Int)+(cntL cM3 c.2.1:Int)+(cntL cI1 c.2.2.1:Int)) c.2.2.2.1.2.2.1,
  mkL cM3 mkM (k+(cL c.1:Int)+(cntL cM3 c.2.1:Int)+(cntL cI1 c.2.2.1:Int)+(cntL cC7 c.2.2.2.1.2.2.1:Int)) c.2.2.2.1.2.2.2))),
  mkL cU mkU (k+(cL c.1:Int)+(cntL cM3 c.2.1:Int)+(cntL cI1 c.2.2.1:Int)+(cntL cC7 c.2.2.2.1.2.2.1:Int)+(cntL cM3 c.2.2.2.1.2.2.2:Int)) c.2.2.2.2))))
structure smM (c:TC):Prop where
 s:∀u,u ∈ c.2.2.2.2->u.2.1.length<BIG
 n:cC c<=100000000000
theorem smM.p {c:TC} (h:smM c):c.1.1.length<BIG/\c.1.2.length<BIG/\c.2.1.length<BIG/\c.2.2.1.length<BIG/\c.2.2.2.1.2.2.1.length<BIG/\(∀x,x ∈ c.2.2.2.1.2.2.1->x.2.1.2.1.length<BIG)/\c.2.2.2.1.2.2.2.length<BIG/\c.2.2.2.2.length<BIG:=by
 have J:BIG=4611686018427387904:=rfl
 have h0:=h.n
 have h1:=QkS c.2.1
 have h2:=Qhf (c:=cI1) (fun _=>aMb _) c.2.2.1
 obtain⟨h3,h4⟩:=Qlq (l:=c.2.2.2.1.2.2.1);have h5:=QkS c.2.2.2.1.2.2.2
 have h6:=Qhf (c:=cU) (fun a=>by unfold cU;omega) c.2.2.2.2
 have h7:=Qsm c.1
 unfold cC at h0;exact⟨by omega,by omega,by omega,by omega,by omega,fun x I=>by have:=h4 x I;omega,by omega,by omega⟩
theorem Qk5 {c:TC} (h:smM c):QaL c 1=some (1+(cC c:Int),mkCh 1 c):=by
 have hB:BIG=4611686018427387904:=rfl
 have h0:=h.n
 obtain⟨I,J,U,q4,q5,q6,q7,q8⟩:=h.p;have e:(cC c:Int)=(cL c.1:Int)+(cntL cM3 c.2.1:Int)+(cntL cI1 c.2.2.1:Int)+(cntL cC7 c.2.2.2.1.2.2.1:Int)+(cntL cM3 c.2.2.2.1.2.2.2:Int)+(cntL cU c.2.2.2.2:Int):=by unfold cC;omega
 have e1:(cL c.1:Int)=(cntL cS c.1.1:Int)+(cntL cG c.1.2:Int):=by unfold cL;omega
 unfold QaL Qeo Qfl;rw[QkG _ I 1 (by omega) (by omega),aLc,QlO _ J _ (by omega) (by omega),aLc]
 simp only[aLc];rw[show (1:Int)+(cntL cS c.1.1:Int)+(cntL cG c.1.2:Int)=1+(cL c.1:Int) by omega]
 rw[Qlt _ U _ (by omega) (by omega),aLc,QgQ _ q4 _ (by omega) (by omega),aLc,Qhp _ q5 q6 _ (by omega) (by omega),aLc,Qdp _ q7 _ (by omega) (by omega),aLc,aLc,Ql6 _ q8 h.s _ (by omega) (by omega),aLc]
 unfold mkCh mkLd;rw[e];simp only[Int.add_assoc]
theorem QqK {c:TC} (h:smM c):QaJ (mkCh 1 c) 1=some (1+(cC c:Int)):=by
 have hB:BIG=4611686018427387904:=rfl
 have h0:=h.n
 obtain⟨I,J,U,q4,q5,q6,q7,q8⟩:=h.p;have e:(cC c:Int)=(cL c.1:Int)+(cntL cM3 c.2.1:Int)+(cntL cI1 c.2.2.1:Int)+(cntL cC7 c.2.2.2.1.2.2.1:Int)+(cntL cM3 c.2.2.2.1.2.2.2:Int)+(cntL cU c.2.2.2.2:Int):=by unfold cC;omega
 have e1:(cL c.1:Int)=(cntL cS c.1.1:Int)+(cntL cG c.1.2:Int):=by unfold cL;omega
 unfold QaJ Qeq Qfd mkCh mkLd;simp only;rw[Qj7 _ I 1 (by omega) (by omega),aLc,Qa0 (by omega),QlQ _ J _ (by omega) (by omega),aLc,Qa0 (by omega),aLc]
 rw[show (1:Int)+(cntL cS c.1.1:Int)+(cntL cG c.1.2:Int)=1+(cL c.1:Int) by omega,Qa0 (by omega)]
 rw[Ql5 _ U _ (by omega) (by omega),aLc,Qa0 (by omega),QgR _ q4 _ (by omega) (by omega),aLc,Qa0 (by omega),QhN _ q5 q6 _ (by omega) (by omega),aLc,Qa0 (by omega),QdC _ q7 _ (by omega) (by omega),aLc,Qa0 (by omega),aLc,Qa0 (by omega),QlG _ q8 h.s _ (by omega) (by omega),aLc,Qa0 (by omega),e]
 simp only[Int.add_assoc]
theorem Qi9 (x y:TRC) (I:QdL x.2.2):Yc x y=some (decide (x=y)):=by
 unfold Yc;obtain⟨J,a2,a3⟩:=x;obtain⟨U,b2,b3⟩:=y;rw[Qi0 _ _ I];by_cases h1:J=U<;>by_cases h2:a2=b2<;>by_cases h3:a3=b3<;>simp[h1,h2,h3]
theorem Qun {r:TRC} (h:smM r.2.2):JB r 1=some (1+(cC r.2.2:Int),(r.1,(r.2.1,mkCh 1 r.2.2))):=by
 unfold JB;rw[Qk5 h];rfl
theorem Qvi {r:TRC} (h:smM r.2.2):Yn (r.1,(r.2.1,mkCh 1 r.2.2)) 1=some (1+(cC r.2.2:Int)):=by
 unfold Yn;show (QaJ (mkCh 1 r.2.2) 1).bind _=_
 rw[QqK h,aLc,Qa0 (by omega)]
theorem QaW {α:Type} {c:α->Nat} {M:Nat}:∀{l:List α},(∀a,a ∈ l->c a<=M)->cntL c l<=M * l.length
 | [],_=>by simp[cntL]
 | a::l,h=>by
  rw[JL,aLh,Nat.mul_add];have h1:=QaW (c:=c) (l:=l) (fun b hb=>h b (aLp _ hb))
  have h2:=h a (aLm ..)
  omega
theorem QnY {l:List TCoin} {M:Nat} (hk:∀x,x ∈ l->x.2.1.2.1.length<=M):cntL cC7 l<=(M+7) * l.length:=by
 refine QaW fun x I=>?_
 have h1:=hk x I
 have h2:cntL cI1 x.2.1.2.1=x.2.1.2.1.length:=by unfold cI1;rw[QfM];omega
 unfold cC7;omega
theorem smC.m {c:TC} (h:smC c):smM c:=by
 have hB:BIG=4611686018427387904:=rfl
 obtain⟨l1,l2,l3,l4,I,l6,J⟩:=h;refine⟨fun u hu=>by have:=(J u hu).s;omega,?_⟩
 have e1:=Qsm c.1
 have e2:cntL cM3 c.2.1<=3 * c.2.1.length:=QaW (fun _ _=>aMb _)
 have e3:cntL cI1 c.2.2.1<=1 * c.2.2.1.length:=QaW (fun _ _=>aMb _)
 obtain⟨k1,k2⟩:=QpG I.o.c;have e4:=QnY k2
 have e5:cntL cM3 c.2.2.2.1.2.2.2<=3 * c.2.2.2.1.2.2.2.length:=QaW (fun _ _=>aMb _)
 have k5:=I.m.r.2
 have e6:cntL cU c.2.2.2.2<=2000000 * c.2.2.2.2.length:=QaW fun u hu=>by
  obtain⟨u1,u2,u3⟩:=J u hu;have a1:cntL (cntL cC7) u.2.1<=10700 * u.2.1.length:=QaW fun s U=>by
   obtain⟨s1,s2⟩:=u2 s U;have:=QnY s2
   omega
  have a2:cntL cM3 u.2.2<=3 * u.2.2.length:=QaW (fun _ _=>aMb _)
  unfold cU;omega
 unfold cC;omega
theorem smC.b {c:TC} (h:smC c) (I:∀s,s ∈ c.1.1->s.length<=9223372036854775807):QdL c:=by
 obtain⟨l1,l2,l3,l4,J,l6,U⟩:=h;exact⟨⟨⟨by omega,fun s hh=>⟨I s hh,fun _ _=>trivial⟩⟩,⟨by omega,fun _ _=>trivial⟩⟩,⟨by omega,fun _ _=>trivial⟩,⟨by omega,fun _ _=>trivial⟩,Qpi J.o,
  ⟨by omega,fun u hu=>by
   obtain⟨u1,u2,u3⟩:=U u hu;exact⟨⟨by omega,fun s I=>by
    obtain⟨s1,s2⟩:=u2 s I;exact⟨by omega,fun x hx=>⟨by have:=s2 x hx;omega,fun _ _=>trivial⟩⟩⟩,⟨by omega,fun _ _=>trivial⟩⟩⟩⟩
theorem Qw2 (l:List (List TCoin)):cntL (cntL cC7) l<=7 * Qdq l:=by
 unfold Qdq;induction l with
 | nil=>simp[cntL]
 | cons a l I=>
  have:=cntC a
  rw[JL,aMJ,List.sum_cons,aLh];omega
theorem Qw4 (l:List TUn):cntL cU l<=7 * QdD l:=by
 unfold QdD;induction l with
 | nil=>simp[cntL]
 | cons a l I=>
  have h1:=Qw2 a.2.1
  have h2:cntL cM3 a.2.2<=3 * a.2.2.length:=QaW (fun _ _=>aMb _)
  rw[JL,aMJ,List.sum_cons,aLh];have h3:cU a<=1+7 * Ja a:=by unfold cU Ja;omega
  omega
theorem QvU {c:TC} (h:J4 c<=1048576):smM c:=by
 have I:BIG=4611686018427387904:=rfl
 simp only[J4,Qgn] at h;have J:c.1.1.length<=QhK c.1.1:=Nat.le_add_right _ _
 refine⟨fun u hu=>?_,?_⟩
 ·have h1:Ja u<=(c.2.2.2.2.map Ja).sum:=Qm2 Ja _ u hu
  have h2:u.2.1.length<=Qdq u.2.1:=Nat.le_add_right _ _
  simp only[QdD,Ja] at h h1;omega
 ·have e1:=Qsm c.1
  have U:cntL cM3 c.2.1<=3 * c.2.1.length:=QaW (fun _ _=>aMb _)
  have e3:cntL cI1 c.2.2.1<=1 * c.2.2.1.length:=QaW (fun _ _=>aMb _)
  have e4:=cntC c.2.2.2.1.2.2.1
  have e5:cntL cM3 c.2.2.2.1.2.2.2<=3 * c.2.2.2.1.2.2.2.length:=QaW (fun _ _=>aMb _)
  have e6:=Qw4 c.2.2.2.2
  unfold cC;omega
theorem Qw0 {t:List TN} (I:Ze t=0) (id:Int):Qc0 t id=some (!decide (idT t id<0)):=by
 unfold Qc0;rw[JT _ (Jf (Zh I)),aLc,QgV]
theorem Qtq:smC noC:=⟨by decide,by decide,by decide,by decide,QpV,by decide,fun u hu=>by cases hu⟩
theorem QwE {α:Type} (p:Prop) [Decidable p] (a b:α):(bif !(!decide p) then a else b)=if p then a else b:=by by_cases h:p<;>simp[h]
theorem QmN {α:Type} (p:Prop) [Decidable p] (a b:α):(bif decide p then a else b)=if p then a else b:=by by_cases h:p<;>simp[h]
theorem Qth {α:Type} (p:Bool) (a b:α):(bif !(!p) then a else b)=if p=true then a else b:=by cases p<;>rfl
theorem Qrz {c:TC} (ok:okCh c) {id:Int} (h1:¬idT c.2.1 id<0):∀k,k ∈ c.2.2.1++[id]->¬idT c.2.1 k<0:=fun k hk=>by
 rcases aMi.1 hk with hk | hk
 ·exact QlH ok.kc k hk
 ·rw[aLs.1 hk];exact h1
theorem Qq7 {c:TC} (ok:okCh c) (id:Int):QcC c id=some (mLB1 c id):=by
 have hk:=ok.k
 unfold QcC mLB1;rw[QmB (ok.mv.sm (by omega)),aLc,Qw0 ok.t,aLc,QwE]
 split
 ·rfl
 ·rename_i h1
  rw[Qmk ok.t _ (by unfold BIG;omega),aLc,Qth]
  split
  ·rfl
  ·rename_i h2
   rw[Qeh _ (by unfold BIG;omega),aLc,QmN]
   split
   ·rfl
   ·rw[QmN]
    by_cases h4:c.2.2.1.length=20
    ·rw[if_pos (by omega),if_pos h4];rfl
    ·rw[if_neg (by omega),if_neg h4,Qj (by simp only[aLh,aLj];unfold LIM;omega)]
     show ((QaY c.2.1 (c.2.2.1++[id])).bind _)=_
     rw[QjK _ (Zh ok.t) _ (by rw[aLi,aMj];unfold BIG;omega) (Qrz ok h1),aLc]
     show (JN (cTL c c.2.1 (c.2.2.1++[id])) (Qbi (cTL c c.2.1 (c.2.2.1++[id])))).bind _=_
     rw[Qv1 (QkL ok (c.2.2.1++[id])) (by show (c.2.2.1++[id]).length<=_;rw[aLi,aMj];omega) (Qlr ok.t)];rfl
theorem QlE {c:TC} (I:c.1.1.length<BIG) (J:c.1.2.length<BIG) (U:c.2.1.length<BIG) (b4:c.2.2.1.length<BIG) (id:Int):QaA c id=some (mLB c id):=by
 unfold QaA mLB;rw[QkW I J U b4,aLc,QN];split
 ·rename_i h
  rw[Qq7 (QmW h)];rfl
 ·rfl
theorem QlL {c:TC} (U:c.1.1.length<BIG) (b2:c.1.2.length<BIG) (J:c.2.1.length<BIG) (I:c.2.2.1.length<BIG) (hu:bL Qa8 c.2.2.2.2) (id:Int):Qcm c id=some (mLB c id):=by
 unfold Qcm mLB;rw[Qss U b2 J I hu,aLc,QN];split
 ·rename_i h
  have ok:=QmW h
  have hk:=ok.k
  unfold mLB1;simp only;rw[JC _ J,aLc,QmN];split
  ·rfl
  ·rename_i h1
   rw[QnW ok.t _ I,aLc,Qth];split
   ·rfl
   ·rename_i h2
    rw[Qn8 (ok.mv.sm (by omega)),aLc,QiJ _ I,aLc,QmN]
    split
    ·rfl
    ·rw[QmN]
     by_cases h4:c.2.2.1.length=20
     ·rw[if_pos (by omega),if_pos h4];rfl
     ·rw[if_neg (by omega),if_neg h4,Qj (by simp only[aLh,aLj];unfold LIM;omega)]
      show ((QaS c.2.1 (c.2.2.1++[id])).bind _)=_
      rw[QjQ _ (Zh ok.t) (fun i hi=>(Qki ok.t i hi).1) _ (by rw[aLi,aMj];unfold BIG;omega) (Qrz ok h1),aLc]
      show (Qca (cTL c c.2.1 (c.2.2.1++[id])) (Qbi (cTL c c.2.1 (c.2.2.1++[id])))).bind _=_
      rw[QsV (QkL ok (c.2.2.1++[id])) (by show (c.2.2.1++[id]).length<=_;rw[aLi,aMj];omega) (Qlr ok.t)];rfl
 ·rfl
theorem Qpn:smM noC/\QdL noC:=⟨Qtq.m,Qtq.b (fun _ h=>by cases h)⟩
theorem QvC {c x:TC} (I:smC x) (J:QdL c) (U:x.1=c.1):smM x/\QdL x:=⟨I.m,I.b (fun s h=>(J.1.1.2 s (by rw[<-U];exact h)).1)⟩
theorem QwO {c:TC} (I:QdL c) (id:Int):smM (mLB c id).2.2/\QdL (mLB c id).2.2:=by
 unfold mLB;split
 ·rename_i h
  have ok:=QmW h
  have hk:=ok.k
  unfold mLB1;split
  ·exact Qpn
  ·split
   ·exact Qpn
   ·split
    ·exact QvC (ok.mv.sm (by omega)) I rfl
    ·split
     ·exact Qpn
     ·exact QvC ((QkL ok (c.2.2.1++[id])).smI (by show (c.2.2.1++[id]).length<=_;rw[aLi,aMj];omega) ((QkL ok (c.2.2.1++[id])).f (Qlr ok.t)) (by have:=Qap ok.t (Qbi (cTL c c.2.1 (c.2.2.1++[id])));show (Qf c.2.1 _).length<=_;omega)) I rfl
 ·exact Qpn
theorem Qje (x:TC) (id:Int) (J:QdL x):Ji x id=some true:=by
 unfold Ji;rw[Qnk x J 1048576 (by omega) (by omega),aLc]
 cases hc:decide (szr (J4 x) 1048576<0) with
 | true=>rfl
 | false=>
  have h1:0<=szr (J4 x) 1048576:=by have:=aLH hc;omega
  have hl1:=QfJ h1
  have I:J4 x<=1048576:=by omega
  obtain⟨U,b2,b3,b4⟩:=QvL I;obtain⟨r1,r2⟩:=QwO J id;rw[aLC,Qnc x I];simp only[aLc,QlL U b2 b3 b4 J.2.2.2.2 id,QlE U b2 b3 b4 id,Qi0 x x J,Qi9 _ _ r2,Qk5 (QvU I),Qun r1,Qvi r1,aMc,aMa,aLC];simp only[Qa0 (show 0<=1+(cC x:Int) by omega),Qa0 (show 0<=1+(cC (mLB x id).2.2:Int) by omega),aLc,aLC]
end GL
end Go.Dx
