/- The plain law: no program in sight -/
import Derived.Test.YtafmdbgjajnnkaaGreatDoorPla
set_option linter.unusedVariables false
set_option linter.unusedSimpArgs false
set_option maxHeartbeats 2000000
namespace Go.Dx
namespace GL
theorem Qi4 {n:Int} (h0:0<=n) (h1:n<=9223372036854775807):Y (QL n) (fun r=>r.length<=19):=Y.of (Yk h0 h1) (QsI h0 h1)
theorem Yp {α β:Type} (l:List α) (m:List β) (hl:l.length<=1000000) (hm:m.length<=1000000):decide (List.length l+List.length m<=LIM)=true:=by
 rw[aLF];unfold LIM;omega
theorem QzU {t:TX} (h:okW t):Y (Y3 t) (fun r=>r.length<=5000):=by
 have hk:=h.kind
 have hm:=h.mem
 have hli:=h.li
 have hlo:=h.lo
 unfold Y3
 refine Y.grd (QV (by omega) (by show t.1<((3:Nat):Int);omega)) ?_
 have hkw:(List.getD ([[112,97,121],[106,111,105,110,32],[108,101,97,118,101,32]]:List (List UInt8)) (Int.toNat t.1) []).length<=6:=by
  have:t.1=0\/t.1=1\/t.1=2:=by omega
  rcases this with e | e | e<;>rw[e]<;>decide
 refine Y.bind (Q:=fun (j:List UInt8)=>j.length<=100) (Y.bif (fun _=>?_) (fun _=>Y.some (by omega))) (fun j27 h27=>?_)
 ·refine Y.bind (Qi4 (n:=t.2.1) (by omega) (by omega)) fun y26 h26=>?_
  refine Y.grd (Yp _ _ (by omega) (by omega)) (Y.some ?_)
  simp only[aLo,aLi];omega
 ·refine Y.bind (Q:=fun (j:List UInt8)=>j.length<=500) ?_ (fun j37 h37=>?_)
  ·refine Y.loop (fun n (st:List UInt8×Int)=>0<=st.2/\st.2+(n:Int)=(t.2.2.1.length:Int)/\st.1.length+100 * n<=500) (fun n st hi=>?_) t.2.2.1.length (j27,0) ⟨Int.le_refl _,by simp,by show j27.length+_<=500;omega⟩
   obtain⟨i1,i2,i3⟩:=hi
   refine Y.bif (fun hc=>?_) (fun hc=>Y.some (by show st.1.length<=500;omega))
   have hc:=aLG hc
   have hin:=QV i1 hc
   obtain⟨k,hk2⟩:=aLA i1
   have hk3:k<t.2.2.1.length:=by omega
   have hr:=h.ref _ (aLl hk3)
   have hg:List.getD t.2.2.1 (Int.toNat st.2) (0,0)=t.2.2.1[k]:=by rw[hk2,Qg _ k _ hk3]
   refine Y.bind (Q:=fun (q:List UInt8)=>q.length=1) (Y.bif (fun _=>Y.some rfl) (fun _=>Y.some rfl)) (fun q hq=>?_)
   refine Y.grd (Yp _ _ (by omega) (by omega)) (Y.grd hin ?_)
   rw[hg]
   refine Y.bind (Qi4 (by omega) (by omega)) fun y35 h35=>?_
   refine Y.grd (Yp _ _ (by simp only[aLo,aLi];omega) (by omega)) (Y.grd (Yp _ _ (by simp only[aLo,aLi];omega) (by simp)) (Y.grd hin ?_))
   refine Y.bind (Qi4 (by omega) (by omega)) fun y36 h36=>?_
   refine Y.grd (Yp _ _ (by simp only[aLo,aLi,aLh,aLj];omega) (by omega)) (Y.some ⟨n - 1,by omega,?_,?_,?_⟩)
   ·show 0<=IntKind.wrap .i64 (st.2+1)
    rw[Qi (by omega) (by omega)];omega
   ·show IntKind.wrap .i64 (st.2+1)+_=_
    rw[Qi (by omega) (by omega)];omega
   ·show (List.append _ _).length+100 * (n - 1)<=500
    simp only[aLo,aLi,aLh,aLj];omega
  ·refine Y.bind (Q:=fun (j:List UInt8)=>j.length<=5000) ?_ (fun j48 h48=>Y.some h48)
   refine Y.loop (fun n (st:List UInt8×Int)=>0<=st.2/\st.2+(n:Int)=(t.2.2.2.length:Int)/\st.1.length+1000 * n<=5000) (fun n st hi=>?_) t.2.2.2.length (j37,0) ⟨Int.le_refl _,by simp,by show j37.length+_<=5000;omega⟩
   obtain⟨i1,i2,i3⟩:=hi
   refine Y.bif (fun hc=>?_) (fun hc=>Y.some (by show st.1.length<=5000;omega))
   have hc:=aLG hc
   have hin:=QV i1 hc
   obtain⟨k,hk2⟩:=aLA i1
   have hk3:k<t.2.2.2.length:=by omega
   have hr:=h.out _ (aLl hk3)
   have hg:List.getD t.2.2.2 (Int.toNat st.2) (0,([],(0,0)))=t.2.2.2[k]:=by rw[hk2,Qg _ k _ hk3]
   refine Y.grd (Yp _ _ (by omega) (by simp)) (Y.grd hin ?_)
   rw[hg]
   refine Y.bind (Qi4 (by omega) (by omega)) fun y45 h45=>?_
   refine Y.grd (Yp _ _ (by simp only[aLo,aLi,aLh,aLj];omega) (by omega)) (Y.grd (Yp _ _ (by simp only[aLo,aLi,aLh,aLj];omega) (by simp)) (Y.grd hin ?_))
   have l2:=Qr9 hr.2 [32] (by simp)
   refine Y.eqb (QoW hr.2) (Y.eqb (Qx3 (Qv t.2.2.2[k].2 [32]) 32 95 (by omega)) ?_)
   have l3:(swp 32 95 (Qv t.2.2.2[k].2 [32])).length=(Qv t.2.2.2[k].2 [32]).length:=by unfold swp;rw[List.length_map]
   refine Y.grd (Yp _ _ (by simp only[aLo,aLi,aLh,aLj];omega) (by omega)) (Y.some ⟨n - 1,by omega,?_,?_,?_⟩)
   ·show 0<=IntKind.wrap .i64 (st.2+1)
    rw[Qi (by omega) (by omega)];omega
   ·show IntKind.wrap .i64 (st.2+1)+_=_
    rw[Qi (by omega) (by omega)];omega
   ·show (List.append _ _).length+1000 * (n - 1)<=5000
    simp only[aLo,aLi,aLh,aLj];omega
abbrev TBk:=Int×Int×Int×List Int
structure okB (b:TBk):Prop where
 p:0<=b.1/\b.1<=1000
 h:0<=b.2.1/\b.2.1<=1000
 m:0<=b.2.2.1/\b.2.2.1<=1000
 n:b.2.2.2.length<=10
 t:∀x,x ∈ b.2.2.2->0<=x/\x<=1000
theorem QAZ {b:TBk} (h:okB b):Y (QgZ b) (fun r=>r.length<=5000):=by
 have hp:=h.p
 have hh:=h.h
 have hm:=h.m
 have hn:=h.n
 unfold QgZ
 refine Y.bind (Qi4 (by omega) (by omega)) fun y11 h11=>?_
 refine Y.grd (Yp _ _ (by simp) (by omega)) (Y.grd (Yp _ _ (by simp only[aLo,aLi,aLh,aLj];omega) (by simp)) ?_)
 refine Y.bind (Qi4 (by omega) (by omega)) fun y12 h12=>?_
 refine Y.grd (Yp _ _ (by simp only[aLo,aLi,aLh,aLj];omega) (by omega)) (Y.grd (Yp _ _ (by simp only[aLo,aLi,aLh,aLj];omega) (by simp)) ?_)
 refine Y.bind (Qi4 (by omega) (by omega)) fun y13 h13=>?_
 refine Y.grd (Yp _ _ (by simp only[aLo,aLi,aLh,aLj];omega) (by omega)) ?_
 obtain⟨hd,hhd⟩:∃hd,hd=List.append (List.append (List.append (List.append (List.append [98,108,111,99,107,32] y11) [32]) y12) [32]) y13:=⟨_,rfl⟩
 have hl:hd.length<=100:=by rw[hhd];simp only[aLo,aLi,aLh,aLj];omega
 rw[<-hhd]
 refine Y.bif (fun _=>Y.grd (Yp _ _ (by omega) (by simp)) (Y.some (by simp only[aLo,aLi,aLh,aLj];omega))) (fun _=>?_)
 refine Y.bind (Q:=fun (j:List UInt8)=>j.length<=5000) ?_ (fun j20 h20=>Y.some h20)
 refine Y.loop (fun n (st:List UInt8×Int)=>0<=st.2/\st.2+(n:Int)=(b.2.2.2.length:Int)/\st.1.length+100 * n<=5000) (fun n st hi=>?_) b.2.2.2.length (hd,0) ⟨Int.le_refl _,by simp,by show hd.length+_<=5000;omega⟩
 obtain⟨i1,i2,i3⟩:=hi
 refine Y.bif (fun hc=>?_) (fun hc=>Y.some (by show st.1.length<=5000;omega))
 have hc:=aLG hc
 have hin:=QV i1 hc
 obtain⟨k,hk2⟩:=aLA i1
 have hk3:k<b.2.2.2.length:=by omega
 have hr:=h.t _ (aLl hk3)
 have hg:List.getD b.2.2.2 (Int.toNat st.2) 0=b.2.2.2[k]:=by rw[hk2,Qg _ k _ hk3]
 refine Y.bind (Q:=fun (q:List UInt8)=>q.length=1) (Y.bif (fun _=>Y.some rfl) (fun _=>Y.some rfl)) (fun q hq=>?_)
 refine Y.grd (Yp _ _ (by omega) (by omega)) (Y.grd hin ?_)
 rw[hg]
 refine Y.bind (Qi4 (by omega) (by omega)) fun y19 h19=>?_
 refine Y.grd (Yp _ _ (by simp only[aLo,aLi];omega) (by omega)) (Y.some ⟨n - 1,by omega,?_,?_,?_⟩)
 ·show 0<=IntKind.wrap .i64 (st.2+1)
  rw[Qi (by omega) (by omega)];omega
 ·show IntKind.wrap .i64 (st.2+1)+_=_
  rw[Qi (by omega) (by omega)];omega
 ·show (List.append _ _).length+100 * (n - 1)<=5000
  simp only[aLo,aLi,aLh,aLj];omega
structure kX (x:TCoin):Prop where
 k:x.2.1.2.1.length<=10
 t:0<=x.1.1/\x.1.1<=100
 a:0<=x.1.2/\x.1.2<=100
structure kXs (l:List TCoin):Prop where
 n:l.length<=41
 x:∀x,x ∈ l->kX x
theorem kXs.kL {l:List TCoin} (h:kXs l):kL l:=⟨h.n,fun x hx=>(h.x x hx).k⟩
theorem kXs.nil:kXs []:=⟨by simp,fun x hx=>nomatch hx⟩
theorem QDc (l:List TCoin) (tx:Int) (outs:List TOut) (h:Int) (m:Bool) (hl:l.length+outs.length<=40) (hk:∀x,x ∈ l->kX x) (ho:∀x,x ∈ outs->kRu x.2) (ht:0<=tx/\tx<=100):Y (Qc6 l tx outs h m) (fun r=>kXs r.1/\r.2=l):=by
 unfold Qc6
 rw[QeB l (by omega) (fun x hx=>by have:=(hk x hx).k;omega),aLc]
 refine Y.bind (Q:=kXs) ?_ (fun j hj=>Y.some ⟨hj,rfl⟩)
 refine Y.loop (fun n (st:List TCoin×Int)=>0<=st.2/\st.2+(n:Int)=(outs.length:Int)/\st.1.length+n<=40/\∀x,x ∈ st.1->kX x) (fun n st hi=>?_) outs.length (l,0) ⟨Int.le_refl _,by simp,hl,hk⟩
 obtain⟨i1,i2,i3,i4⟩:=hi
 refine Y.bif (fun hc=>?_) (fun hc=>Y.some ⟨by omega,i4⟩)
 have hc:=aLG hc
 have hin:=QV i1 hc
 refine Y.grd hin (Y.grd hin ?_)
 obtain⟨k,hk2⟩:=aLA i1
 have hk3:k<outs.length:=by omega
 rw[hk2,Qg outs k _ hk3]
 have hor:=ho _ (aLl hk3)
 unfold kRu at hor
 rw[Qov _ (by omega),aLc]
 refine Y.bind (QzW _ _ (by omega)) fun y17 h17=>Y.some ⟨n - 1,by omega,?_⟩
 refine⟨?_,?_,?_,fun x hx=>?_⟩
 ·show 0<=IntKind.wrap .i64 ((k:Int)+1)
  rw[Qi (by omega) (by omega)];omega
 ·show IntKind.wrap .i64 ((k:Int)+1)+_=_
  rw[Qi (by omega) (by omega)];omega
 ·show y17.length+_<=40
  rw[h17.1];omega
 ·rcases h17.2 x hx with rfl | hx
  ·exact⟨by show (outs[k].2.1).length<=10;omega,ht,by show 0<=(k:Int)/\(k:Int)<=100;omega⟩
  ·exact i4 x hx
theorem Qtg (l:List TCoin) (tx:Int) (outs:List TOut) (h:Int) (m:Bool) (hl:kXs l) (ho:Qxj outs):Y (YR l tx outs h m) (fun r=>kXs r.1.2/\r.2=l):=by
 have hk:∀x,x ∈ l->x.2.1.2.1.length<BIG:=fun x hx=>by
  have:=(hl.x x hx).k;unfold BIG;omega
 have hlB:l.length<BIG:=by have:=hl.n;unfold BIG;omega
 unfold YR
 rw[QbE l hlB hk,aLc,Zp,aLc,QcI]
 refine Y.bif (fun _=>Y.some ⟨kXs.nil,rfl⟩) (fun _=>?_)
 refine Y.bind (Q:=fun b=>b=false->mIn tx 1 60=true) (Y.bif (fun _=>Y.some (fun h=>by cases h)) (fun h1=>Y.some (fun _=>by simpa using h1))) (fun b hb=>?_)
 refine Y.bif (fun _=>Y.some ⟨kXs.nil,rfl⟩) (fun hb2=>?_)
 have htx:=ZA.1 (hb hb2)
 refine Y.bif (fun _=>Y.some ⟨kXs.nil,rfl⟩) (fun _=>?_)
 refine Y.bind (Q:=fun (j:Unit⊕(Int×List TCoin))=>match j with | .inl _=>True | .inr r=>r.2=[]) ?_ (fun j hj=>?_)
 ·refine Y.loop (fun n (st:Int)=>0<=st/\st+(n:Int)=(outs.length:Int)) (fun n st hi=>?_) outs.length 0 ⟨Int.le_refl _,by omega⟩
  obtain⟨i1,i2⟩:=hi
  refine Y.bif (fun hc=>?_) (fun hc=>Y.some trivial)
  have hc:=aLG hc
  refine Y.grd (QV i1 hc) ?_
  obtain⟨k,rfl⟩:=aLA i1
  have hk3:k<outs.length:=by omega
  rw[Qg outs k _ hk3]
  have hor:=ho.2 _ (aLl hk3)
  unfold kRu at hor
  rw[Qks _ (by unfold BIG;omega),aLc]
  refine Y.bif (fun _=>Y.some rfl) (fun _=>Y.some ⟨n - 1,by have:=ho.1;omega,?_⟩)
  have:=ho.1
  rw[Qi (by omega) (by omega)]
  omega
 ·cases j with
  | inr r=>
   refine Y.some ⟨?_,rfl⟩
   have hj:r.2=[]:=hj
   show kXs r.2
   rw[hj];exact kXs.nil
  | inl _=>
   show Y ((QcT l tx).bind _) _
   rw[QlY l hlB,aLc]
   refine Y.bif (fun _=>Y.some ⟨kXs.nil,rfl⟩) (fun _=>?_)
   refine Y.bif (fun _=>Y.some ⟨kXs.nil,rfl⟩) (fun hc=>?_)
   have hc:=aLH hc
   have h1:=hl.n
   have h2:=ho.1
   rw[Qi (by omega) (by omega)] at hc
   refine Y.bind (QDc l tx outs h m (by omega) hl.x ho.2 (by omega)) fun y30 h30=>Y.some ⟨h30.1,h30.2⟩
theorem QEX (l:List TCoin) (hl:l.length<=1000000) (r:Int×Int):Y (QiM l r) (fun k=>k<(l.length:Int)):=by
 unfold QiM
 refine Y.bind (Q:=fun (j:Unit⊕Int)=>match j with | .inl _=>True | .inr k=>k<(l.length:Int)) ?_ (fun j hj=>?_)
 ·refine Y.loop (fun n (st:Int)=>0<=st/\st+(n:Int)=(l.length:Int)) (fun n st hi=>?_) l.length 0 ⟨Int.le_refl _,by omega⟩
  obtain⟨i1,i2⟩:=hi
  refine Y.bif (fun hc=>?_) (fun hc=>Y.some trivial)
  have hc:=aLG hc
  refine Y.grd (QV i1 hc) (Y.bif (fun _=>Y.some hc) (fun _=>Y.some ⟨n - 1,by omega,?_⟩))
  rw[Qi (by omega) (by omega)];omega
 ·cases j with
  | inl _=>exact Y.some (by show (-1:Int)<_;omega)
  | inr k=>exact Y.some hj
theorem QeQ {l:List TCoin} (hl:kXs l) (refs:List (Int×Int)) (hr:refs.length<=1000000):Y (QgM l refs) (fun r=>kXs r.1/\r.2.2=l):=by
 unfold QgM
 rw[QeB l (by have:=hl.n;omega) (fun x hx=>by have:=(hl.x x hx).k;omega),aLc]
 refine Y.bind (Q:=fun (j:List TCoin⊕(List TCoin×Bool))=>match j with | .inl a=>kXs a | .inr a=>kXs a.1) ?_ (fun j hj=>?_)
 ·refine Y.loop (fun n (st:List TCoin×Int)=>0<=st.2/\st.2+(n:Int)=(refs.length:Int)/\kXs st.1) (fun n st hi=>?_) refs.length (l,0) ⟨Int.le_refl _,by simp,hl⟩
  obtain⟨i1,i2,i3⟩:=hi
  have hn:=i3.n
  refine Y.bif (fun hc=>?_) (fun hc=>Y.some i3)
  have hc:=aLG hc
  refine Y.grd (QV i1 hc) (Y.bind (QEX _ (by omega) _) fun y13 h13=>Y.bif (fun _=>Y.some kXs.nil) (fun h0=>?_))
  have h0:=aLH h0
  obtain⟨k,rfl⟩:=aLA (show 0<=y13 by omega)
  have hk:k<st.1.length:=by omega
  have e1:IntKind.wrap .i64 ((k:Int)+1)=((k+1:Nat):Int):=by rw[Qi (by omega) (by omega)];omega
  rw[e1]
  have c1:QT 0 (k:Int) st.1=true:=Jf st.1 k (by omega)
  have c2:QT ((k+1:Nat):Int) (st.1.length:Int) st.1=true:=by unfold QT;simp;omega
  have ll:∀a b:Nat,(List.take a (List.drop b st.1)).length<=41:=fun a b=>by rw[aLn,aLz];omega
  have l1:=ll (Int.toNat ((k:Int) - 0)) (Int.toNat 0)
  have l2:=ll (Int.toNat ((st.1.length:Int) - ((k+1:Nat):Int))) (Int.toNat ((k+1:Nat):Int))
  refine Y.grd c1 (Y.grd (Yp _ _ (by simp) (by omega)) (Y.grd c2 (Y.grd (Yp _ _ (by simp only[aLo,aLi,aLj];omega) (by omega)) (Y.some ⟨n - 1,by omega,?_,?_,?_,?_⟩))))
  ·show 0<=IntKind.wrap .i64 (st.2+1)
   rw[Qi (by omega) (by omega)];omega
  ·show IntKind.wrap .i64 (st.2+1)+_=_
   rw[Qi (by omega) (by omega)];omega
  ·show (List.append _ _).length<=41
   simp only[aLo,aLi,aLj,aLn,aLz]
   omega
  ·intro x hx
   have hx:x ∈ ([]++List.take (Int.toNat ((k:Int) - 0)) (List.drop (Int.toNat 0) st.1))++List.take (Int.toNat ((st.1.length:Int) - ((k+1:Nat):Int))) (List.drop (Int.toNat ((k+1:Nat):Int)) st.1):=hx
   rw[aLx] at hx
   rcases List.mem_append.1 hx with hx | hx
   ·exact i3.x x (List.mem_of_mem_drop (List.mem_of_mem_take hx))
   ·exact i3.x x (List.mem_of_mem_drop (List.mem_of_mem_take hx))
 ·cases j with
  | inl a=>exact Y.some ⟨hj,rfl⟩
  | inr a=>exact Y.some ⟨hj,rfl⟩
theorem QDa {l:List TCoin} (hl:kXs l) {t:TX} (ht:mTxF t=0) (id h:Int):Y (QfP l t id h) (fun r=>kXs r.1.2/\r.2=l):=by
 have hB:BIG=4611686018427387904:=rfl
 have hto:=Qbm ht
 have hk:∀x,x ∈ l->x.2.1.2.1.length<BIG:=fun x hx=>by
  have:=(hl.x x hx).k;omega
 have hlB:l.length<BIG:=by have:=hl.n;omega
 unfold QfP QiF
 refine Y.bind (Q:=fun (r:Int×List TCoin)=>r.1 ≠ 0->r.2=[]) ?_ (fun y5 h5=>?_)
 ·refine Y.eqb (QbE l hlB hk) (Y.bif (fun _=>Y.some (fun _=>rfl)) (fun h0=>?_))
  have h0:YY l=0:=by simpa using h0
  refine Y.eqb (Qf5 t hto.b) (Y.bif (fun _=>Y.some (fun _=>rfl)) (fun _=>?_))
  refine Y.eqb (Qis h0 t (by have:=hto.li;omega)) (Y.bif (fun _=>Y.some (fun _=>rfl)) (fun _=>Y.some (fun h=>absurd rfl h)))
 ·refine Y.bif (fun h=>Y.some ⟨?_,rfl⟩) (fun _=>?_)
  ·have:y5.1 ≠ 0:=by simpa using h
   show kXs y5.2
   rw[h5 this];exact kXs.nil
  ·refine Y.eqb (QlY l hlB id) (Y.bif (fun _=>Y.some ⟨kXs.nil,rfl⟩) (fun _=>?_))
   refine Y.bind (QeQ hl _ (by have:=hto.li;omega)) fun y7 h7=>?_
   refine Y.bind (Qtg _ _ _ _ _ h7.1 ⟨hto.lo.2,fun x hx=>?_⟩) fun y8 h8=>Y.some ⟨h8.1,h7.2⟩
   have:=(JD (hto.out x hx).2).len
   unfold kRu;omega
end GL
end Go.Dx
set_option maxHeartbeats 2000000
namespace Go.Dx
namespace GL
theorem QEa {l:List TMb} (hm:Qb3 l/\l.length<=8) (t:TX) (id:Int):Qb3 (Qgg l t id).1/\(Qgg l t id).1.length<=8:=by
 have ho:Qb3 (mOff l t):=QsN hm.1 _
 have hol:=QvB l t
 have nil:Qb3 []/\([]:List TMb).length<=8:=⟨List.Pairwise.nil,by simp⟩
 unfold Qgg
 split
 ·exact nil
 ·split
  ·unfold Qub
   split
   ·exact nil
   ·rename_i hany
    split
    ·exact nil
    ·obtain⟨k,k1,k2,k3⟩:=QvQ ho t.2.1
     obtain⟨w1,w2⟩:=QlX k1 k2 k3
     have hne:∀y,y ∈ mOff l t->y.1 ≠ t.2.1:=fun y hy he=>by
      refine hany (List.any_eq_true.2 ⟨y,hy,?_⟩)
      rw[aLE he];rfl
     show Qb3 ((mOff l t).takeWhile _++[_]++(mOff l t).dropWhile _)/\((mOff l t).takeWhile _++[_]++(mOff l t).dropWhile _).length<=8
     rw[w1,w2]
     refine⟨?_,?_⟩
     ·unfold Qb3
      rw[List.pairwise_append,List.pairwise_append]
      refine⟨⟨List.Pairwise.sublist (List.take_sublist k _) ho,List.pairwise_singleton _ _,fun a ha b hb=>?_⟩,List.Pairwise.sublist (List.drop_sublist k _) ho,fun a ha b hb=>?_⟩
      ·rw[aLs.1 hb]
       obtain⟨i,hi,rfl⟩:=List.mem_iff_getElem.1 ha
       rw[aLn] at hi
       rw[List.getElem_take]
       exact k2 i (by omega) (by omega)
      ·obtain⟨i,hi,rfl⟩:=List.mem_iff_getElem.1 hb
       rw[aLz] at hi
       rw[List.getElem_drop]
       have h1:=k3 (k+i) (by omega) (by omega)
       have h2:=hne _ (aLl (show k+i<(mOff l t).length by omega))
       rcases List.mem_append.1 ha with ha | ha
       ·obtain⟨j,hj,rfl⟩:=List.mem_iff_getElem.1 ha
        rw[aLn] at hj
        rw[List.getElem_take]
        have:=k2 j (by omega) (by omega)
        omega
       ·rw[aLs.1 ha]
        show t.2.1<_
        omega
     ·simp only[aLi,aLh,aLj,aLn,aLz]
      omega
  ·exact⟨ho,by show (mOff l t).length<=8;have:=hm.2;omega⟩
theorem QDU {l:TL} (h:kLd l) (id:Int):Y (QcN l id) (fun r=>r.1=0->mLF l=0/\mTxF r.2=0):=by
 by_cases h0:mLF l=0
 ·exact Y.of (Qr8 h0 id) (fun h1=>⟨h0,Qq1 h1⟩)
 ·unfold QcN Qcf
  refine Y.bind (Q:=fun r=>r.1 ≠ 0) (Y.eqb (YD l h.bl.a h.bl.b) (Y.grd (by rw[aLD h0];rfl) (Y.some h0))) (fun r hr=>Y.grd (by rw[aLD hr];rfl) (Y.some (fun h=>absurd h hr)))
theorem QCH {l:TL} (hl:mLF l=0) {c:List TCoin} (hc:kXs c) {t:TX} (ht:mTxF t=0) {h:Int} (hh:mIn h 0 999=true):Y (Qan l c t h) (fun r=>r.1=0->YY c=0):=by
 have hB:BIG=4611686018427387904:=rfl
 by_cases h0:YY c=0
 ·exact Y.of (QmG hl h0 ht hh) (fun _=>h0)
 ·have hlo:=Qmi hl
  unfold Qan
  refine Y.eqb (YD l (by have:=hlo.n1;omega) (by have:=hlo.n2;omega)) (Y.bif (fun h1=>Y.some (fun h2=>absurd h2 (by simpa using h1))) (fun _=>?_))
  refine Y.eqb (QbE c (by have:=hc.n;omega) (fun x hx=>by have:=(hc.x x hx).k;omega)) (Y.grd (by rw[aLD h0];rfl) (Y.some (fun h=>absurd h h0)))
structure kSt (x:TState):Prop where
 t:0<=x.1/\x.1<=100
 h:0<=x.2.1/\x.2.1<=100
 c:kXs x.2.2.1
 m:Qb3 x.2.2.2/\x.2.2.2.length<=8
theorem kSt.bS {x:TState} (h:kSt x):bS x:=⟨by have:=h.c.n;unfold BIG;omega,fun y hy=>by have:=(h.c.x y hy).k;unfold BIG;omega,by have:=h.m.2;unfold BIG;omega⟩
theorem QEE {l:TL} (h:kLd l) {x:TState} (hx:kSt x) (id:Int) {ht:Int} (hh:mIn ht 0 999=true):Y (QiJ l x id ht) (fun r=>r.2.2.2.1=l/\kSt r.2.2.2.2):=by
 unfold QiJ
 refine Y.bind (QDU h id) fun y6 h6=>Y.bif (fun _=>Y.some ⟨rfl,hx⟩) (fun h0=>?_)
 obtain⟨hl,htx⟩:=h6 (by simpa using h0)
 refine Y.bind (QCH hl hx.c htx hh) fun y7 h7=>Y.bif (fun _=>Y.some ⟨rfl,hx⟩) (fun h0=>?_)
 have hc:=h7 (by simpa using h0)
 have hto:=Qbm htx
 refine Y.eqb (QoN hx.m (by have:=hto.li;omega) id) (Y.bif (fun _=>Y.some ⟨rfl,hx⟩) (fun _=>?_))
 refine Y.eqb (Qis hc y6.2 (by have:=hto.li;omega)) ?_
 refine Y.bind (QDa hx.c htx id ht) fun y10 h10=>Y.bif (fun _=>Y.some ⟨rfl,hx.t,hx.h,?_,hx.m⟩) (fun _=>Y.some ⟨rfl,hx.t,hx.h,h10.1,QEa hx.m _ _⟩)
 show kXs y10.2
 rw[h10.2];exact hx.c
structure okBk (b:TBk):Prop where
 h:1<=b.2.1/\b.2.1<=40
 n:b.2.2.2.length<=6
theorem Qyj (l:List Int) (hl:l.length<=1000000) (x:Int):Y (Qdm l x) (fun _=>True):=by
 unfold Qdm
 refine Y.bind (Q:=fun (j:Unit⊕Bool)=>True) ?_ (fun j _=>?_)
 ·refine Y.loop (fun n (st:Int)=>0<=st/\st+(n:Int)=(l.length:Int)) (fun n st hi=>?_) l.length 0 ⟨Int.le_refl _,by omega⟩
  obtain⟨i1,i2⟩:=hi
  refine Y.bif (fun hc=>?_) (fun hc=>Y.some trivial)
  have hc:=aLG hc
  refine Y.grd (QV i1 hc) (Y.bif (fun _=>Y.some trivial) (fun _=>Y.some ⟨n - 1,by omega,?_⟩))
  rw[Qi (by omega) (by omega)];omega
 ·cases j<;>exact Y.some trivial
theorem QBS (b:TBk) (hb:b.2.2.2.length<=1000000):Y (Qgd b) (fun c=>c=0->okBk b):=by
 unfold Qgd
 refine Y.bind (Q:=fun j=>j=false->1<=b.2.1/\b.2.1<=40) ?_ (fun j hj=>?_)
 ·refine Y.eqb (Zp _ _ _) (Y.bif (fun _=>Y.some (fun h=>by cases h)) (fun _=>Y.eqb (Zp _ _ _) (Y.bif (fun _=>Y.some (fun h=>by cases h)) (fun h1=>Y.eqb (Qdk _) (Y.some (fun _=>?_))))))
  exact ZA.1 (by simpa using h1)
 ·refine Y.bif (fun _=>Y.some (fun h=>by cases h)) (fun h0=>?_)
  have hh:=hj h0
  refine Y.bif (fun _=>Y.some (fun h=>by cases h)) (fun _=>Y.bif (fun _=>Y.some (fun h=>by cases h)) (fun h6=>?_))
  have h6:=aLH h6
  refine Y.bind (Q:=fun (j:Unit⊕Int)=>match j with | .inl _=>True | .inr c=>c ≠ 0) ?_ (fun j hj=>?_)
  ·refine Y.loop (fun n (st:Int)=>0<=st/\st+(n:Int)=(b.2.2.2.length:Int)) (fun n st hi=>?_) b.2.2.2.length 0 ⟨Int.le_refl _,by omega⟩
   obtain⟨i1,i2⟩:=hi
   refine Y.bif (fun hc=>?_) (fun hc=>Y.some trivial)
   have hc:=aLG hc
   have hin:=QV i1 hc
   obtain⟨k,hk⟩:=aLA i1
   refine Y.grd hin (Y.eqb (Zp _ _ _) (Y.bif (fun _=>Y.some (show (3:Int) ≠ 0 by decide)) (fun _=>?_)))
   have c1:QT 0 st b.2.2.2=true:=by rw[hk];exact Jf _ k (by omega)
   have cl:(cut 0 st b.2.2.2).length<=1000000:=by rw[hk,QdF,aLn];omega
   refine Y.grd c1 (Y.grd hin (Y.bind (Qyj _ cl _) fun y31 _=>Y.bif (fun _=>Y.some (show (7:Int) ≠ 0 by decide)) (fun _=>Y.some ⟨n - 1,by omega,?_⟩)))
   rw[Qi (by omega) (by omega)];omega
  ·cases j with
   | inl _=>exact Y.some (fun _=>⟨hh,by omega⟩)
   | inr c=>exact Y.some (fun h=>absurd h hj)
theorem QBF (s:List UInt8) (hs:s.length<=100000):Y (QfW s) (fun r=>r.2=true->okBk r.1):=by
 have hB:BIG=4611686018427387904:=rfl
 unfold QfW
 refine Y.eqb (QaL s 32 (by unfold LIM;omega)) ?_
 have hw:∀i,(List.getD (cuts 32 s) i []).length<BIG:=fun i=>by have:=QaC 32 s i;omega
 refine Y.bind (Q:=fun j=>j=false->(cuts 32 s).length=5) ?_ (fun j hj=>?_)
 ·refine Y.bif (fun _=>Y.some (fun h=>by cases h)) (fun h=>?_)
  have h5:((cuts 32 s).length:Int)=5:=by simpa using h
  exact Y.grd (QV (by omega) (by omega)) (Y.some (fun _=>by omega))
 ·refine Y.bif (fun _=>Y.some (fun h=>by cases h)) (fun h0=>?_)
  have h5:=hj h0
  refine Y.grd (QV (by omega) (by omega)) (Y.bind (Qd5 _ _ (hw _)) fun y24 _=>?_)
  refine Y.grd (QV (by omega) (by omega)) (Y.bind (Qd5 _ _ (hw _)) fun y25 _=>?_)
  refine Y.grd (QV (by omega) (by omega)) (Y.bind (Qd5 _ _ (hw _)) fun y26 _=>?_)
  refine Y.bind (Q:=fun (_:Bool)=>True) (Y.bif (fun _=>Y.bif (fun _=>Y.some trivial) (fun _=>Y.some trivial)) (fun _=>Y.some trivial)) fun j27 _=>?_
  have w4:=QaC 32 s 4
  have hin4:inB 4 (cuts 32 s)=true:=QV (by omega) (by omega)
  refine Y.grd hin4 (Y.eqb (QaL _ 43 (by show (List.getD (cuts 32 s) 4 []).length<_;unfold LIM;omega)) ?_)
  have cl:(cuts 43 (List.getD (cuts 32 s) (Int.toNat 4) [])).length<=100001:=by
   have:=QbT 43 (List.getD (cuts 32 s) (Int.toNat 4) [])
   have w4':(List.getD (cuts 32 s) (Int.toNat 4) []).length<=s.length:=w4
   omega
  obtain⟨ws,hws⟩:∃ws,ws=cuts 43 (List.getD (cuts 32 s) (Int.toNat 4) []):=⟨_,rfl⟩
  have hwl:∀i,(List.getD ws i []).length<BIG:=fun i=>by
   rw[hws]
   have:=QaC 43 (List.getD (cuts 32 s) (Int.toNat 4) []) i
   have w4':(List.getD (cuts 32 s) (Int.toNat 4) []).length<=s.length:=w4
   omega
  rw[<-hws] at cl
  show Y ((Qf _ _).bind _) _
  rw[<-hws]
  refine Y.bind (Q:=fun (j:Bool×TBk)=>j.2.2.2.2.length<=1000000) ?_ (fun j hj=>?_)
  ·refine Y.loop (fun n (st:Bool×Int×TBk)=>0<=st.2.1/\st.2.1+(n:Int)=(ws.length:Int)/\(st.2.2.2.2.2.length:Int)=st.2.1) (fun n st hi=>?_) ws.length _ ⟨Int.le_refl _,by simp,rfl⟩
   obtain⟨i1,i2,i3⟩:=hi
   refine Y.bind (Q:=fun b=>b=true->st.2.1<(ws.length:Int)) (Y.bif (fun hc=>Y.grd hin4 (Y.some (fun _=>aLG hc))) (fun _=>Y.some (fun h=>by cases h))) fun b hb=>?_
   refine Y.bif (fun hb2=>?_) (fun _=>Y.some (by show st.2.2.2.2.2.length<=1000000;omega))
   have hc:=hb hb2
   refine Y.grd (QV i1 hc) (Y.bind (Qd5 _ _ (hwl _)) fun y37 _=>?_)
   refine Y.bind (Q:=fun (_:Bool)=>True) (Y.bif (fun _=>Y.some trivial) (fun _=>Y.some trivial)) fun j38 _=>?_
   refine Y.grd (ZW _ _ (by omega)) (Y.some ⟨n - 1,by omega,?_,?_,?_⟩)
   ·show 0<=IntKind.wrap .i64 (st.2.1+1)
    rw[Qi (by omega) (by omega)];omega
   ·show IntKind.wrap .i64 (st.2.1+1)+_=_
    rw[Qi (by omega) (by omega)];omega
   ·show ((List.append st.2.2.2.2.2 _).length:Int)=IntKind.wrap .i64 (st.2.1+1)
    rw[Qi (by omega) (by omega)]
    simp only[aLo,aLi,aLh,aLj];omega
  ·refine Y.bind (Q:=fun (q:Bool×TBk)=>q.1=true->okBk q.2) (Y.bif (fun _=>Y.bind (QBS j.2 hj) fun y41 h41=>Y.some (fun h=>h41 (aLG h))) (fun _=>Y.some (fun h=>by cases h))) fun q hq=>Y.some hq
theorem QAo {l:TL} (h:kLd l) (id:Int):Y (Qgi l id) (fun r=>r.1=0->okBk r.2):=by
 unfold Qgi
 refine Y.bind (Q:=fun (r:Int×List UInt8)=>r.1=0->r.2.length<=300) ?_ (fun y3 h3=>?_)
 ·unfold Qcf QeR
  refine Y.eqb (YD l h.bl.a h.bl.b) (Y.bif (fun h0=>Y.some (fun h1=>absurd h1 (by simpa using h0))) (fun h0=>?_))
  have h0:mLF l=0:=by simpa using h0
  have ho:=Qmi h0
  refine Y.bind (Q:=fun b=>b=mIn id 1 (l.1.length:Int)) (Y.eqb (Zp _ _ _) (Y.some rfl)) fun b hb=>?_
  subst hb
  refine Y.bif (fun _=>Y.some (fun h=>by cases h)) (fun hi=>?_)
  have hi:mIn id 1 (l.1.length:Int)=true:=by simpa using hi
  exact Y.grd (QAL ho hi) (Y.some (fun _=>Que ho _))
 ·refine Y.bif (fun h0=>Y.some (fun h1=>absurd h1 (by simpa using h0))) (fun h0=>?_)
  have h3:=h3 (by simpa using h0)
  unfold Qgr
  refine Y.bind (Q:=fun (r:Int×TBk)=>r.1=0->okBk r.2) (Y.bind (QBF y3.2 (by omega)) fun y2 h2=>Y.bif (fun _=>Y.some (fun h=>by cases h)) (fun h1=>Y.some (fun _=>h2 (by simpa using h1)))) fun y4 h4=>Y.some h4
theorem QAB {l:TL} (h:kLd l) {x:TState} (hx:kSt x) {id:Int} (hid:0<=id/\id<=100):Y (Qd6 l x id) (fun r=>r.2=l/\(r.1.1=0->kSt r.1.2.2.2)):=by
 unfold Qd6 QbW
 refine Y.bind (QAo h id) fun y20 h20=>Y.bif (fun h0=>Y.some ⟨rfl,fun h1=>absurd h1 (by simpa using h0)⟩) (fun h0=>?_)
 obtain⟨hb1,hb2⟩:=h20 (by simpa using h0)
 refine Y.bind (Q:=fun (_:Bool)=>True) (Y.bif (fun _=>Y.some trivial) (fun _=>Y.some trivial)) fun j22 _=>Y.bif (fun _=>Y.some ⟨rfl,fun h1=>by cases h1⟩) (fun _=>?_)
 refine Y.bind (Q:=fun (q:TState)=>kSt q) ?_ (fun y24 h24=>?_)
 ·unfold Qjr
  have:=hx.c.n
  refine Y.eqb (QeB _ (by omega) (fun y hy=>by have:=(hx.c.x y hy).k;omega)) (Y.grd (QmP _ (by have:=hx.m.2;omega)) (Y.some hx))
 ·refine Y.grd (QmP _ (by have:=hx.m.2;omega)) ?_
  refine Y.bind (Q:=fun j=>match j with | .inl a=>a.2=l/\kSt a.1.2.2.2 | .inr a=>a.2=l/\a.1.1 ≠ 0) ?_ (fun j hj=>?_)
  ·refine Y.loop (fun n st=>0<=st.1/\st.1+(n:Int)=(y20.2.2.2.2.length:Int)/\st.2.2=l/\kSt st.2.1.2.2.2/\(st.2.1.2.2.1.2.1.length:Int)=st.1) (fun n st hi=>?_) y20.2.2.2.2.length _ ⟨Int.le_refl _,by simp,rfl,h24,rfl⟩
   obtain⟨i1,i2,i3,i4,i5⟩:=hi
   refine Y.bif (fun hc=>?_) (fun hc=>Y.some ⟨i3,i4⟩)
   have hc:=aLG hc
   refine Y.grd (QV i1 hc) ?_
   rw[i3]
   refine Y.bind (QEE h i4 _ (ZA.2 (by omega))) fun y30 h30=>Y.bif (fun h0=>Y.some ⟨h30.1,by simpa using h0⟩) (fun _=>?_)
   refine Y.grd (ZW _ _ (by omega)) (Y.some ⟨n - 1,by omega,?_,?_,h30.1,h30.2,?_⟩)
   ·show 0<=IntKind.wrap .i64 (st.1+1)
    rw[Qi (by omega) (by omega)];omega
   ·show IntKind.wrap .i64 (st.1+1)+_=_
    rw[Qi (by omega) (by omega)];omega
   ·show ((List.append _ _).length:Int)=IntKind.wrap .i64 (st.1+1)
    rw[Qi (by omega) (by omega)]
    simp only[aLo,aLi,aLh,aLj];omega
  ·cases j with
   | inr a=>exact Y.some ⟨hj.1,fun h=>absurd h hj.2⟩
   | inl a=>
    obtain⟨a1,a2⟩:=hj
    unfold QhO
    rw[Sum.elim_inl,aLc]
    refine Y.bif (fun _=>Y.some ⟨a1,fun h1=>by cases h1⟩) (fun _=>?_)
    refine Y.bind (Qtg _ _ _ _ _ a2.c ⟨by simp,fun o ho=>?_⟩) fun y37 h37=>Y.bif (fun h0=>Y.some ⟨a1,fun h1=>absurd h1 (by simpa using h0)⟩) (fun _=>Y.some ⟨a1,fun _=>⟨hid,?_,h37.1,a2.m⟩⟩)
    ·rw[aLs.1 ho];unfold kRu;simp
    ·show 0<=y20.2.2.1/\y20.2.2.1<=100
     omega
end GL
end Go.Dx
set_option maxHeartbeats 2000000
namespace Go.Dx
namespace GL
theorem QDv {l:List TCoin} (h:∀x,x ∈ l->kX x) (i:Nat) (hi:i<l.length):kX (List.getD l i dC):=by
 rw[aLk,aLf hi]
 exact h _ (aLl hi)
theorem QxV {N:Nat} {s:List Int×Int} (h:Src N s) (hN:N<=700000) {c:List TCoin} (hc:kXs c):Y (QgI s c) (fun r=>Src (N+60) r.2/\okW r.1):=by
 have hcn:=hc.n
 unfold QgI
 refine Y.bind (QDY h (by omega)) fun y58 h58=>?_
 refine Y.bind (Q:=fun (j:Bool×List Int×Int)=>Src (N+31) j.2/\(j.1=true->0<(c.length:Int))) (Y.bif (fun hp=>Y.bind (Qav h58.1 (by omega) 8 (by omega)) fun y60 h60=>Y.some ⟨h60,fun _=>aLG hp⟩) (fun _=>Y.some ⟨h58.1.mono (by omega),fun h=>by cases h⟩)) fun j61 h61=>?_
 refine Y.bind (Q:=fun (j:TX×List Int×Int)=>Src (N+60) j.2/\okW j.1) (Y.bif (fun hj=>?_) (fun _=>Y.some ⟨h61.1.mono (by omega),h58.2⟩)) fun j hj=>Y.some hj
 have hpos:=h61.2 hj
 refine Y.bind (Q8 h61.1 (by omega) 2 (by omega)) fun y88 h88=>?_
 have b1:=h88.2.1
 have b2:=h88.2.2.1 (by omega)
 refine Y.bind (Q:=fun (q:Int×TX×List Int×Int)=>Src (N+36) q.2.2/\okW q.2.1) ?_ (fun q hq=>?_)
 ·refine Y.loop (fun n (st:Int×Int×TX×List Int×Int)=>st.2.1=(n:Int)/\n<=2/\Src (N+36 - n) st.2.2.2/\okW st.2.2.1/\st.2.2.1.2.2.1.length+n<=2) (fun n st hi=>?_) (IntKind.wrap .i64 (1+y88.1)).toNat _ ?_
  ·obtain⟨i1,i2,i3,i4,i5⟩:=hi
   refine Y.bif (fun hcc=>?_) (fun hcc=>?_)
   ·have hn:0<n:=by have:=aLG hcc;omega
    refine Y.bind (Q8 i3 (by omega) _ (by omega)) fun y96 h96=>?_
    have c1:=h96.2.1
    have c2:=h96.2.2.1 (by omega)
    refine Y.grd (QV c1 c2) ?_
    have hx:=QDv hc.x y96.1.toNat (by omega)
    refine Y.eqb (YE _ (by unfold BIG;omega) _) ?_
    refine Y.bind (Q:=fun (q:Int×TX)=>okW q.2/\q.2.2.2.1.length+(n - 1)<=2) (Y.bif (fun _=>?_) (fun _=>Y.some ⟨i4,by show st.2.2.1.2.2.1.length+_<=2;omega⟩)) (fun q hq=>?_)
    ·refine Y.grd (ZW _ _ (by omega)) (Y.some ⟨⟨i4.kind,i4.mem,?_,i4.lo,?_,i4.out⟩,?_⟩)
     ·show (List.append _ _).length<=4
      simp only[aLo,aLi,aLh,aLj];omega
     ·intro r hr
      have hr:r ∈ st.2.2.1.2.2.1++[(List.getD c y96.1.toNat dC).1]:=hr
      rcases List.mem_append.1 hr with hr | hr
      ·exact i4.ref r hr
      ·rw[aLs.1 hr];exact⟨hx.t,hx.a⟩
     ·show (List.append _ _).length+(n - 1)<=2
      simp only[aLo,aLi,aLh,aLj];omega
    ·refine Y.some ⟨n - 1,by omega,?_,by omega,h96.1.mono (by omega),hq.1,hq.2⟩
     show IntKind.wrap .i64 (st.2.1 - 1)=_
     rw[i1,Qi (by omega) (by omega)];omega
   ·have hn:n=0:=by have:=aLH hcc;omega
    subst hn
    exact Y.some ⟨i3,i4⟩
  ·have e:IntKind.wrap .i64 (1+y88.1)=1+y88.1:=Qi (by omega) (by omega)
   rw[e]
   have hw:=h58.2
   exact⟨by show (1+y88.1:Int)=_;omega,by omega,h88.1.mono (by omega),⟨hw.kind,hw.mem,by show (0:Nat)<=4;omega,hw.lo,(fun r hr=>nomatch hr),hw.out⟩,by show 0+_<=2;omega⟩
 ·obtain⟨q1,q2⟩:=hq
  refine Y.bind (Q:=fun (j:Bool×List Int×Int)=>Src (N+37) j.2/\(j.1=true->0<q.1)) (Y.bind (Qav q1 (by omega) 4 (by omega)) fun y101 h101=>Y.bif (fun _=>Y.some ⟨h101,fun h=>aLG h⟩) (fun _=>Y.some ⟨h101,fun h=>by cases h⟩)) fun j102 h102=>?_
  refine Y.bind (Q:=fun (j:TX×List Int×Int)=>Src (N+60) j.2/\okW j.1) (Y.bif (fun hj=>?_) (fun _=>Y.some ⟨h102.1.mono (by omega),q2⟩)) fun j hj=>Y.some hj
  refine Y.bind (Q8 h102.1 (by omega) 5 (by omega)) fun y108 h108=>?_
  refine Y.bind (Q:=fun (v:Int)=>1<=v/\v<=9223372036854775807) ?_ (fun y109 h109=>?_)
  ·unfold QkB
   have:=QD7 (q.1 - y108.1)
   refine Y.bif (fun h=>Y.some (by omega)) (fun h=>Y.some ?_)
   have:=aLH h
   omega
  ·refine Y.bind (Qwa h108.1 (by omega)) fun y110 h110=>?_
   refine Y.bind (Q:=fun (_:Bool)=>True) (Y.bif (fun _=>Y.grd rfl (Y.some trivial)) (fun _=>Y.some trivial)) fun j111 _=>?_
   have hout:∀o,o ∈ ([(y109,y110.1)]:List TOut)->(1<=o.1/\o.1<=9223372036854775807)/\okR o.2:=fun o ho=>by
    rw[aLs.1 ho];exact⟨h109,h110.2⟩
   refine Y.bind (Q:=fun (t:TX)=>okW t) (Y.bif (fun _=>Y.some ⟨by show (0:Int)<=0/\(0:Int)<=2;omega,by show (0:Int)<=0/\(0:Int)<=999;omega,q2.li,by show 1<=4;omega,q2.ref,hout⟩) (fun _=>Y.some ⟨q2.kind,q2.mem,q2.li,by show 1<=4;omega,q2.ref,hout⟩)) fun j112 h112=>?_
   exact Y.some ⟨h110.1.mono (by omega),h112⟩
theorem QnS {N:Nat} {s:List Int×Int} (h:Src N s) (hN:N<=700000) {l:List TCoin} (hl:kXs l) (f:List TCoin×Int×List Int×Int->Option ((List TCoin×Int×List Int×Int)⊕(List TCoin×List Int×Int))) (g:Nat->List Int×Int->Option (Bool×List Int×Int))
  (hg:∀(i:Nat) (M:Nat) (s:List Int×Int),i<l.length->Src M s->M<=800000->Y (g i s) (fun r=>Src (M+1) r.2))
  (hf:∀(acc:List TCoin) (i:Nat) (s:List Int×Int) (hi:i<l.length),acc.length<=i->f (acc,(i:Int),s)=(g i s).bind fun j=>(bif j.1 then some (acc++[List.getD l i dC]) else some acc:Option (List TCoin)).bind fun a=>some (.inl (a,((i+1:Nat):Int),j.2)))
  (he:∀(acc:List TCoin) (s:List Int×Int),f (acc,(l.length:Int),s)=some (.inr (acc,s))) :
  Y (Qf f ([],0,s)) (fun r=>kXs r.1/\Src (N+41) r.2):=by
 have hn:=hl.n
 refine Y.loop (fun n (st:List TCoin×Int×List Int×Int)=>∃i:Nat,st.2.1=(i:Int)/\i+n=l.length/\st.1.length<=i/\(∀x,x ∈ st.1->kX x)/\Src (N+i) st.2.2) (fun n st hi=>?_) l.length ([],0,s) ⟨0,rfl,by omega,Nat.le_refl _,(fun x hx=>nomatch hx),h⟩
 obtain⟨i,i1,i2,i3,i4,i5⟩:=hi
 obtain⟨acc,k,src⟩:=st
 simp only at i1 i3 i4 i5
 subst i1
 by_cases hi:i<l.length
 ·rw[hf acc i src hi i3]
  refine Y.bind (hg i (N+i) src hi i5 (by omega)) fun j hj=>?_
  refine Y.bind (Q:=fun (a:List TCoin)=>a.length<=i+1/\∀x,x ∈ a->kX x) (Y.bif (fun _=>Y.some ⟨by simp;omega,fun x hx=>?_⟩) (fun _=>Y.some ⟨by omega,i4⟩)) fun a ha=>?_
  ·rcases List.mem_append.1 hx with hx | hx
   ·exact i4 x hx
   ·rw[aLs.1 hx];exact QDv hl.x i hi
  ·exact Y.some ⟨n - 1,by omega,i+1,rfl,by omega,ha.1,ha.2,hj.mono (by omega)⟩
 ·obtain rfl:i=l.length:=by omega
  rw[he]
  exact Y.some ⟨⟨by show acc.length<=41;omega,i4⟩,i5.mono (by omega)⟩
end GL
end Go.Dx
set_option maxHeartbeats 2000000
namespace Go.Dx
namespace GL
theorem QDD {N:Nat} {s:List Int×Int} (h:Src N s) (hN:N<=600000) {l:TL} (hl:kLd l) {x:TState} (hx:kSt x):Y (QgU s l x) (fun r=>kLd r.1/\(0<=r.2.1/\r.2.1<=100)/\Src (N+400) r.2.2):=by
 have hxc:=hx.c.n
 have hxt:=hx.t
 have hxh:=hx.h
 have eh:IntKind.wrap .i64 (x.2.1+1)=x.2.1+1:=Qi (by omega) (by omega)
 unfold QgU
 refine Y.bind (Q8 h (by omega) 3 (by omega)) fun y177 h177=>?_
 have m1:=h177.2.1
 have m2:=h177.2.2.1 (by omega)
 have em:IntKind.wrap .i64 (1+y177.1)=1+y177.1:=Qi (by omega) (by omega)
 rw[eh,em]
 refine Y.bind (QnS h177.1 (by omega) hx.c _ (fun i s=>(JS (List.getD x.2.2.1 i dC) (x.2.1+1)).bind fun (y:Bool)=>bif y then some (true,s) else (QO s 9).bind fun (y:Bool×List Int×Int)=>some (y.1,y.2)) (fun i M s hi hs hM=>?_) (fun acc i s hi ha=>?_) (fun acc s=>by simp only[dge,aLC])) fun j197 h197=>?_
 ·refine Y.eqb (Qs7 _ _) (Y.bif (fun _=>Y.some (hs.mono (by omega))) (fun _=>Y.bind (Qav hs (by omega) 9 (by omega)) fun y hy=>Y.some hy))
 ·have ew:=wsucc hi (by unfold BIG;omega)
  simp only[dlt hi,Qh _ i hi,Int.toNat_natCast,aLB,ew,ZW acc _ (show acc.length<1000000 by omega)]
  rfl
 ·obtain⟨c1,c2⟩:=h197
  refine Y.bind (Q8 c2 (by omega) 3 (by omega)) fun y198 h198=>?_
  have k1:=h198.2.1
  have k2:=h198.2.2.1 (by omega)
  refine Y.bind (Q:=fun (j:TL×TBk×List Int×Int)=>kLd j.1/\okB j.2.1/\Src (N+400) j.2.2) ?_ (fun j350 h350=>?_)
  ·refine Y.loop (fun n (st:List TCoin×Int×TL×TBk×List Int×Int)=>st.2.1=(n:Int)/\n<=2/\kXs st.1/\kLd st.2.2.1/\okB st.2.2.2.1/\st.2.2.2.1.2.2.2.length+n<=2/\Src (N+400 - 150 * n) st.2.2.2.2) (fun n st hi=>?_) y198.1.toNat _ ?_
   ·obtain⟨coins,k,l,b,src⟩:=st
    obtain⟨i1,i2,i3,i4,i5,i6,i7⟩:=hi
    simp only at i1 i3 i4 i5 i6 i7
    subst i1
    have hcn:=i3.n
    refine Y.bind (Q:=fun b=>b=true->0<n) (Y.bif (fun hc=>Y.some (fun _=>by have:=aLG hc;simp only at this;omega)) (fun _=>Y.some (fun h=>by cases h))) fun j300 h300=>?_
    refine Y.bif (fun hj=>?_) (fun _=>Y.some ⟨i4,i5,i7.mono (by omega)⟩)
    have hn:=h300 hj
    have ek:IntKind.wrap .i64 ((n:Int) - 1)=((n - 1:Nat):Int):=by rw[Qi (by omega) (by omega)];omega
    refine Y.bind (QxV i7 (by omega) i3) fun y301 h301=>?_
    refine Y.bind (Q:=fun (_:Bool)=>True) (Y.bif (fun _=>Y.eqb (QiH _ (by have:=hx.m.2;unfold BIG;omega) _) (Y.some trivial)) (fun _=>Y.some trivial)) fun j304 _=>?_
    have hw:=h301.2
    refine Y.bind (Q:=fun (t:TX)=>okW t) (Y.bif (fun _=>Y.some ⟨by show (0:Int)<=0/\(0:Int)<=2;omega,by show (0:Int)<=0/\(0:Int)<=999;omega,hw.li,hw.lo,hw.ref,hw.out⟩) (fun _=>Y.some hw)) fun j305 h305=>?_
    refine Y.bind (QzU h305) fun y306 _=>Y.bind (Qvt i4 y306) fun y307 h307=>?_
    refine Y.bif (fun _=>Y.some ⟨n - 1,by omega,ek,by omega,i3,i4,i5,by show b.2.2.2.length+_<=2;omega,h301.1.mono (by omega)⟩) (fun _=>?_)
    obtain⟨a1,a2,a3⟩:=h307
    refine Y.bind (Q:=fun (j:TL×List Int×Int)=>kLd j.1/\Src (N+400 - 150 * n+66) j.2) ?_ (fun j327 h327=>?_)
    ·refine Y.loop (fun m (st:Int×TL×List Int×Int)=>st.1+(m:Int)=7/\m<=6/\kLd st.2.1/\Src (N+400 - 150 * n+66 - m) st.2.2) (fun m st hi=>?_) 6 _ ⟨by show (1:Int)+6=7;omega,by omega,a1,h301.1.mono (by omega)⟩
     obtain⟨g1,g2,g3,g4⟩:=hi
     refine Y.bif (fun hc=>?_) (fun hc=>Y.some ⟨g3,g4.mono (by omega)⟩)
     have hc:=aLG hc
     refine Y.bind (Qav g4 (by omega) 14 (by omega)) fun y321 h321=>?_
     refine Y.bind (Q:=kLd) (Y.bif (fun _=>Y.bind (Qz4 g3 _ _) fun y324 h324=>Y.bind (Q:=kLd) (Y.bif (fun _=>Y.some h324) (fun _=>Y.some g3)) fun j hj=>Y.some hj) (fun _=>Y.some g3)) fun j326 h326=>?_
     refine Y.some ⟨m - 1,by omega,?_,by omega,h326,h321.mono (by omega)⟩
     show IntKind.wrap .i64 (st.1+1)+_=7
     rw[Qi (by omega) (by omega)];omega
    ·obtain⟨f1,f2⟩:=h327
     refine Y.bind (Qyj _ (by have:=i5.n;show b.2.2.2.length<=1000000;omega) _) fun y328 _=>?_
     refine Y.bind (Q:=fun (q:TBk)=>okB q/\q.2.2.2.length+(n - 1)<=2) (Y.bif (fun _=>?_) (fun _=>Y.some ⟨i5,by show b.2.2.2.length+_<=2;omega⟩)) fun j329 h329=>?_
     ·refine Y.grd (ZW _ _ (by show b.2.2.2.length<1000000;omega)) (Y.some ⟨⟨i5.p,i5.h,i5.m,?_,?_⟩,?_⟩)
      ·show (List.append b.2.2.2 _).length<=10
       simp only[aLo,aLi,aLh,aLj];omega
      ·intro v hv
       have hv:v ∈ b.2.2.2++[y307.2.1]:=hv
       rcases List.mem_append.1 hv with hv | hv
       ·exact i5.t v hv
       ·rw[aLs.1 hv];omega
      ·show (List.append b.2.2.2 _).length+(n - 1)<=2
       simp only[aLo,aLi,aLh,aLj];omega
     ·refine Y.bind (QnS f2 (by omega) i3 _ (fun i s=>(ZH j305.2.2.1 (List.getD coins i dC).1).bind fun (y:Bool)=>bif !y then some (true,s) else (QO s 12).bind fun (y:Bool×List Int×Int)=>some (y.1,y.2)) (fun i M s hi hs hM=>?_) (fun acc i s hi ha=>?_) (fun acc s=>by simp only[dge,aLC])) fun j349 h349=>?_
      ·refine Y.eqb (YE _ (by have:=h305.li;unfold BIG;omega) _) (Y.bif (fun _=>Y.some (hs.mono (by omega))) (fun _=>Y.bind (Qav hs (by omega) 12 (by omega)) fun y hy=>Y.some hy))
      ·have ew:=wsucc hi (by unfold BIG;omega)
       simp only[dlt hi,Qh _ i hi,Int.toNat_natCast,aLB,ew,ZW acc _ (show acc.length<1000000 by omega)]
       rfl
      ·exact Y.some ⟨n - 1,by omega,ek,by omega,h349.1,f1,h329.1,h329.2,h349.2.mono (by omega)⟩
   ·refine⟨by show y198.1=_;omega,by omega,c1,hl,⟨by show 0<=x.1/\x.1<=1000;omega,by show 0<=x.2.1+1/\x.2.1+1<=1000;omega,by show 0<=1+y177.1/\1+y177.1<=1000;omega,by show 0<=10;omega,fun v hv=>nomatch hv⟩,by show 0+_<=2;omega,h198.1.mono (by omega)⟩
  ·obtain⟨d1,d2,d3⟩:=h350
   refine Y.bind (QAZ d2) fun y351 _=>Y.bind (Qvt d1 y351) fun y352 h352=>?_
   obtain⟨e1,e2,e3⟩:=h352
   exact Y.bif (fun _=>Y.some ⟨d1,by show (0:Int)<=0/\(0:Int)<=100;omega,d3⟩) (fun _=>Y.some ⟨e1,by show 0<=y352.2.1/\y352.2.1<=100;omega,d3⟩)
theorem QCQ {N:Nat} {s:List Int×Int} (h:Src N s) (hN:N<=500000) {k:Int} (h0:0<=k) (h7:k<=7):Y (QfO s k) (fun r=>kLd r.1/\kSt r.2.1/\Src (N+2800) r.2.2.2):=by
 unfold QfO
 refine Y.bind (Q:=fun (j:List Int×TL×TState×List Int×Int)=>kLd j.2.1/\kSt j.2.2.1/\Src (N+2800) j.2.2.2) ?_ (fun j hj=>Y.some hj)
 refine Y.loop (fun n (st:Int×List Int×TL×TState×List Int×Int)=>st.1=(n:Int)/\n<=7/\st.2.1.length+n<=7/\kLd st.2.2.1/\kSt st.2.2.2.1/\Src (N+2800 - 400 * n) st.2.2.2.2) (fun n st hi=>?_) k.toNat _ ⟨by show k=_;omega,by omega,by show 0+_<=7;omega,kLd.nil,⟨by show (0:Int)<=0/\(0:Int)<=100;omega,by show (0:Int)<=0/\(0:Int)<=100;omega,kXs.nil,List.Pairwise.nil,by show 0<=8;omega⟩,h.mono (by omega)⟩
 obtain⟨i1,i2,i3,i4,i5,i6⟩:=hi
 refine Y.bif (fun hc=>?_) (fun hc=>?_)
 ·have hn:0<n:=by have:=aLG hc;omega
  have ek:IntKind.wrap .i64 (st.1 - 1)=((n - 1:Nat):Int):=by rw[i1,Qi (by omega) (by omega)];omega
  refine Y.bind (QDD i6 (by omega) i4 i5) fun y14 h14=>?_
  obtain⟨a1,a2,a3⟩:=h14
  refine Y.bind (QAB a1 i5 a2) fun y15 h15=>?_
  obtain⟨b1,b2⟩:=h15
  have hl:kLd y15.2:=by rw[b1];exact a1
  refine Y.bif (fun _=>Y.some ⟨n - 1,by omega,ek,by omega,by show st.2.1.length+_<=7;omega,hl,i5,a3.mono (by omega)⟩) (fun h0=>?_)
  refine Y.grd (ZW _ _ (by omega)) (Y.some ⟨n - 1,by omega,ek,by omega,?_,hl,b2 (by simpa using h0),a3.mono (by omega)⟩)
  show (List.append _ _).length+_<=7
  simp only[aLo,aLi,aLh,aLj];omega
 ·have hn:n=0:=by have:=aLH hc;omega
  subst hn
  exact Y.some ⟨i4,i5,i6⟩
end GL
end Go.Dx
set_option maxHeartbeats 2000000
namespace Go.Dx
namespace GL
theorem QDd {N:Nat} {s:List Int×Int} (h:Src N s) (hN:N<=400000):Y (Qe8 s) (fun r=>kLd r.1/\kSt r.2.1/\r.2.2.1.length<=100/\r.2.2.2.1.length<=5/\Src (N+4000) r.2.2.2.2):=by
 unfold Qe8
 refine Y.bind (Q8 h (by omega) 6 (by omega)) fun y109 h109=>?_
 have m1:=h109.2.1
 have m2:=h109.2.2.1 (by omega)
 have em:IntKind.wrap .i64 (2+y109.1)=2+y109.1:=Qi (by omega) (by omega)
 rw[em]
 refine Y.bind (QCQ h109.1 (by omega) (by omega) (by omega)) fun y110 h110=>?_
 obtain⟨c1,c2,c3⟩:=h110
 have hcn:=c2.c.n
 refine Y.bind (QnS c3 (by omega) c2.c _ (fun i s=>(QbD y110.2.1).bind fun (y:Int)=>(JS (List.getD y110.2.1.2.2.1 i dC) y).bind fun (y:Bool)=>bif y then some (true,s) else (QO s 8).bind fun (y:Bool×List Int×Int)=>some (y.1,y.2)) (fun i M s hi hs hM=>?_) (fun acc i s hi ha=>?_) (fun acc s=>by simp only[dge,aLC])) fun j136 h136=>?_
 ·refine Y.eqb (Qv4 _) (Y.eqb (Qs7 _ _) (Y.bif (fun _=>Y.some (hs.mono (by omega))) (fun _=>Y.bind (Qav hs (by omega) 8 (by omega)) fun y hy=>Y.some hy)))
 ·have ew:=wsucc hi (by unfold BIG;omega)
  simp only[dlt hi,Qh _ i hi,Int.toNat_natCast,aLB,ew,ZW acc _ (show acc.length<1000000 by omega)]
  rfl
 ·obtain⟨d1,d2⟩:=h136
  refine Y.bind (Q8 d2 (by omega) 6 (by omega)) fun y137 h137=>?_
  have k1:=h137.2.1
  have k2:=h137.2.2.1 (by omega)
  refine Y.bind (Q:=fun (j:List Int×TL×List Int×Int)=>j.1.length<=5/\kLd j.2.1/\Src (N+3600) j.2.2) ?_ (fun j199 h199=>?_)
  ·refine Y.loop (fun n (st:List TCoin×List Int×Int×TL×List Int×Int)=>st.2.2.1=(n:Int)/\n<=5/\st.2.1.length+n<=5/\st.1=j136.1/\kLd st.2.2.2.1/\Src (N+3600 - 100 * n) st.2.2.2.2) (fun n st hi=>?_) y137.1.toNat _ ⟨by show y137.1=_;omega,by omega,by show 0+_<=5;omega,rfl,c1,h137.1.mono (by omega)⟩
   obtain⟨i1,i2,i3,i4,i5,i6⟩:=hi
   refine Y.bif (fun hc=>?_) (fun hc=>?_)
   ·have hn:0<n:=by have:=aLG hc;omega
    have ek:IntKind.wrap .i64 (st.2.2.1 - 1)=((n - 1:Nat):Int):=by rw[i1,Qi (by omega) (by omega)];omega
    refine Y.bind (QxV i6 (by omega) (show kXs st.1 by rw[i4];exact d1)) fun y179 h179=>?_
    refine Y.bind (QzU h179.2) fun y180 _=>Y.bind (Qvt i5 y180) fun y181 h181=>?_
    obtain⟨a1,a2,a3⟩:=h181
    refine Y.bif (fun _=>Y.some ⟨n - 1,by omega,ek,by omega,by show st.2.1.length+_<=5;omega,i4,i5,h179.1.mono (by omega)⟩) (fun _=>?_)
    refine Y.grd (ZW _ _ (by omega)) ?_
    refine Y.bind (Q:=fun (j:TL×List Int×Int)=>kLd j.1/\Src (N+3600 - 100 * n+66) j.2) ?_ (fun j198 h198=>?_)
    ·refine Y.loop (fun m (st:Int×TL×List Int×Int)=>st.1+(m:Int)=7/\m<=6/\kLd st.2.1/\Src (N+3600 - 100 * n+66 - m) st.2.2) (fun m st hi=>?_) 6 _ ⟨by show (1:Int)+6=7;omega,by omega,a1,h179.1.mono (by omega)⟩
     obtain⟨g1,g2,g3,g4⟩:=hi
     refine Y.bif (fun hc=>?_) (fun hc=>Y.some ⟨g3,g4.mono (by omega)⟩)
     have hc:=aLG hc
     refine Y.bind (Qz4 g3 _ _) fun y193 h193=>?_
     refine Y.bind (Q:=fun (q:Bool×List Int×Int)=>Src (N+3600 - 100 * n+66 - m+1) q.2) (Y.bif (fun _=>Y.bind (Qav g4 (by omega) 12 (by omega)) fun y hy=>Y.some hy) (fun _=>Y.some (g4.mono (by omega)))) fun j196 h196=>?_
     refine Y.bind (Q:=kLd) (Y.bif (fun _=>Y.some h193) (fun _=>Y.some g3)) fun j197 h197=>?_
     refine Y.some ⟨m - 1,by omega,?_,by omega,h197,h196.mono (by omega)⟩
     show IntKind.wrap .i64 (st.1+1)+_=7
     rw[Qi (by omega) (by omega)];omega
    ·refine Y.some ⟨n - 1,by omega,ek,by omega,?_,i4,h198.1,h198.2.mono (by omega)⟩
     show (List.append _ _).length+_<=5
     simp only[aLo,aLi,aLh,aLj];omega
   ·have hn:n=0:=by have:=aLH hc;omega
    subst hn
    exact Y.some ⟨by show st.2.1.length<=5;omega,i5,i6⟩
  ·obtain⟨e1,e2,e3⟩:=h199
   refine Y.bind (Q:=fun (j:List Int×List Int×Int)=>j.1.length<=100/\Src (N+3610) j.2) ?_ (fun j216 h216=>Y.some ⟨e2,c2,h216.1,e1,h216.2.mono (by omega)⟩)
   refine Y.loop (fun n (st:List Int×Int×List Int×Int)=>0<=st.2.1/\st.2.1+(n:Int)=(j199.1.length:Int)/\st.1.length<=100/\Src (N+3605 - n) st.2.2) (fun n st hi=>?_) j199.1.length _ ⟨Int.le_refl _,by show (0:Int)+_=_;omega,by show 0<=100;omega,e3.mono (by omega)⟩
   obtain⟨i1,i2,i3,i4⟩:=hi
   refine Y.bif (fun hc=>?_) (fun hc=>Y.some ⟨i3,i4.mono (by omega)⟩)
   have hc:=aLG hc
   refine Y.grd (QV i1 hc) (Y.eqb (Qvd e2.bl c2.bS _ _) ?_)
   have hlen:=(QEd j199.2.1 y110.2.1 st.1 (List.getD j199.1 (Int.toNat st.2.1) 0)).2
   refine Y.bind (Q:=fun (q:Bool×List Int×Int)=>Src (N+3605 - n+1) q.2) (Y.bif (fun _=>Y.bind (Qav i4 (by omega) 3 (by omega)) fun y hy=>Y.some hy) (fun _=>Y.some (i4.mono (by omega)))) fun j214 h214=>?_
   refine Y.bind (Q:=fun (q:List Int)=>q.length<=100) (Y.bif (fun _=>Y.some hlen) (fun _=>Y.some i3)) fun j215 h215=>?_
   refine Y.some ⟨n - 1,by omega,?_,?_,h215,h214.mono (by omega)⟩
   ·show 0<=IntKind.wrap .i64 (st.2.1+1)
    rw[Qi (by omega) (by omega)];omega
   ·show IntKind.wrap .i64 (st.2.1+1)+_=_
    rw[Qi (by omega) (by omega)];omega
structure okWd (r:TL×TState×List Int):Prop where
 l:bL' r.1
 s:bS r.2.1
 p:r.2.2.length<=1000
theorem QBK {N:Nat} {s:List Int×Int} (h:Src N s) (hN:N<=300000):Y (Qga s) (fun r=>okWd (r.1,r.2.1,r.2.2.1)/\r.2.2.1.length<=101/\r.2.2.2.1.length<=5/\Src (N+5000) r.2.2.2.2):=by
 have hB:BIG=4611686018427387904:=rfl
 unfold Qga
 refine Y.bind (QDd h (by omega)) fun y16 h16=>?_
 obtain⟨a1,a2,a3,a4,a5⟩:=h16
 refine Y.bind (Q8 a5 (by omega) 16 (by omega)) fun y17 h17=>?_
 refine Y.bind (Q:=fun (j:List Int×TState×List Int×Int)=>j.1.length<=101/\bS j.2.1/\Src (N+5000) j.2.2) (Y.bif (fun _=>?_) (fun _=>?_)) fun j30 h30=>Y.some ⟨⟨a1.bl,h30.2.1,by show j30.1.length<=1000;have:=h30.1;omega⟩,h30.1,a4,h30.2.2⟩
 ·refine Y.bind (Qj6 h17.1 (by omega) _ (by simp) (by simp)) fun y24 h24=>?_
  refine Y.grd (ZW _ _ (by omega)) (Y.some ⟨?_,a2.bS,h24.1.mono (by omega)⟩)
  show (List.append _ _).length<=101
  simp only[aLo,aLi,aLh,aLj];omega
 ·refine Y.bind (Q:=fun (j:List Int×TState×List Int×Int)=>j.1.length<=101/\bS j.2.1/\Src (N+5000) j.2.2) (Y.bif (fun _=>?_) (fun _=>?_)) fun j29 h29=>Y.some h29
  ·refine Y.bind (QBC h17.1 (by omega)) fun y27 h27=>Y.some ⟨by show y16.2.2.1.length<=101;omega,⟨?_,fun x hx=>?_,a2.bS.m⟩,h27.2.mono (by omega)⟩
   ·show y27.1.length<BIG
    have:=h27.1.1;omega
   ·have:=h27.1.2 x hx
    unfold kC at this;omega
  ·refine Y.bind (Q:=fun (p:List Int)=>p.length<=101) (Y.bif (fun _=>Y.grd rfl (Y.some (by simp))) (fun _=>Y.some (by omega))) fun j28 h28=>Y.some ⟨h28,a2.bS,h17.1.mono (by omega)⟩
theorem QEu {x:List Int} (h:Qqk x):Src 0 ((x,(0:Int)):List Int×Int):=⟨h,Int.le_refl _,Int.le_refl _⟩
theorem QGx {x:List Int} (h:Qqk x):Y (QFD x) (fun r=>okWd (r.1,r.2.1,r.2.2.1)):=by
 unfold QFD Qh3
 rw[aLc]
 refine Y.bind (QBK (QEu h) (by omega)) fun y11 h11=>?_
 obtain⟨a1,a2,a3,a4⟩:=h11
 refine Y.bind (Qj6 a4 (by omega) _ (by simp) (by simp)) fun y12 h12=>?_
 refine Y.bind (Q:=fun (q:Bool×List Int×Int)=>Src (0+5000+2) q.2/\(q.1=true->0<(y11.2.2.2.1.length:Int))) (Y.bif (fun hp=>Y.bind (Qav h12.1 (by omega) 8 (by omega)) fun y hy=>Y.some ⟨hy,fun _=>aLG hp⟩) (fun _=>Y.some ⟨h12.1.mono (by omega),fun h=>by cases h⟩)) fun j15 h15=>?_
 refine Y.bind (Q:=fun (_:Int)=>True) (Y.bif (fun hj=>?_) (fun _=>Y.some trivial)) fun j18 _=>Y.some a1
 have hpos:=h15.2 hj
 refine Y.bind (Q8 h15.1 (by omega) _ (by omega)) fun y17 h17=>?_
 exact Y.grd (QV h17.2.1 (h17.2.2.1 (by omega))) (Y.some trivial)
theorem QGu {x:List Int} (h:Qqk x):Y (QFv x) (fun r=>okWd (r.1,r.2.1,r.2.2.1)):=by
 unfold QFv
 exact Y.bind (QGx h) fun y hy=>Y.some hy
end GL
end Go.Dx
set_option maxHeartbeats 2000000
namespace Go.Dx
namespace GL
theorem QB8 {o:Option Bool} (h:Y o (fun b=>b=true)):o=some true:=by obtain⟨b,h1,h2⟩:=h;rw[h1,h2]
def QDu (x:List Int):Prop:=List.length x<=maxLen/\∀y,y ∈ x->(Lit.int .u8 y).wf=true
theorem QD2 {x:List Int} (h:QDu x) (hl:x.length<=1048576):Qqk x:=by
 refine⟨hl,fun a ha=>?_⟩
 have:=h.2 a ha
 simp only[Lit.wf,aLg,aLF] at this
 have e1:IntKind.u8.min=0:=by decide
 have e2:IntKind.u8.max=255:=by decide
 rw[e1,e2] at this
 exact this
theorem QGt (l:List Int) (hl:l.length<BIG) (v:Int):QFB l v=some (decide (v ∈ l)):=by
 unfold QFB
 rw[Qon l (fun a=>decide (a=v)) _ (fun i h=>?_) (by simp only[dge,aLC]),any_eq']
 simp only[dlt h,Qh l i h,Qg l i _ h,aLB,wsucc h hl]
 cases decide (l[i]=v)<;>rfl
theorem QFX {l:TL} (h:mLF l=0) (id:Int):QFF l id=some ((mTI l id).2,(mTI l id).1):=by
 have ho:=Qmi h
 have hB:BIG=4611686018427387904:=rfl
 unfold QFF
 rw[QqZ l (by have:=ho.n1;omega) (by have:=ho.n2;omega),aLc,h,Qss ho];rfl
theorem QGf {a t:TX} (ha:mTxF a=0) (ht:mTxF t=0):QFE a t=some (QaF a t):=by
 unfold QFE
 rw[Quo a (Qbm ha).b,aLc,ha,Quo t (Qbm ht).b,aLc,ht,Qx7 (Qbm ha).b.ins (Qbm ht).b.ins];rfl
theorem QGn (x:List Int) (hb:QDu x):QFJ x=some true:=by
 have hB:BIG=4611686018427387904:=rfl
 apply QB8
 unfold QFJ Qkg
 rw[aLc]
 refine Y.bif (fun _=>Y.some rfl) (fun hc=>?_)
 have hc:=aLH hc
 refine Y.bind (QGu (QD2 hb (by omega))) fun r hr=>?_
 obtain⟨l,s,pool,id⟩:=r
 obtain⟨hl,hs,hp⟩:=hr
 simp only at hl hs hp
 refine Y.eqb (QFZ hl hs pool id) (Y.bif (fun h=>Y.eqb (QF6 hl hs pool id) (Y.some (aLE rfl))) (fun h=>?_))
 have h0:(mFav l s pool id).1=0:=by simpa using h
 have V:=favors h0
 have ho:=QEn V.pool0
 have h8:=V.len
 have hn:=ho.hn
 have ht:=Qq1 V.tx
 have hg:(QFS l (mTI l id).1 pool).length<=pool.length:=by unfold QFS;exact List.length_filter_le _ _
 rw[V.val]
 refine Y.bind (Q:=fun (j:Unit⊕Bool)=>match j with | .inl _=>True | .inr _=>False) ?_ (fun j hj=>?_)
 ·refine Y.loop (fun n (st:Int)=>0<=st/\st+(n:Int)=(pool.length:Int)) (fun n st hi=>?_) pool.length 0 ⟨Int.le_refl _,by omega⟩
  obtain⟨i1,i2⟩:=hi
  refine Y.bif (fun hc=>?_) (fun hc=>Y.some trivial)
  have hc:st<(pool.length:Int):=aLG hc
  have hin:=QV i1 hc
  obtain⟨k,rfl⟩:=aLA i1
  have hk:k<pool.length:=by omega
  have hm:pool[k] ∈ pool:=aLl hk
  rw[Qg pool k _ hk]
  have hti:=Qq1 (ho.ht _ hm)
  refine Y.grd hin (Y.eqb (QFX ho.hl _) (Y.eqb (QFX ho.hl _) (Y.eqb (QGf hti ht) ?_)))
  have e1:decide (pool[k] ∈ QFS l (mTI l id).1 pool)=QaF (mTI l pool[k]).1 (mTI l id).1:=by
   unfold QFS
   rw[Bool.eq_iff_iff,aLF,List.mem_filter]
   exact⟨fun h=>h.2,fun h=>⟨hm,h⟩⟩
  refine Y.bind (Q:=fun b=>b=false) (Y.grd hin (Y.eqb (QGt _ (by show (QFS l (mTI l id).1 pool).length<BIG;omega) _) ?_)) fun b hb=>?_
  ·show Y (bif !Sh.beq .bool (decide (pool[k] ∈ QFS l (mTI l id).1 pool)) _ then _ else _) _
   rw[e1,beqB]
   refine Y.bif (fun h=>by simp at h) (fun _=>Y.bif (fun h=>?_) (fun _=>Y.some rfl))
   refine Y.grd hin (Y.eqb (QGt _ (by show (QFu l (mTI l id).1 pool++[id]).length<BIG;rw[aLi];simp only[aLh,aLj];omega) _) (Y.some ?_))
   have hmem:pool[k] ∈ QFu l (mTI l id).1 pool++[id]:=List.mem_append_left _ (List.mem_filter.2 ⟨hm,h⟩)
   show (!decide (pool[k] ∈ QFu l (mTI l id).1 pool++[id]))=false
   rw[aLE hmem];rfl
  ·rw[hb]
   refine Y.some ⟨n - 1,by omega,?_⟩
   rw[Qi (by omega) (by omega)];omega
 ·cases j with
  | inr b=>exact hj.elim
  | inl _=>
   rw[Sum.elim_inl]
   have hll:(QFu l (mTI l id).1 pool++[id]).length=(QFu l (mTI l id).1 pool).length+1:=by rw[aLi];rfl
   have ew:IntKind.wrap .i64 (((QFu l (mTI l id).1 pool++[id]).length:Int) - 1)=((QFu l (mTI l id).1 pool).length:Int):=by rw[Qi (by omega) (by omega)];omega
   refine Y.bind (Q:=fun b=>b=true) ?_ fun b hb=>Y.some hb
   refine Y.eqb (QkJ hl hs _) (Y.grd (aLE V.fault) (Y.grd (aLE (by show (0:Int)<((QFu l (mTI l id).1 pool++[id]).length:Int);omega)) ?_))
   show Y (bif inB (IntKind.wrap .i64 (((QFu l (mTI l id).1 pool++[id]).length:Int) - 1)) (QFu l (mTI l id).1 pool++[id]) then bif decide (List.getD (QFu l (mTI l id).1 pool++[id]) (Int.toNat (IntKind.wrap .i64 (((QFu l (mTI l id).1 pool++[id]).length:Int) - 1))) 0=id) then _ else _ else _) _
   rw[ew,Qh _ _ (by omega),aLB,Qg _ _ _ (by omega)]
   refine Y.grd (aLE (by rw[List.getElem_append_right (by omega)];simp)) (Y.eqb (QGh hl hs _ id) (Y.some ?_))
   show (!decide ((mAdd l s (QFu l (mTI l id).1 pool++[id]) id).1=0))=true
   rw[aLD V.more];rfl
end GL
end Go.Dx
