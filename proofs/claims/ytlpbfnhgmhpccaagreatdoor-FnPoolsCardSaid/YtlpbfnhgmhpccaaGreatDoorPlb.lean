/- The plain law: no program in sight -/
import Derived.Test.YtlpbfnhgmhpccaaGreatDoorPla
set_option linter.unusedVariables false
set_option linter.unusedSimpArgs false
set_option maxHeartbeats 2000000
namespace Go.Dx
namespace GL
theorem Qz4 {l:List TMb} (hm:JX l/\l.length<=8) (t:TX) (id:Int):JX (Jc l t id).1/\(Jc l t id).1.length<=8:=by
 have ho:JX (mOff l t):=QpY hm.1 _
 have hol:=Qt9 l t
 have nil:JX []/\([]:List TMb).length<=8:=⟨List.Pairwise.nil,by simp⟩
 unfold Jc;split
 ·exact nil
 ·split
  ·unfold QoF
   split
   ·exact nil
   ·rename_i J
    split
    ·exact nil
    ·obtain⟨k,k1,k2,k3⟩:=Qun ho t.2.1
     obtain⟨w1,w2⟩:=Qls k1 k2 k3;have U:∀y,y ∈ mOff l t->y.1 ≠ t.2.1:=fun y hy he=>by
      refine J (List.any_eq_true.2 ⟨y,hy,?_⟩);rw[aLE he];rfl
     show JX ((mOff l t).takeWhile _++[_]++(mOff l t).dropWhile _)/\((mOff l t).takeWhile _++[_]++(mOff l t).dropWhile _).length<=8
     rw[w1,w2];refine⟨?_,?_⟩
     ·unfold JX
      rw[List.pairwise_append,List.pairwise_append];refine⟨⟨List.Pairwise.sublist (List.take_sublist k _) ho,List.pairwise_singleton _ _,fun a I b hb=>?_⟩,List.Pairwise.sublist (List.drop_sublist k _) ho,fun a I b hb=>?_⟩
      ·rw[aLs.1 hb]
       obtain⟨i,hi,rfl⟩:=List.mem_iff_getElem.1 I;rw[aLn] at hi;rw[List.getElem_take];exact k2 i (by omega) (by omega)
      ·obtain⟨i,hi,rfl⟩:=List.mem_iff_getElem.1 hb
       rw[aLz] at hi;rw[List.getElem_drop];have h1:=k3 (k+i) (by omega) (by omega)
       have h2:=U _ (aLl (show k+i<(mOff l t).length by omega))
       rcases List.mem_append.1 I with I | I
       ·obtain⟨j,hj,rfl⟩:=List.mem_iff_getElem.1 I
        rw[aLn] at hj;rw[List.getElem_take];have:=k2 j (by omega) (by omega)
        omega
       ·rw[aLs.1 I]
        show t.2.1<_
        omega
     ·simp only[aLi,aLh,aLj,aLn,aLz]
      omega
  ·exact⟨ho,by show (mOff l t).length<=8;have:=hm.2;omega⟩
theorem QDW {l:TL} (h:kLd l) (id:Int):Y (QbX l id) (fun r=>r.1=0->mLF l=0/\mTxF r.2=0):=by
 by_cases I:mLF l=0
 ·exact Y.of (QpA I id) (fun h1=>⟨I,Qdj h1⟩)
 ·unfold QbX Qbv
  refine Y.bind (Q:=fun r=>r.1 ≠ 0) (Y.eqb (Y1 l h.bl.a h.bl.b) (Y.grd (by rw[aLD I];rfl) (Y.some I))) (fun r J=>Y.grd (by rw[aLD J];rfl) (Y.some (fun h=>absurd h J)))
theorem QDk {l:TL} (hl:mLF l=0) {c:List TCoin} (U:kXs c) {t:TX} (ht:mTxF t=0) {h:Int} (hh:mIn h 0 999=true):Y (JK l c t h) (fun r=>r.1=0->ZG c=0):=by
 have hB:BIG=4611686018427387904:=rfl
 by_cases J:ZG c=0
 ·exact Y.of (QlS hl J ht hh) (fun _=>J)
 ·have I:=JA hl
  unfold JK;refine Y.eqb (Y1 l (by have:=I.n1;omega) (by have:=I.n2;omega)) (Y.bif (fun h1=>Y.some (fun h2=>absurd h2 (by simpa using h1))) (fun _=>?_))
  refine Y.eqb (Qa0 c (by have:=U.n;omega) (fun x hx=>by have:=(U.x x hx).k;omega)) (Y.grd (by rw[aLD J];rfl) (Y.some (fun h=>absurd h J)))
structure kSt (x:TState):Prop where
 t:0<=x.1/\x.1<=100
 h:0<=x.2.1/\x.2.1<=100
 c:kXs x.2.2.1
 m:JX x.2.2.2/\x.2.2.2.length<=8
theorem kSt.bS {x:TState} (h:kSt x):bS x:=⟨by have:=h.c.n;unfold BIG;omega,fun y I=>by have:=(h.c.x y I).k;unfold BIG;omega,by have:=h.m.2;unfold BIG;omega⟩
theorem QEQ {l:TL} (h:kLd l) {x:TState} (I:kSt x) (id:Int) {ht:Int} (hh:mIn ht 0 999=true):Y (QiT l x id ht) (fun r=>r.2.2.2.1=l/\kSt r.2.2.2.2):=by
 unfold QiT;refine Y.bind (QDW h id) fun y6 h6=>Y.bif (fun _=>Y.some ⟨rfl,I⟩) (fun h0=>?_)
 obtain⟨hl,J⟩:=h6 (by simpa using h0)
 refine Y.bind (QDk hl I.c J hh) fun y7 h7=>Y.bif (fun _=>Y.some ⟨rfl,I⟩) (fun h0=>?_)
 have hc:=h7 (by simpa using h0)
 have U:=ZS J
 refine Y.eqb (Qnk I.m (by have:=U.li;omega) id) (Y.bif (fun _=>Y.some ⟨rfl,I⟩) (fun _=>?_))
 refine Y.eqb (Qih hc y6.2 (by have:=U.li;omega)) ?_
 refine Y.bind (QDw I.c J id ht) fun y10 h10=>Y.bif (fun _=>Y.some ⟨rfl,I.t,I.h,?_,I.m⟩) (fun _=>Y.some ⟨rfl,I.t,I.h,h10.1,Qz4 I.m _ _⟩)
 show kXs y10.2
 rw[h10.2];exact I.c
structure okBk (b:TBk):Prop where
 h:1<=b.2.1/\b.2.1<=40
 n:b.2.2.2.length<=6
theorem Qym (l:List Int) (hl:l.length<=1000000) (x:Int):Y (QcI l x) (fun _=>True):=by
 unfold QcI;refine Y.bind (Q:=fun (j:Unit⊕Bool)=>True) ?_ (fun j _=>?_)
 ·refine Y.loop (fun n (st:Int)=>0<=st/\st+(n:Int)=(l.length:Int)) (fun n st hi=>?_) l.length 0 ⟨Int.le_refl _,by omega⟩
  obtain⟨i1,i2⟩:=hi;refine Y.bif (fun I=>?_) (fun I=>Y.some trivial)
  have I:=aLG I
  refine Y.grd (QP i1 I) (Y.bif (fun _=>Y.some trivial) (fun _=>Y.some ⟨n - 1,by omega,?_⟩))
  rw[Qe (by omega) (by omega)];omega
 ·cases j<;>exact Y.some trivial
theorem QBq (b:TBk) (hb:b.2.2.2.length<=1000000):Y (Qfu b) (fun c=>c=0->okBk b):=by
 unfold Qfu;refine Y.bind (Q:=fun j=>j=false->1<=b.2.1/\b.2.1<=40) ?_ (fun j U=>?_)
 ·refine Y.eqb (Zf _ _ _) (Y.bif (fun _=>Y.some (fun h=>by cases h)) (fun _=>Y.eqb (Zf _ _ _) (Y.bif (fun _=>Y.some (fun h=>by cases h)) (fun h1=>Y.eqb (Qa8 _) (Y.some (fun _=>?_))))))
  exact Qq.1 (by simpa using h1)
 ·refine Y.bif (fun _=>Y.some (fun h=>by cases h)) (fun h0=>?_)
  have hh:=U h0
  refine Y.bif (fun _=>Y.some (fun h=>by cases h)) (fun _=>Y.bif (fun _=>Y.some (fun h=>by cases h)) (fun h6=>?_))
  have h6:=aLH h6
  refine Y.bind (Q:=fun (j:Unit⊕Int)=>match j with | .inl _=>True | .inr c=>c ≠ 0) ?_ (fun j U=>?_)
  ·refine Y.loop (fun n (st:Int)=>0<=st/\st+(n:Int)=(b.2.2.2.length:Int)) (fun n st hi=>?_) b.2.2.2.length 0 ⟨Int.le_refl _,by omega⟩
   obtain⟨i1,i2⟩:=hi;refine Y.bif (fun J=>?_) (fun J=>Y.some trivial)
   have J:=aLG J
   have I:=QP i1 J
   obtain⟨k,hk⟩:=aLA i1;refine Y.grd I (Y.eqb (Zf _ _ _) (Y.bif (fun _=>Y.some (show (3:Int) ≠ 0 by decide)) (fun _=>?_)))
   have c1:QC 0 st b.2.2.2=true:=by rw[hk];exact YZ _ k (by omega)
   have cl:(cut 0 st b.2.2.2).length<=1000000:=by rw[hk,Qbw,aLn];omega
   refine Y.grd c1 (Y.grd I (Y.bind (Qym _ cl _) fun y31 _=>Y.bif (fun _=>Y.some (show (7:Int) ≠ 0 by decide)) (fun _=>Y.some ⟨n - 1,by omega,?_⟩)))
   rw[Qe (by omega) (by omega)];omega
  ·cases j with
   | inl _=>exact Y.some (fun _=>⟨hh,by omega⟩)
   | inr c=>exact Y.some (fun h=>absurd h U)
theorem QBS (s:List UInt8) (hs:s.length<=100000):Y (Qfc s) (fun r=>r.2=true->okBk r.1):=by
 have hB:BIG=4611686018427387904:=rfl
 unfold Qfc;refine Y.eqb (J7 s 32 (by unfold LIM;omega)) ?_
 have hw:∀i,(List.getD (cuts 32 s) i []).length<BIG:=fun i=>by have:=Jt 32 s i;omega
 refine Y.bind (Q:=fun j=>j=false->(cuts 32 s).length=5) ?_ (fun j U=>?_)
 ·refine Y.bif (fun _=>Y.some (fun h=>by cases h)) (fun h=>?_)
  have h5:((cuts 32 s).length:Int)=5:=by simpa using h
  exact Y.grd (QP (by omega) (by omega)) (Y.some (fun _=>by omega))
 ·refine Y.bif (fun _=>Y.some (fun h=>by cases h)) (fun h0=>?_)
  have h5:=U h0
  refine Y.grd (QP (by omega) (by omega)) (Y.bind (Qdh _ _ (hw _)) fun y24 _=>?_)
  refine Y.grd (QP (by omega) (by omega)) (Y.bind (Qdh _ _ (hw _)) fun y25 _=>?_)
  refine Y.grd (QP (by omega) (by omega)) (Y.bind (Qdh _ _ (hw _)) fun y26 _=>?_)
  refine Y.bind (Q:=fun (_:Bool)=>True) (Y.bif (fun _=>Y.bif (fun _=>Y.some trivial) (fun _=>Y.some trivial)) (fun _=>Y.some trivial)) fun j27 _=>?_
  have w4:=Jt 32 s 4
  have I:inB 4 (cuts 32 s)=true:=QP (by omega) (by omega)
  refine Y.grd I (Y.eqb (J7 _ 43 (by show (List.getD (cuts 32 s) 4 []).length<_;unfold LIM;omega)) ?_)
  have cl:(cuts 43 (List.getD (cuts 32 s) (Int.toNat 4) [])).length<=100001:=by
   have:=Qa3 43 (List.getD (cuts 32 s) (Int.toNat 4) [])
   have w4':(List.getD (cuts 32 s) (Int.toNat 4) []).length<=s.length:=w4
   omega
  obtain⟨ws,J⟩:∃ws,ws=cuts 43 (List.getD (cuts 32 s) (Int.toNat 4) []):=⟨_,rfl⟩;have hwl:∀i,(List.getD ws i []).length<BIG:=fun i=>by
   rw[J];have:=Jt 43 (List.getD (cuts 32 s) (Int.toNat 4) []) i
   have w4':(List.getD (cuts 32 s) (Int.toNat 4) []).length<=s.length:=w4
   omega
  rw[<-J] at cl;show Y ((Qd _ _).bind _) _
  rw[<-J];refine Y.bind (Q:=fun (j:Bool×TBk)=>j.2.2.2.2.length<=1000000) ?_ (fun j U=>?_)
  ·refine Y.loop (fun n (st:Bool×Int×TBk)=>0<=st.2.1/\st.2.1+(n:Int)=(ws.length:Int)/\(st.2.2.2.2.2.length:Int)=st.2.1) (fun n st hi=>?_) ws.length _ ⟨Int.le_refl _,by simp,rfl⟩
   obtain⟨i1,i2,i3⟩:=hi;refine Y.bind (Q:=fun b=>b=true->st.2.1<(ws.length:Int)) (Y.bif (fun hc=>Y.grd I (Y.some (fun _=>aLG hc))) (fun _=>Y.some (fun h=>by cases h))) fun b hb=>?_
   refine Y.bif (fun hb2=>?_) (fun _=>Y.some (by show st.2.2.2.2.2.length<=1000000;omega))
   have hc:=hb hb2
   refine Y.grd (QP i1 hc) (Y.bind (Qdh _ _ (hwl _)) fun y37 _=>?_)
   refine Y.bind (Q:=fun (_:Bool)=>True) (Y.bif (fun _=>Y.some trivial) (fun _=>Y.some trivial)) fun j38 _=>?_
   refine Y.grd (ZC _ _ (by omega)) (Y.some ⟨n - 1,by omega,?_,?_,?_⟩)
   ·show 0<=IntKind.wrap .i64 (st.2.1+1)
    rw[Qe (by omega) (by omega)];omega
   ·show IntKind.wrap .i64 (st.2.1+1)+_=_
    rw[Qe (by omega) (by omega)];omega
   ·show ((List.append st.2.2.2.2.2 _).length:Int)=IntKind.wrap .i64 (st.2.1+1)
    rw[Qe (by omega) (by omega)]
    simp only[aLo,aLi,aLh,aLj];omega
  ·refine Y.bind (Q:=fun (q:Bool×TBk)=>q.1=true->okBk q.2) (Y.bif (fun _=>Y.bind (QBq j.2 U) fun y41 h41=>Y.some (fun h=>h41 (aLG h))) (fun _=>Y.some (fun h=>by cases h))) fun q hq=>Y.some hq
theorem QAw {l:TL} (h:kLd l) (id:Int):Y (Qe4 l id) (fun r=>r.1=0->okBk r.2):=by
 unfold Qe4;refine Y.bind (Q:=fun (r:Int×List UInt8)=>r.1=0->r.2.length<=300) ?_ (fun U J=>?_)
 ·unfold Qbv QdN
  refine Y.eqb (Y1 l h.bl.a h.bl.b) (Y.bif (fun I=>Y.some (fun h1=>absurd h1 (by simpa using I))) (fun I=>?_))
  have I:mLF l=0:=by simpa using I
  have ho:=JA I
  refine Y.bind (Q:=fun b=>b=mIn id 1 (l.1.length:Int)) (Y.eqb (Zf _ _ _) (Y.some rfl)) fun b hb=>?_
  subst hb;refine Y.bif (fun _=>Y.some (fun h=>by cases h)) (fun hi=>?_)
  have hi:mIn id 1 (l.1.length:Int)=true:=by simpa using hi
  exact Y.grd (Qwu ho hi) (Y.some (fun _=>QoN ho _))
 ·refine Y.bif (fun I=>Y.some (fun h1=>absurd h1 (by simpa using I))) (fun I=>?_)
  have J:=J (by simpa using I)
  unfold QfA;refine Y.bind (Q:=fun (r:Int×TBk)=>r.1=0->okBk r.2) (Y.bind (QBS U.2 (by omega)) fun y2 h2=>Y.bif (fun _=>Y.some (fun h=>by cases h)) (fun h1=>Y.some (fun _=>h2 (by simpa using h1)))) fun y4 h4=>Y.some h4
theorem QAD {l:TL} (h:kLd l) {x:TState} (hx:kSt x) {id:Int} (hid:0<=id/\id<=100):Y (Qc3 l x id) (fun r=>r.2=l/\(r.1.1=0->kSt r.1.2.2.2)):=by
 unfold Qc3 Qbd;refine Y.bind (QAw h id) fun I h20=>Y.bif (fun J=>Y.some ⟨rfl,fun h1=>absurd h1 (by simpa using J)⟩) (fun J=>?_)
 obtain⟨hb1,hb2⟩:=h20 (by simpa using J)
 refine Y.bind (Q:=fun (_:Bool)=>True) (Y.bif (fun _=>Y.some trivial) (fun _=>Y.some trivial)) fun j22 _=>Y.bif (fun _=>Y.some ⟨rfl,fun h1=>by cases h1⟩) (fun _=>?_)
 refine Y.bind (Q:=fun (q:TState)=>kSt q) ?_ (fun y24 h24=>?_)
 ·unfold Qjp
  have:=hx.c.n
  refine Y.eqb (Qdt _ (by omega) (fun y hy=>by have:=(hx.c.x y hy).k;omega)) (Y.grd (QlX _ (by have:=hx.m.2;omega)) (Y.some hx))
 ·refine Y.grd (QlX _ (by have:=hx.m.2;omega)) ?_
  refine Y.bind (Q:=fun j=>match j with | .inl a=>a.2=l/\kSt a.1.2.2.2 | .inr a=>a.2=l/\a.1.1 ≠ 0) ?_ (fun j hj=>?_)
  ·refine Y.loop (fun n st=>0<=st.1/\st.1+(n:Int)=(I.2.2.2.2.length:Int)/\st.2.2=l/\kSt st.2.1.2.2.2/\(st.2.1.2.2.1.2.1.length:Int)=st.1) (fun n st hi=>?_) I.2.2.2.2.length _ ⟨Int.le_refl _,by simp,rfl,h24,rfl⟩
   obtain⟨i1,i2,i3,i4,i5⟩:=hi;refine Y.bif (fun hc=>?_) (fun hc=>Y.some ⟨i3,i4⟩)
   have hc:=aLG hc
   refine Y.grd (QP i1 hc) ?_;rw[i3];refine Y.bind (QEQ h i4 _ (Qq.2 (by omega))) fun y30 U=>Y.bif (fun J=>Y.some ⟨U.1,by simpa using J⟩) (fun _=>?_)
   refine Y.grd (ZC _ _ (by omega)) (Y.some ⟨n - 1,by omega,?_,?_,U.1,U.2,?_⟩)
   ·show 0<=IntKind.wrap .i64 (st.1+1)
    rw[Qe (by omega) (by omega)];omega
   ·show IntKind.wrap .i64 (st.1+1)+_=_
    rw[Qe (by omega) (by omega)];omega
   ·show ((List.append _ _).length:Int)=IntKind.wrap .i64 (st.1+1)
    rw[Qe (by omega) (by omega)]
    simp only[aLo,aLi,aLh,aLj];omega
  ·cases j with
   | inr a=>exact Y.some ⟨hj.1,fun h=>absurd h hj.2⟩
   | inl a=>
    obtain⟨a1,a2⟩:=hj;unfold Qg6;rw[Sum.elim_inl,aLc];refine Y.bif (fun _=>Y.some ⟨a1,fun h1=>by cases h1⟩) (fun _=>?_)
    refine Y.bind (Qra _ _ _ _ _ a2.c ⟨by simp,fun o ho=>?_⟩) fun y37 h37=>Y.bif (fun J=>Y.some ⟨a1,fun h1=>absurd h1 (by simpa using J)⟩) (fun _=>Y.some ⟨a1,fun _=>⟨hid,?_,h37.1,a2.m⟩⟩)
    ·rw[aLs.1 ho];unfold kRu;simp
    ·show 0<=I.2.2.1/\I.2.2.1<=100
     omega
end GL
end Go.Dx
set_option maxHeartbeats 2000000
namespace Go.Dx
namespace GL
theorem QDz {l:List TCoin} (h:∀x,x ∈ l->kX x) (i:Nat) (hi:i<l.length):kX (List.getD l i dC):=by
 rw[aLk,aLf hi];exact h _ (aLl hi)
theorem Qyp {N:Nat} {s:List Int×Int} (h:Src N s) (hN:N<=700000) {c:List TCoin} (hc:kXs c):Y (QfU s c) (fun r=>Src (N+60) r.2/\okW r.1):=by
 have hcn:=hc.n
 unfold QfU;refine Y.bind (QD7 h (by omega)) fun y58 I=>?_
 refine Y.bind (Q:=fun (j:Bool×List Int×Int)=>Src (N+31) j.2/\(j.1=true->0<(c.length:Int))) (Y.bif (fun hp=>Y.bind (QaR I.1 (by omega) 8 (by omega)) fun y60 h60=>Y.some ⟨h60,fun _=>aLG hp⟩) (fun _=>Y.some ⟨I.1.mono (by omega),fun h=>by cases h⟩)) fun j61 h61=>?_
 refine Y.bind (Q:=fun (j:TX×List Int×Int)=>Src (N+60) j.2/\okW j.1) (Y.bif (fun hj=>?_) (fun _=>Y.some ⟨h61.1.mono (by omega),I.2⟩)) fun j hj=>Y.some hj
 have hpos:=h61.2 hj
 refine Y.bind (QY h61.1 (by omega) 2 (by omega)) fun J h88=>?_
 have b1:=h88.2.1
 have b2:=h88.2.2.1 (by omega)
 refine Y.bind (Q:=fun (q:Int×TX×List Int×Int)=>Src (N+36) q.2.2/\okW q.2.1) ?_ (fun q hq=>?_)
 ·refine Y.loop (fun n (st:Int×Int×TX×List Int×Int)=>st.2.1=(n:Int)/\n<=2/\Src (N+36 - n) st.2.2.2/\okW st.2.2.1/\st.2.2.1.2.2.1.length+n<=2) (fun n st hi=>?_) (IntKind.wrap .i64 (1+J.1)).toNat _ ?_
  ·obtain⟨i1,i2,i3,i4,i5⟩:=hi
   refine Y.bif (fun hcc=>?_) (fun hcc=>?_)
   ·have hn:0<n:=by have:=aLG hcc;omega
    refine Y.bind (QY i3 (by omega) _ (by omega)) fun y96 h96=>?_
    have c1:=h96.2.1
    have c2:=h96.2.2.1 (by omega)
    refine Y.grd (QP c1 c2) ?_;have hx:=QDz hc.x y96.1.toNat (by omega)
    refine Y.eqb (Yy _ (by unfold BIG;omega) _) ?_
    refine Y.bind (Q:=fun (q:Int×TX)=>okW q.2/\q.2.2.2.1.length+(n - 1)<=2) (Y.bif (fun _=>?_) (fun _=>Y.some ⟨i4,by show st.2.2.1.2.2.1.length+_<=2;omega⟩)) (fun q hq=>?_)
    ·refine Y.grd (ZC _ _ (by omega)) (Y.some ⟨⟨i4.kind,i4.mem,?_,i4.lo,?_,i4.out⟩,?_⟩)
     ·show (List.append _ _).length<=4
      simp only[aLo,aLi,aLh,aLj];omega
     ·intro r U
      have U:r ∈ st.2.2.1.2.2.1++[(List.getD c y96.1.toNat dC).1]:=U
      rcases List.mem_append.1 U with U | U
      ·exact i4.ref r U
      ·rw[aLs.1 U];exact⟨hx.t,hx.a⟩
     ·show (List.append _ _).length+(n - 1)<=2
      simp only[aLo,aLi,aLh,aLj];omega
    ·refine Y.some ⟨n - 1,by omega,?_,by omega,h96.1.mono (by omega),hq.1,hq.2⟩
     show IntKind.wrap .i64 (st.2.1 - 1)=_
     rw[i1,Qe (by omega) (by omega)];omega
   ·have hn:n=0:=by have:=aLH hcc;omega
    subst hn;exact Y.some ⟨i3,i4⟩
  ·have e:IntKind.wrap .i64 (1+J.1)=1+J.1:=Qe (by omega) (by omega)
   rw[e];have hw:=I.2
   exact⟨by show (1+J.1:Int)=_;omega,by omega,h88.1.mono (by omega),⟨hw.kind,hw.mem,by show (0:Nat)<=4;omega,hw.lo,(fun r U=>nomatch U),hw.out⟩,by show 0+_<=2;omega⟩
 ·obtain⟨q1,q2⟩:=hq
  refine Y.bind (Q:=fun (j:Bool×List Int×Int)=>Src (N+37) j.2/\(j.1=true->0<q.1)) (Y.bind (QaR q1 (by omega) 4 (by omega)) fun y101 h101=>Y.bif (fun _=>Y.some ⟨h101,fun h=>aLG h⟩) (fun _=>Y.some ⟨h101,fun h=>by cases h⟩)) fun j102 h102=>?_
  refine Y.bind (Q:=fun (j:TX×List Int×Int)=>Src (N+60) j.2/\okW j.1) (Y.bif (fun hj=>?_) (fun _=>Y.some ⟨h102.1.mono (by omega),q2⟩)) fun j hj=>Y.some hj
  refine Y.bind (QY h102.1 (by omega) 5 (by omega)) fun y108 h108=>?_
  refine Y.bind (Q:=fun (v:Int)=>1<=v/\v<=9223372036854775807) ?_ (fun y109 h109=>?_)
  ·unfold QkK
   have:=QDS (q.1 - y108.1)
   refine Y.bif (fun h=>Y.some (by omega)) (fun h=>Y.some ?_)
   have:=aLH h
   omega
  ·refine Y.bind (QuI h108.1 (by omega)) fun y110 h110=>?_
   refine Y.bind (Q:=fun (_:Bool)=>True) (Y.bif (fun _=>Y.grd rfl (Y.some trivial)) (fun _=>Y.some trivial)) fun j111 _=>?_
   have hout:∀o,o ∈ ([(y109,y110.1)]:List TOut)->(1<=o.1/\o.1<=9223372036854775807)/\okR o.2:=fun o ho=>by
    rw[aLs.1 ho];exact⟨h109,h110.2⟩
   refine Y.bind (Q:=fun (t:TX)=>okW t) (Y.bif (fun _=>Y.some ⟨by show (0:Int)<=0/\(0:Int)<=2;omega,by show (0:Int)<=0/\(0:Int)<=999;omega,q2.li,by show 1<=4;omega,q2.ref,hout⟩) (fun _=>Y.some ⟨q2.kind,q2.mem,q2.li,by show 1<=4;omega,q2.ref,hout⟩)) fun j112 h112=>?_
   exact Y.some ⟨h110.1.mono (by omega),h112⟩
theorem QmJ {N:Nat} {s:List Int×Int} (h:Src N s) (hN:N<=700000) {l:List TCoin} (hl:kXs l) (f:List TCoin×Int×List Int×Int->Option ((List TCoin×Int×List Int×Int)⊕(List TCoin×List Int×Int))) (g:Nat->List Int×Int->Option (Bool×List Int×Int))
  (U:∀(i:Nat) (M:Nat) (s:List Int×Int),i<l.length->Src M s->M<=800000->Y (g i s) (fun r=>Src (M+1) r.2))
  (hf:∀(acc:List TCoin) (i:Nat) (s:List Int×Int) (hi:i<l.length),acc.length<=i->f (acc,(i:Int),s)=(g i s).bind fun j=>(bif j.1 then some (acc++[List.getD l i dC]) else some acc:Option (List TCoin)).bind fun a=>some (.inl (a,((i+1:Nat):Int),j.2)))
  (he:∀(acc:List TCoin) (s:List Int×Int),f (acc,(l.length:Int),s)=some (.inr (acc,s))) :
  Y (Qd f ([],0,s)) (fun r=>kXs r.1/\Src (N+41) r.2):=by
 have hn:=hl.n
 refine Y.loop (fun n (st:List TCoin×Int×List Int×Int)=>∃i:Nat,st.2.1=(i:Int)/\i+n=l.length/\st.1.length<=i/\(∀x,x ∈ st.1->kX x)/\Src (N+i) st.2.2) (fun n st hi=>?_) l.length ([],0,s) ⟨0,rfl,by omega,Nat.le_refl _,(fun x I=>nomatch I),h⟩
 obtain⟨i,i1,i2,i3,i4,i5⟩:=hi;obtain⟨acc,k,src⟩:=st;simp only at i1 i3 i4 i5;subst i1;by_cases hi:i<l.length
 ·rw[hf acc i src hi i3]
  refine Y.bind (U i (N+i) src hi i5 (by omega)) fun j hj=>?_
  refine Y.bind (Q:=fun (a:List TCoin)=>a.length<=i+1/\∀x,x ∈ a->kX x) (Y.bif (fun _=>Y.some ⟨by simp;omega,fun x I=>?_⟩) (fun _=>Y.some ⟨by omega,i4⟩)) fun a J=>?_
  ·rcases List.mem_append.1 I with I | I
   ·exact i4 x I
   ·rw[aLs.1 I];exact QDz hl.x i hi
  ·exact Y.some ⟨n - 1,by omega,i+1,rfl,by omega,J.1,J.2,hj.mono (by omega)⟩
 ·obtain rfl:i=l.length:=by omega
  rw[he];exact Y.some ⟨⟨by show acc.length<=41;omega,i4⟩,i5.mono (by omega)⟩
end GL
end Go.Dx
set_option maxHeartbeats 2000000
namespace Go.Dx
namespace GL
theorem QDM {N:Nat} {s:List Int×Int} (h:Src N s) (hN:N<=600000) {l:TL} (hl:kLd l) {x:TState} (hx:kSt x):Y (Qga s l x) (fun r=>kLd r.1/\(0<=r.2.1/\r.2.1<=100)/\Src (N+400) r.2.2):=by
 have hxc:=hx.c.n
 have hxt:=hx.t
 have hxh:=hx.h
 have eh:IntKind.wrap .i64 (x.2.1+1)=x.2.1+1:=Qe (by omega) (by omega)
 unfold Qga;refine Y.bind (QY h (by omega) 3 (by omega)) fun I J=>?_
 have m1:=J.2.1
 have m2:=J.2.2.1 (by omega)
 have em:IntKind.wrap .i64 (1+I.1)=1+I.1:=Qe (by omega) (by omega)
 rw[eh,em];refine Y.bind (QmJ J.1 (by omega) hx.c _ (fun i s=>(Jv (List.getD x.2.2.1 i dC) (x.2.1+1)).bind fun (y:Bool)=>bif y then some (true,s) else (QS s 9).bind fun (y:Bool×List Int×Int)=>some (y.1,y.2)) (fun i M s hi hs hM=>?_) (fun acc i s hi ha=>?_) (fun acc s=>by simp only[dge,aLC])) fun j197 h197=>?_
 ·refine Y.eqb (Qp7 _ _) (Y.bif (fun _=>Y.some (hs.mono (by omega))) (fun _=>Y.bind (QaR hs (by omega) 9 (by omega)) fun y hy=>Y.some hy))
 ·have ew:=wsucc hi (by unfold BIG;omega)
  simp only[dlt hi,Qf _ i hi,Int.toNat_natCast,aLB,ew,ZC acc _ (show acc.length<1000000 by omega)]
  rfl
 ·obtain⟨c1,c2⟩:=h197
  refine Y.bind (QY c2 (by omega) 3 (by omega)) fun y198 U=>?_
  have k1:=U.2.1
  have k2:=U.2.2.1 (by omega)
  refine Y.bind (Q:=fun (j:TL×TBk×List Int×Int)=>kLd j.1/\okB j.2.1/\Src (N+400) j.2.2) ?_ (fun j350 h350=>?_)
  ·refine Y.loop (fun n (st:List TCoin×Int×TL×TBk×List Int×Int)=>st.2.1=(n:Int)/\n<=2/\kXs st.1/\kLd st.2.2.1/\okB st.2.2.2.1/\st.2.2.2.1.2.2.2.length+n<=2/\Src (N+400 - 150 * n) st.2.2.2.2) (fun n st hi=>?_) y198.1.toNat _ ?_
   ·obtain⟨coins,k,l,b,src⟩:=st
    obtain⟨i1,i2,i3,i4,i5,i6,i7⟩:=hi;simp only at i1 i3 i4 i5 i6 i7;subst i1;have hcn:=i3.n
    refine Y.bind (Q:=fun b=>b=true->0<n) (Y.bif (fun hc=>Y.some (fun _=>by have:=aLG hc;simp only at this;omega)) (fun _=>Y.some (fun h=>by cases h))) fun j300 h300=>?_
    refine Y.bif (fun hj=>?_) (fun _=>Y.some ⟨i4,i5,i7.mono (by omega)⟩)
    have hn:=h300 hj
    have ek:IntKind.wrap .i64 ((n:Int) - 1)=((n - 1:Nat):Int):=by rw[Qe (by omega) (by omega)];omega
    refine Y.bind (Qyp i7 (by omega) i3) fun y301 h301=>?_
    refine Y.bind (Q:=fun (_:Bool)=>True) (Y.bif (fun _=>Y.eqb (QiX _ (by have:=hx.m.2;unfold BIG;omega) _) (Y.some trivial)) (fun _=>Y.some trivial)) fun j304 _=>?_
    have hw:=h301.2
    refine Y.bind (Q:=fun (t:TX)=>okW t) (Y.bif (fun _=>Y.some ⟨by show (0:Int)<=0/\(0:Int)<=2;omega,by show (0:Int)<=0/\(0:Int)<=999;omega,hw.li,hw.lo,hw.ref,hw.out⟩) (fun _=>Y.some hw)) fun j305 h305=>?_
    refine Y.bind (QzX h305) fun y306 _=>Y.bind (QsF i4 y306) fun y307 h307=>?_
    refine Y.bif (fun _=>Y.some ⟨n - 1,by omega,ek,by omega,i3,i4,i5,by show b.2.2.2.length+_<=2;omega,h301.1.mono (by omega)⟩) (fun _=>?_)
    obtain⟨a1,a2,a3⟩:=h307;refine Y.bind (Q:=fun (j:TL×List Int×Int)=>kLd j.1/\Src (N+400 - 150 * n+66) j.2) ?_ (fun j327 h327=>?_)
    ·refine Y.loop (fun m (st:Int×TL×List Int×Int)=>st.1+(m:Int)=7/\m<=6/\kLd st.2.1/\Src (N+400 - 150 * n+66 - m) st.2.2) (fun m st hi=>?_) 6 _ ⟨by show (1:Int)+6=7;omega,by omega,a1,h301.1.mono (by omega)⟩
     obtain⟨g1,g2,g3,g4⟩:=hi;refine Y.bif (fun hc=>?_) (fun hc=>Y.some ⟨g3,g4.mono (by omega)⟩)
     have hc:=aLG hc
     refine Y.bind (QaR g4 (by omega) 14 (by omega)) fun y321 h321=>?_
     refine Y.bind (Q:=kLd) (Y.bif (fun _=>Y.bind (QzM g3 _ _) fun y324 h324=>Y.bind (Q:=kLd) (Y.bif (fun _=>Y.some h324) (fun _=>Y.some g3)) fun j hj=>Y.some hj) (fun _=>Y.some g3)) fun j326 h326=>?_
     refine Y.some ⟨m - 1,by omega,?_,by omega,h326,h321.mono (by omega)⟩
     show IntKind.wrap .i64 (st.1+1)+_=7
     rw[Qe (by omega) (by omega)];omega
    ·obtain⟨f1,f2⟩:=h327
     refine Y.bind (Qym _ (by have:=i5.n;show b.2.2.2.length<=1000000;omega) _) fun y328 _=>?_
     refine Y.bind (Q:=fun (q:TBk)=>okB q/\q.2.2.2.length+(n - 1)<=2) (Y.bif (fun _=>?_) (fun _=>Y.some ⟨i5,by show b.2.2.2.length+_<=2;omega⟩)) fun j329 h329=>?_
     ·refine Y.grd (ZC _ _ (by show b.2.2.2.length<1000000;omega)) (Y.some ⟨⟨i5.p,i5.h,i5.m,?_,?_⟩,?_⟩)
      ·show (List.append b.2.2.2 _).length<=10
       simp only[aLo,aLi,aLh,aLj];omega
      ·intro v hv
       have hv:v ∈ b.2.2.2++[y307.2.1]:=hv
       rcases List.mem_append.1 hv with hv | hv
       ·exact i5.t v hv
       ·rw[aLs.1 hv];omega
      ·show (List.append b.2.2.2 _).length+(n - 1)<=2
       simp only[aLo,aLi,aLh,aLj];omega
     ·refine Y.bind (QmJ f2 (by omega) i3 _ (fun i s=>(Zt j305.2.2.1 (List.getD coins i dC).1).bind fun (y:Bool)=>bif !y then some (true,s) else (QS s 12).bind fun (y:Bool×List Int×Int)=>some (y.1,y.2)) (fun i M s hi hs hM=>?_) (fun acc i s hi ha=>?_) (fun acc s=>by simp only[dge,aLC])) fun j349 h349=>?_
      ·refine Y.eqb (Yy _ (by have:=h305.li;unfold BIG;omega) _) (Y.bif (fun _=>Y.some (hs.mono (by omega))) (fun _=>Y.bind (QaR hs (by omega) 12 (by omega)) fun y hy=>Y.some hy))
      ·have ew:=wsucc hi (by unfold BIG;omega)
       simp only[dlt hi,Qf _ i hi,Int.toNat_natCast,aLB,ew,ZC acc _ (show acc.length<1000000 by omega)]
       rfl
      ·exact Y.some ⟨n - 1,by omega,ek,by omega,h349.1,f1,h329.1,h329.2,h349.2.mono (by omega)⟩
   ·refine⟨by show y198.1=_;omega,by omega,c1,hl,⟨by show 0<=x.1/\x.1<=1000;omega,by show 0<=x.2.1+1/\x.2.1+1<=1000;omega,by show 0<=1+I.1/\1+I.1<=1000;omega,by show 0<=10;omega,fun v hv=>nomatch hv⟩,by show 0+_<=2;omega,U.1.mono (by omega)⟩
  ·obtain⟨d1,d2,d3⟩:=h350
   refine Y.bind (QAS d2) fun y351 _=>Y.bind (QsF d1 y351) fun y352 h352=>?_
   obtain⟨e1,e2,e3⟩:=h352;exact Y.bif (fun _=>Y.some ⟨d1,by show (0:Int)<=0/\(0:Int)<=100;omega,d3⟩) (fun _=>Y.some ⟨e1,by show 0<=y352.2.1/\y352.2.1<=100;omega,d3⟩)
theorem QCA {N:Nat} {s:List Int×Int} (h:Src N s) (hN:N<=500000) {k:Int} (h0:0<=k) (h7:k<=7):Y (QeW s k) (fun r=>kLd r.1/\kSt r.2.1/\Src (N+2800) r.2.2.2):=by
 unfold QeW;refine Y.bind (Q:=fun (j:List Int×TL×TState×List Int×Int)=>kLd j.2.1/\kSt j.2.2.1/\Src (N+2800) j.2.2.2) ?_ (fun j hj=>Y.some hj)
 refine Y.loop (fun n (st:Int×List Int×TL×TState×List Int×Int)=>st.1=(n:Int)/\n<=7/\st.2.1.length+n<=7/\kLd st.2.2.1/\kSt st.2.2.2.1/\Src (N+2800 - 400 * n) st.2.2.2.2) (fun n st hi=>?_) k.toNat _ ⟨by show k=_;omega,by omega,by show 0+_<=7;omega,kLd.nil,⟨by show (0:Int)<=0/\(0:Int)<=100;omega,by show (0:Int)<=0/\(0:Int)<=100;omega,kXs.nil,List.Pairwise.nil,by show 0<=8;omega⟩,h.mono (by omega)⟩
 obtain⟨i1,i2,i3,i4,i5,i6⟩:=hi;refine Y.bif (fun I=>?_) (fun I=>?_)
 ·have hn:0<n:=by have:=aLG I;omega
  have ek:IntKind.wrap .i64 (st.1 - 1)=((n - 1:Nat):Int):=by rw[i1,Qe (by omega) (by omega)];omega
  refine Y.bind (QDM i6 (by omega) i4 i5) fun y14 J=>?_
  obtain⟨a1,a2,a3⟩:=J;refine Y.bind (QAD a1 i5 a2) fun U h15=>?_
  obtain⟨b1,b2⟩:=h15;have hl:kLd U.2:=by rw[b1];exact a1
  refine Y.bif (fun _=>Y.some ⟨n - 1,by omega,ek,by omega,by show st.2.1.length+_<=7;omega,hl,i5,a3.mono (by omega)⟩) (fun h0=>?_)
  refine Y.grd (ZC _ _ (by omega)) (Y.some ⟨n - 1,by omega,ek,by omega,?_,hl,b2 (by simpa using h0),a3.mono (by omega)⟩)
  show (List.append _ _).length+_<=7
  simp only[aLo,aLi,aLh,aLj];omega
 ·have hn:n=0:=by have:=aLH I;omega
  subst hn;exact Y.some ⟨i4,i5,i6⟩
end GL
end Go.Dx
set_option maxHeartbeats 2000000
namespace Go.Dx
namespace GL
theorem QDb {N:Nat} {s:List Int×Int} (h:Src N s) (hN:N<=400000):Y (Qek s) (fun r=>kLd r.1/\kSt r.2.1/\r.2.2.1.length<=100/\r.2.2.2.1.length<=5/\Src (N+4000) r.2.2.2.2):=by
 unfold Qek;refine Y.bind (QY h (by omega) 6 (by omega)) fun y109 U=>?_
 have m1:=U.2.1
 have m2:=U.2.2.1 (by omega)
 have em:IntKind.wrap .i64 (2+y109.1)=2+y109.1:=Qe (by omega) (by omega)
 rw[em];refine Y.bind (QCA U.1 (by omega) (by omega) (by omega)) fun y110 h110=>?_
 obtain⟨c1,c2,c3⟩:=h110;have hcn:=c2.c.n
 refine Y.bind (QmJ c3 (by omega) c2.c _ (fun i s=>(Qa1 y110.2.1).bind fun (y:Int)=>(Jv (List.getD y110.2.1.2.2.1 i dC) y).bind fun (y:Bool)=>bif y then some (true,s) else (QS s 8).bind fun (y:Bool×List Int×Int)=>some (y.1,y.2)) (fun i M s hi hs hM=>?_) (fun acc i s hi ha=>?_) (fun acc s=>by simp only[dge,aLC])) fun j136 h136=>?_
 ·refine Y.eqb (QuO _) (Y.eqb (Qp7 _ _) (Y.bif (fun _=>Y.some (hs.mono (by omega))) (fun _=>Y.bind (QaR hs (by omega) 8 (by omega)) fun y hy=>Y.some hy)))
 ·have ew:=wsucc hi (by unfold BIG;omega)
  simp only[dlt hi,Qf _ i hi,Int.toNat_natCast,aLB,ew,ZC acc _ (show acc.length<1000000 by omega)]
  rfl
 ·obtain⟨d1,d2⟩:=h136
  refine Y.bind (QY d2 (by omega) 6 (by omega)) fun y137 h137=>?_
  have k1:=h137.2.1
  have k2:=h137.2.2.1 (by omega)
  refine Y.bind (Q:=fun (j:List Int×TL×List Int×Int)=>j.1.length<=5/\kLd j.2.1/\Src (N+3600) j.2.2) ?_ (fun I h199=>?_)
  ·refine Y.loop (fun n (st:List TCoin×List Int×Int×TL×List Int×Int)=>st.2.2.1=(n:Int)/\n<=5/\st.2.1.length+n<=5/\st.1=j136.1/\kLd st.2.2.2.1/\Src (N+3600 - 100 * n) st.2.2.2.2) (fun n st hi=>?_) y137.1.toNat _ ⟨by show y137.1=_;omega,by omega,by show 0+_<=5;omega,rfl,c1,h137.1.mono (by omega)⟩
   obtain⟨i1,i2,i3,i4,i5,i6⟩:=hi;refine Y.bif (fun J=>?_) (fun J=>?_)
   ·have hn:0<n:=by have:=aLG J;omega
    have ek:IntKind.wrap .i64 (st.2.2.1 - 1)=((n - 1:Nat):Int):=by rw[i1,Qe (by omega) (by omega)];omega
    refine Y.bind (Qyp i6 (by omega) (show kXs st.1 by rw[i4];exact d1)) fun y179 h179=>?_
    refine Y.bind (QzX h179.2) fun y180 _=>Y.bind (QsF i5 y180) fun y181 h181=>?_
    obtain⟨a1,a2,a3⟩:=h181;refine Y.bif (fun _=>Y.some ⟨n - 1,by omega,ek,by omega,by show st.2.1.length+_<=5;omega,i4,i5,h179.1.mono (by omega)⟩) (fun _=>?_)
    refine Y.grd (ZC _ _ (by omega)) ?_
    refine Y.bind (Q:=fun (j:TL×List Int×Int)=>kLd j.1/\Src (N+3600 - 100 * n+66) j.2) ?_ (fun j198 h198=>?_)
    ·refine Y.loop (fun m (st:Int×TL×List Int×Int)=>st.1+(m:Int)=7/\m<=6/\kLd st.2.1/\Src (N+3600 - 100 * n+66 - m) st.2.2) (fun m st hi=>?_) 6 _ ⟨by show (1:Int)+6=7;omega,by omega,a1,h179.1.mono (by omega)⟩
     obtain⟨g1,g2,g3,g4⟩:=hi;refine Y.bif (fun J=>?_) (fun J=>Y.some ⟨g3,g4.mono (by omega)⟩)
     have J:=aLG J
     refine Y.bind (QzM g3 _ _) fun y193 h193=>?_
     refine Y.bind (Q:=fun (q:Bool×List Int×Int)=>Src (N+3600 - 100 * n+66 - m+1) q.2) (Y.bif (fun _=>Y.bind (QaR g4 (by omega) 12 (by omega)) fun y hy=>Y.some hy) (fun _=>Y.some (g4.mono (by omega)))) fun j196 h196=>?_
     refine Y.bind (Q:=kLd) (Y.bif (fun _=>Y.some h193) (fun _=>Y.some g3)) fun j197 h197=>?_
     refine Y.some ⟨m - 1,by omega,?_,by omega,h197,h196.mono (by omega)⟩
     show IntKind.wrap .i64 (st.1+1)+_=7
     rw[Qe (by omega) (by omega)];omega
    ·refine Y.some ⟨n - 1,by omega,ek,by omega,?_,i4,h198.1,h198.2.mono (by omega)⟩
     show (List.append _ _).length+_<=5
     simp only[aLo,aLi,aLh,aLj];omega
   ·have hn:n=0:=by have:=aLH J;omega
    subst hn;exact Y.some ⟨by show st.2.1.length<=5;omega,i5,i6⟩
  ·obtain⟨e1,e2,e3⟩:=h199
   refine Y.bind (Q:=fun (j:List Int×List Int×Int)=>j.1.length<=100/\Src (N+3610) j.2) ?_ (fun j216 h216=>Y.some ⟨e2,c2,h216.1,e1,h216.2.mono (by omega)⟩)
   refine Y.loop (fun n (st:List Int×Int×List Int×Int)=>0<=st.2.1/\st.2.1+(n:Int)=(I.1.length:Int)/\st.1.length<=100/\Src (N+3605 - n) st.2.2) (fun n st hi=>?_) I.1.length _ ⟨Int.le_refl _,by show (0:Int)+_=_;omega,by show 0<=100;omega,e3.mono (by omega)⟩
   obtain⟨i1,i2,i3,i4⟩:=hi;refine Y.bif (fun J=>?_) (fun J=>Y.some ⟨i3,i4.mono (by omega)⟩)
   have J:=aLG J
   refine Y.grd (QP i1 J) (Y.eqb (Qtq e2.bl c2.bS _ _) ?_);have hlen:=(QEr I.2.1 y110.2.1 st.1 (List.getD I.1 (Int.toNat st.2.1) 0)).2
   refine Y.bind (Q:=fun (q:Bool×List Int×Int)=>Src (N+3605 - n+1) q.2) (Y.bif (fun _=>Y.bind (QaR i4 (by omega) 3 (by omega)) fun y hy=>Y.some hy) (fun _=>Y.some (i4.mono (by omega)))) fun j214 h214=>?_
   refine Y.bind (Q:=fun (q:List Int)=>q.length<=100) (Y.bif (fun _=>Y.some hlen) (fun _=>Y.some i3)) fun j215 h215=>?_
   refine Y.some ⟨n - 1,by omega,?_,?_,h215,h214.mono (by omega)⟩
   ·show 0<=IntKind.wrap .i64 (st.2.1+1)
    rw[Qe (by omega) (by omega)];omega
   ·show IntKind.wrap .i64 (st.2.1+1)+_=_
    rw[Qe (by omega) (by omega)];omega
structure okWd (r:TL×TState×List Int):Prop where
 l:bL' r.1
 s:bS r.2.1
 p:r.2.2.length<=1000
theorem QCj {N:Nat} {s:List Int×Int} (h:Src N s) (hN:N<=300000):Y (Qe6 s) (fun r=>okWd (r.1,r.2.1,r.2.2.1)/\r.2.2.1.length<=101/\r.2.2.2.1.length<=5/\Src (N+5000) r.2.2.2.2):=by
 have hB:BIG=4611686018427387904:=rfl
 unfold Qe6;refine Y.bind (QDb h (by omega)) fun y16 h16=>?_
 obtain⟨a1,a2,a3,a4,a5⟩:=h16;refine Y.bind (QY a5 (by omega) 16 (by omega)) fun y17 J=>?_
 refine Y.bind (Q:=fun (j:List Int×TState×List Int×Int)=>j.1.length<=101/\bS j.2.1/\Src (N+5000) j.2.2) (Y.bif (fun _=>?_) (fun _=>?_)) fun j30 I=>Y.some ⟨⟨a1.bl,I.2.1,by show j30.1.length<=1000;have:=I.1;omega⟩,I.1,a4,I.2.2⟩
 ·refine Y.bind (QiC J.1 (by omega) _ (by simp) (by simp)) fun y24 h24=>?_
  refine Y.grd (ZC _ _ (by omega)) (Y.some ⟨?_,a2.bS,h24.1.mono (by omega)⟩)
  show (List.append _ _).length<=101
  simp only[aLo,aLi,aLh,aLj];omega
 ·refine Y.bind (Q:=fun (j:List Int×TState×List Int×Int)=>j.1.length<=101/\bS j.2.1/\Src (N+5000) j.2.2) (Y.bif (fun _=>?_) (fun _=>?_)) fun j29 h29=>Y.some h29
  ·refine Y.bind (QBd J.1 (by omega)) fun y27 U=>Y.some ⟨by show y16.2.2.1.length<=101;omega,⟨?_,fun x hx=>?_,a2.bS.m⟩,U.2.mono (by omega)⟩
   ·show y27.1.length<BIG
    have:=U.1.1;omega
   ·have:=U.1.2 x hx
    unfold kC at this;omega
  ·refine Y.bind (Q:=fun (p:List Int)=>p.length<=101) (Y.bif (fun _=>Y.grd rfl (Y.some (by simp))) (fun _=>Y.some (by omega))) fun j28 h28=>Y.some ⟨h28,a2.bS,J.1.mono (by omega)⟩
theorem QEw {x:List Int} (h:Qot x):Src 0 ((x,(0:Int)):List Int×Int):=⟨h,Int.le_refl _,Int.le_refl _⟩
end GL
end Go.Dx
set_option maxHeartbeats 2000000
namespace Go.Dx
namespace GL
theorem QEA {o:Option Bool} (h:Y o (fun b=>b=true)):o=some true:=by obtain⟨b,h1,I⟩:=h;rw[h1,I]
def QDC (x:List Int):Prop:=List.length x<=maxLen/\∀y,y ∈ x->(Lit.int .u8 y).wf=true
theorem QDL {x:List Int} (h:QDC x) (hl:x.length<=1048576):Qot x:=by
 refine⟨hl,fun a I=>?_⟩
 have:=h.2 a I
 simp only[Lit.wf,aLg,aLF] at this;have e1:IntKind.u8.min=0:=by decide
 have J:IntKind.u8.max=255:=by decide
 rw[e1,J] at this;exact this
theorem QDR (l:List Int) (hl:l.length<BIG) (v:Int):Qhi l v=some (decide (v ∈ l)):=by
 unfold Qhi;rw[QiF l (fun a=>decide (a=v)) _ (fun i h=>?_) (by simp only[dge,aLC]),any_eq']
 simp only[dlt h,Qf l i h,Qc l i _ h,aLB,wsucc h hl];cases decide (l[i]=v)<;>rfl
theorem Qpv {l:TL} (h:mLF l=0) (id:Int):QfJ l id=some ((mTI l id).2,(mTI l id).1):=by
 have ho:=JA h
 have I:BIG=4611686018427387904:=rfl
 unfold QfJ;rw[QbG l (by have:=ho.n1;omega) (by have:=ho.n2;omega),aLc,h,QiI ho];rfl
theorem QsG {a t:TX} (I:mTxF a=0) (ht:mTxF t=0):Qe0 a t=some (Ye a t):=by
 unfold Qe0;rw[Qil a (ZS I).b,aLc,I,Qil t (ZS ht).b,aLc,ht,Qoj (ZS I).b.ins (ZS ht).b.ins];rfl
end GL
end Go.Dx
set_option maxHeartbeats 2000000
namespace Go.Dx
namespace GL
def mTx7 (l:List Int) (i:Nat) (x:Int):Int:=if mIn x 1 60 then (if x ∈ l.take i then 7 else 0) else 3
def mB7 (b:TBk):Int:=if mIn b.1 0 60&&(mIn b.2.1 1 40&&mIn b.2.2.1 1 999) then (if decide (b.1=0)=decide (b.2.1=1) then (if (6:Int)<(b.2.2.2.length:Int) then 2 else code (mTx7 b.2.2.2) b.2.2.2) else 1) else 3
theorem Qzc {l:List Int} (hl:l ≠ []) (h:∀k,k ∈ l->0<=k):cuts 43 (ZL l [43])=l.map Lib.itoa:=by
 unfold ZL;refine QaT 43 _ (by simpa using hl) fun w hw=>?_
 obtain⟨k,hk,rfl⟩:=List.mem_map.1 hw;exact YA (h k hk) 43 (by decide)
theorem QjJ (b:TBk) (hb:b.2.2.2.length<BIG):QaG b=some (mB7 b):=by
 unfold QaG mB7;simp only[Zk,QcK,aLc,beqB];cases mIn b.1 0 60<;>cases mIn b.2.1 1 40<;>cases mIn b.2.2.1 1 999<;>try rfl
 simp only[Bool.not_true,aLC,aLc,Bool.true_and,if_true];by_cases I:decide (b.1=0)=decide (b.2.1=1)
 ·rw[aLE I,if_pos I]
  simp only[Bool.not_true,aLC];by_cases J:(6:Int)<(b.2.2.2.length:Int)
  ·rw[aLE J,if_pos J];rfl
  ·rw[aLD J,if_neg J,aLC]
   rw[JR b.2.2.2 (mTx7 b.2.2.2) _ (fun i h=>?_) (by simp only[dge,aLC])]
   ·split
    ·rename_i h;rw[h]
    ·rfl
   ·simp only[dlt h,Qf _ i h,Qc _ i _ h,YZ _ i (Nat.le_of_lt h),Qbw,aLB,QiU,aLc,wsucc h hb,Ql7 _ (Qdf hb i)]
    unfold mTx7;cases mIn b.2.2.2[i] 1 60<;>by_cases hm:b.2.2.2[i] ∈ b.2.2.2.take i<;>simp[hm]
 ·rw[aLD I,if_neg I];rfl
structure okB7 (b:TBk):Prop where
 p:0<=b.1/\b.1<=60
 h:1<=b.2.1/\b.2.1<=40
 m:1<=b.2.2.1/\b.2.2.1<=999
 n:b.2.2.2.length<=6
 t:∀x,x ∈ b.2.2.2->1<=x/\x<=60
theorem Qty {b:TBk} (h:mB7 b=0):okB7 b:=by
 unfold mB7 at h;cases h1:mIn b.1 0 60&&(mIn b.2.1 1 40&&mIn b.2.2.1 1 999) with
 | false=>rw[h1] at h;simp at h
 | true=>
  rw[h1,if_pos rfl] at h;rw[aLg,aLg,Qq,Qq,Qq] at h1;by_cases J:decide (b.1=0)=decide (b.2.1=1)
  ·rw[if_pos J] at h
   by_cases U:(6:Int)<(b.2.2.2.length:Int)
   ·rw[if_pos U] at h;cases h
   ·rw[if_neg U] at h
    refine⟨h1.1,h1.2.1,h1.2.2,by omega,fun x hx=>?_⟩
    obtain⟨i,hi,rfl⟩:=List.mem_iff_getElem.1 hx;have I:=J4 h i _ (aLf hi)
    unfold mTx7 at I;cases h3:mIn b.2.2.2[i] 1 60 with
    | false=>rw[h3] at I;simp at I
    | true=>exact Qq.1 h3
  ·rw[if_neg J] at h;cases h
def wBk (b:TBk):List (List UInt8):=[[98,108,111,99,107],Lib.itoa b.1,Lib.itoa b.2.1,Lib.itoa b.2.2.1,if b.2.2.2=[] then [45] else ZL b.2.2.2 [43]]
def QaK (b:TBk):List UInt8:=Lib.join (wBk b) [32]
theorem QEu (a b c:Int):ZL [a,b,c] [32]=Lib.itoa a++32::(Lib.itoa b++32::Lib.itoa c):=by
 unfold ZL;rw[List.map_cons,List.map_cons,List.map_cons,List.map_nil,ZI _ _ _ (by simp),ZI _ _ _ (by simp),Lib.join_one]
theorem Qkf {b:TBk} (h:okB7 b):Qa5 b=some (QaK b):=by
 have hp:=h.p
 have hh:=h.h
 have hm:=h.m
 have hn:=h.n
 have hk:∀k,k ∈ [b.1,b.2.1,b.2.2.1]->0<=k/\k<=1000000:=fun k hk=>by
  simp only[List.mem_cons,List.not_mem_nil,or_false] at hk;rcases hk with rfl | rfl | rfl<;>omega
 have I:∀k,k ∈ b.2.2.2->0<=k/\k<=1000000:=fun k hk=>by have:=h.t k hk;omega
 have U:=QdM [b.1,b.2.1,b.2.2.1] [32] hk
 have l2:=QdM b.2.2.2 [43] I
 simp only[aLh,aLj] at U l2;unfold Qa5;obtain⟨w,hw⟩:∃w,w=if b.2.2.2=[] then [45] else ZL b.2.2.2 [43]:=⟨_,rfl⟩
 have hwl:w.length<=1000:=by
  rw[hw];split
  ·simp
  ·omega
 have e:(bif decide ((0:Int)<(b.2.2.2.length:Int)) then (Qay b.2.2.2 [43]).bind fun y6=>some y6 else some [45]:Option (List UInt8))=some w:=by
  rw[hw];by_cases J:b.2.2.2=[]
  ·rw[J,if_pos rfl];rfl
  ·have hp:0<b.2.2.2.length:=List.length_pos_iff.2 J
   rw[if_neg J,aLE (by omega),aLB,Qjk _ [43] (by omega) (by simp) I];rfl
 rw[e,aLc,Qjk _ [32] (by simp) (by simp) hk,aLc]
 rw[Qr,Qr,Qr]
 ·unfold QaK wBk
  rw[<-hw,QEu,ZI _ _ _ (by simp),ZI _ _ _ (by simp),ZI _ _ _ (by simp),ZI _ _ _ (by simp),Lib.join_one]
  simp
 all_goals ((try simp only[aLo,aLi,aLh,aLj]);unfold LIM;omega)
theorem QAn {l:List Int} (h:l ≠ []) (hk:∀k,k ∈ l->0<=k):ZL l [43] ≠ [45]:=by
 cases l with
 | nil=>exact absurd rfl h
 | cons a r=>
  intro e;have I:(45:UInt8) ∉ Lib.itoa a:=YA (hk a aLm) 45 (by decide)
  unfold ZL at e;rw[List.map_cons] at e;cases r with
  | nil=>rw[List.map_nil,Lib.join_one] at e;rw[e] at I;simp at I
  | cons b r=>
   rw[List.map_cons,ZI _ _ _ (by simp)] at e
   have hl:=congrArg List.length e
   simp only[aLi,aLh,aLj] at hl;have J:Lib.itoa a=[]:=List.length_eq_zero_iff.1 (by omega)
   rw[J,aLx] at e;injection e with e1 U
   cases e1
theorem QEy {b:TBk} (h:okB7 b):∀w,w ∈ wBk b->(32:UInt8) ∉ w:=by
 have hp:=h.p
 have hh:=h.h
 have hm:=h.m
 intro w hw;unfold wBk at hw;simp only[List.mem_cons,List.not_mem_nil,or_false] at hw;rcases hw with rfl | rfl | rfl | rfl | rfl
 ·decide
 ·exact YA (by omega) 32 (by decide)
 ·exact YA (by omega) 32 (by decide)
 ·exact YA (by omega) 32 (by decide)
 ·split
  ·decide
  ·rename_i U
   have I:∀ws:List (List UInt8),(∀w,w ∈ ws->(32:UInt8) ∉ w)->(32:UInt8) ∉ Lib.join ws [43]:=by
    intro ws;induction ws with
    | nil=>intro _;simp[Lib.join_nil]
    | cons x ws J=>
     intro h;cases ws with
     | nil=>rw[Lib.join_one];exact h x aLm
     | cons y ws=>
      rw[ZI _ _ _ (by simp),List.mem_append,List.mem_cons,not_or,not_or]
      exact⟨h x aLm,by decide,J fun w hw=>h w (aLp _ hw)⟩
   refine I _ fun w hw=>?_
   obtain⟨k,hk,rfl⟩:=List.mem_map.1 hw;exact YA (by have:=h.t k hk;omega) 32 (by decide)
theorem QsQ {b:TBk} (h:okB7 b):cuts 32 (QaK b)=wBk b:=QaT 32 _ (by unfold wBk;simp) (QEy h)
theorem QrV {n:Int} (h:0<=n/\n<=1000):numS (Lib.itoa n)=n:=QcR h.1 (by omega)
theorem QyV {b:TBk} (h:mB7 b=0) (hl:(QaK b).length<=300):Qdb (QaK b)=some (b,true):=by
 have ho:=Qty h
 have hp:=ho.p
 have hh:=ho.h
 have hm:=ho.m
 have hB:BIG=4611686018427387904:=rfl
 have w:∀i,(List.getD (wBk b) i []).length<=300:=fun i=>by
  have:=Jt 32 (QaK b) i
  rw[QsQ ho] at this;omega
 unfold Qdb;rw[Qmn _ 32 (by omega),aLc,QsQ ho]
 have e0:decide ((300:Int)<((QaK b).length:Int))=false:=aLD (by omega)
 have w1:List.getD (wBk b) (Int.toNat 1) []=Lib.itoa b.1:=rfl
 have w2:List.getD (wBk b) (Int.toNat 2) []=Lib.itoa b.2.1:=rfl
 have w3:List.getD (wBk b) (Int.toNat 3) []=Lib.itoa b.2.2.1:=rfl
 obtain⟨v,hv⟩:∃v,v=if b.2.2.2=[] then [45] else ZL b.2.2.2 [43]:=⟨_,rfl⟩
 have w4:List.getD (wBk b) (Int.toNat 4) []=v:=by rw[hv];rfl
 have i1:inB 1 (wBk b)=true:=rfl
 have i2:inB 2 (wBk b)=true:=rfl
 have i3:inB 3 (wBk b)=true:=rfl
 have i4:inB 4 (wBk b)=true:=rfl
 have l1:=w 1;have l2:=w 2;have l3:=w 3;have J:=w 4
 have l1:(Lib.itoa b.1).length<=300:=l1
 have l2:(Lib.itoa b.2.1).length<=300:=l2
 have l3:(Lib.itoa b.2.2.1).length<=300:=l3
 have J:v.length<=300:=by rw[<-w4];exact J
 have hlen:((wBk b).length:Int)=5:=rfl
 rw[e0,hlen];simp only[aLC,decide_true,Bool.not_true,aLc,i1,i2,i3,i4,w1,w2,w3,w4,aLB,QbR _ (show (Lib.itoa b.1).length<=1000000 by omega),QbR _ (show (Lib.itoa b.2.1).length<=1000000 by omega),QbR _ (show (Lib.itoa b.2.2.1).length<=1000000 by omega),QrV (show 0<=b.1/\b.1<=1000 by omega),QrV (show 0<=b.2.1/\b.2.1<=1000 by omega),QrV (show 0<=b.2.2.1/\b.2.2.1<=1000 by omega)]
 have e:(bif !decide (v=[45]) then (QaW v [43]).bind fun (U:List Int)=>some (b.1,(b.2.1,(b.2.2.1,U))) else some (b.1,(b.2.1,(b.2.2.1,[]))):Option TBk)=some b:=by
  rw[hv];by_cases I:b.2.2.2=[]
  ·rw[if_pos I,aLE rfl]
   show some (b.1,(b.2.1,(b.2.2.1,[])))=some b
   rw[<-I]
  ·have hne:=QAn I fun k hk=>by have:=ho.t k hk;omega
   rw[if_neg I,aLD hne,Bool.not_false,aLB,Quw _ 43 (by rw[hv,if_neg I] at J;omega),Qzc I (fun k hk=>by have:=ho.t k hk;omega),aLc,List.map_map]
   have:(b.2.2.2.map (numS ∘ Lib.itoa))=b.2.2.2:=by
    have e5:b.2.2.2.map (numS ∘ Lib.itoa)=b.2.2.2.map id:=List.map_congr_left fun k hk=>QrV (n:=k) (by have:=ho.t k hk;omega)
    rw[e5,List.map_id]
   rw[this]
 rw[e,aLc,QjJ b (by have:=ho.n;omega),aLc,h]
 simp only[decide_true,Bool.not_true,aLC];rw[Qkf ho,aLc,aLE rfl];rfl
end GL
end Go.Dx
set_option maxHeartbeats 2000000
namespace Go.Dx
namespace GL
theorem Qmv {α:Type} {c:Nat->α->Int} {l:List α} (h:∀i a,l[i]? = some a->c i a=0):code c l=0:=by
 unfold code;rw[(Qe3 l 0).2 (fun j a I=>by rw[Nat.zero_add,if_pos (h j a I)])]
theorem Qzl (l:List (List UInt8)) (hl:l.length<=LIM):Yn l=some l:=by
 unfold Yn;rw[QfW hl,aLB];cases l with
 | nil=>exact QjO _
 | cons a l=>rfl
theorem Qyr (l:List (Int×Int)) (hl:l.length<=LIM):ZE l=some l:=by
 unfold ZE;rw[QfW hl,aLB];cases l with
 | nil=>exact QjO _
 | cons a l=>rfl
def Qef (l:TL) (t:List UInt8):Int×Int×TL:=if mIn (t.length:Int) 1 300 then (if 0<mId l t then (0,(mId l t,l)) else if 60<=l.1.length then (2,(0,([],[]))) else (0,(((l.1.length+1:Nat):Int),(l.1++[t],l.2)))) else (2,(0,([],[])))
theorem QqD {l:TL} (h:mLF l=0) (t:List UInt8):Qea l t=some (Qef l t):=by
 have ho:=JA h
 have h1:=ho.n1
 have U:=ho.n2
 have hB:BIG=4611686018427387904:=rfl
 have hL:LIM=1073741824:=rfl
 unfold Qea Qgx Qef;rw[QbG l (by omega) (by omega),aLc,h,QCl ho,aLc,Qzl _ (by omega),aLc,Qyr _ (by omega),aLc,aLc,Qnj,aLc]
 simp only[decide_true,Bool.not_true,aLC];cases mIn (t.length:Int) 1 300 with
 | false=>rfl
 | true=>
  simp only[Bool.not_true,aLC,if_true];by_cases I:0<mId l t
  ·rw[aLE I,if_pos I];rfl
  ·rw[aLD I,if_neg I,aLC]
   by_cases J:60<=l.1.length
   ·rw[aLE (by omega),if_pos J];rfl
   ·rw[aLD (by omega),if_neg J,aLC,Qr (by simp only[aLh,aLj];omega)]
    simp
structure Longer (l l':TL):Prop where
 f:mLF l'=0
 g:l'.2=l.2
 pre:∃e,l'.1=l.1++e
theorem Longer.refl {l:TL} (h:mLF l=0):Longer l l:=⟨h,rfl,[],by rw[List.append_nil]⟩
theorem QCo {l:TL} (h:mLF l=0):code (mTx l.1) l.1=0/\code (mSg (l.1.length:Int) l.2) l.2=0/\l.1.length<=60/\l.2.length<=120:=by
 unfold mLF at h;split at h
 ·cases h
 ·rename_i h1
  simp only[Bool.or_eq_true,aLF,not_or] at h1;by_cases I:code (mTx l.1) l.1=0
  ·rw[if_pos I] at h;exact⟨I,h,by omega,by omega⟩
  ·rw[if_neg I] at h;exact absurd h I
theorem Qzu {l:TL} (h:mLF l=0) {t:List UInt8} (ht:mIn (t.length:Int) 1 300=true) (hn:t ∉ l.1) (hl:l.1.length<60):Longer l (l.1++[t],l.2):=by
 obtain⟨h1,h2,h3,h4⟩:=QCo h;refine⟨?_,rfl,[t],rfl⟩;have c1:code (mTx (l.1++[t])) (l.1++[t])=0:=Qmv fun i a I=>by
  rcases Nat.lt_or_ge i l.1.length with hi | hi
  ·have J:=J4 h1 i a (by rw[aLu hi] at I;exact I)
   unfold mTx at J ⊢;rw[List.take_append_of_le_length (by omega)]
   exact J
  ·rw[aLv hi] at I
   have h0:i - l.1.length=0:=by
    have:=(aLy.1 I).1
    simp only[aLh,aLj] at this;omega
   rw[h0] at I;simp only[aLt,aLb] at I;subst I;have U:i=l.1.length:=by omega
   unfold mTx;rw[ht,if_pos rfl,U,List.take_append_of_le_length (Nat.le_refl _),List.take_length,if_neg hn]
 have c2:code (mSg (((l.1++[t]).length:Nat):Int) l.2) l.2=0:=Qmv fun i a I=>by
  have J:=J4 h2 i a I
  unfold mSg at J ⊢;cases h5:mIn a.1 1 999&&mIn a.2 1 (l.1.length:Int) with
  | false=>rw[h5] at J;simp at J
  | true=>
   rw[h5,if_pos rfl] at J;rw[aLg,Qq,Qq] at h5;have h6:(mIn a.1 1 999&&mIn a.2 1 (((l.1++[t]).length:Nat):Int))=true:=by
    rw[aLg,Qq,Qq];simp only[aLi,aLh,aLj];omega
   rw[h6,if_pos rfl];exact J
 have hlen:(l.1++[t]).length=l.1.length+1:=by simp
 unfold mLF;rw[if_neg (by simp only[Bool.or_eq_true,aLF,not_or];show ¬(60:Int)<(((l.1++[t]).length:Nat):Int)/\¬(120:Int)<(l.2.length:Int);omega),if_pos c1]
 exact c2
theorem Qow {l:TL} {s:List UInt8} (h:mId l s ≠ 0):∃k:Nat,∃hk:k<l.1.length,mId l s=(k:Int)+1/\l.1[k]=s/\∀j (U:j<l.1.length),j<k->l.1[j] ≠ s:=by
 unfold mId at h ⊢;cases I:l.1.any fun a=>decide (a=s) with
 | false=>
  have h1:=(Qsh (fun a=>decide (a=s)) l.1).1 ((QkC _ l.1).2 I)
  rw[h1] at h;exact absurd rfl h
 | true=>
  obtain⟨k,hk,e,hp,hq⟩:=Qfg I;exact⟨k,hk,by rw[e],aLG hp,fun j U J he=>by
   have:=hq j J
   rw[aLE he] at this;cases this⟩
structure QEx (l:TL) (t:List UInt8) (id:Int) (l':TL):Prop where
 lg:Longer l l'
 lo:1<=id
 hi:id<=(l'.1.length:Int)
 tx:List.getD l'.1 (Int.toNat (IntKind.wrap .i64 (id - 1))) []=t
theorem QAs {l:TL} (h:mLF l=0) {t:List UInt8} (I:(Qef l t).1=0):QEx l t (Qef l t).2.1 (Qef l t).2.2:=by
 have ho:=JA h
 have hn1:=ho.n1
 unfold Qef at I ⊢;cases h1:mIn (t.length:Int) 1 300 with
 | false=>rw[h1] at I;simp at I
 | true=>
  rw[h1,if_pos rfl] at I;rw[if_pos rfl];by_cases U:0<mId l t
  ·rw[if_pos U]
   obtain⟨k,hk,e1,e2,_⟩:=Qow (l:=l) (s:=t) (by omega)
   refine⟨Longer.refl h,by show 1<=mId l t;omega,by show mId l t<=(l.1.length:Int);omega,?_⟩
   show List.getD l.1 (Int.toNat (IntKind.wrap .i64 (mId l t - 1))) []=t
   rw[e1,Qe (by omega) (by omega),show ((k:Int)+1 - 1).toNat=k by omega,aLk,aLf hk,Option.getD_some,e2]
  ·rw[if_neg U] at I ⊢
   by_cases h3:60<=l.1.length
   ·rw[if_pos h3] at I;cases I
   ·rw[if_neg h3]
    have J:t ∉ l.1:=fun hm=>by
     have:=pos_at l.1 t
     rw[aLE hm] at this;exact U (aLG this)
    refine⟨Qzu h h1 J (by omega),by show (1:Int)<=((l.1.length+1:Nat):Int);omega,?_,?_⟩
    ·show ((l.1.length+1:Nat):Int)<=(((l.1++[t]).length:Nat):Int)
     simp
    ·show List.getD (l.1++[t]) (Int.toNat (IntKind.wrap .i64 (((l.1.length+1:Nat):Int) - 1))) []=t
     rw[Qe (by omega) (by omega),show (((l.1.length+1:Nat):Int) - 1).toNat=l.1.length by omega]
     simp
theorem QBn (l:TL) (t:List UInt8):(Qef l t).1=0\/(Qef l t).1=2:=by
 unfold Qef;split
 ·split
  ·exact .inl rfl
  ·split
   ·exact .inr rfl
   ·exact .inl rfl
 ·exact .inr rfl
theorem QqF {l l':TL} (hl:okL l) (h:Longer l l') {i:Int} (hi:(mTI l i).2=0):mTI l' i=mTI l i:=by
 obtain⟨e,he⟩:=h.pre;have hn:=hl.n1
 unfold mTI at hi ⊢;cases h1:mIn i 1 (l.1.length:Int) with
 | false=>rw[h1] at hi;simp[noT] at hi
 | true=>
  have I:=Qq.1 h1
  have J:mIn i 1 (l'.1.length:Int)=true:=by
   rw[Qq,he,aLi];omega
  rw[J,Qe (n:=i - 1) (by omega) (by omega)]
  have U:List.getD l'.1 (i - 1).toNat []=List.getD l.1 (i - 1).toNat []:=by
   rw[he,aLk,aLk,aLu (by omega)]
  rw[U]
theorem QAX {l l':TL} (h:Longer l l') {s:List UInt8} (hs:mId l s ≠ 0):mId l' s=mId l s:=by
 obtain⟨e,he⟩:=h.pre;obtain⟨k,hk,e1,e2,e3⟩:=Qow hs;have I:k<l'.1.length:=by rw[he,aLi];omega
 have hg:∀j (hj:j<l.1.length) (J:j<l'.1.length),l'.1[j]=l.1[j]:=fun j hj J=>by
  have:l'.1[j]? = l.1[j]?:=by rw[he,aLu hj]
  rw[aLf J,aLf hj] at this;exact Option.some.inj this
 have U:s ∈ l'.1:=by rw[he];exact List.mem_append_left _ (by rw[<-e2];exact aLl hk)
 have hne:mId l' s ≠ 0:=by
  have:=pos_at l'.1 s
  rw[aLE U] at this;have:=aLG this
  unfold mId;omega
 obtain⟨k',hk2,f1,f2,f3⟩:=Qow hne;have:k'=k:=by
  rcases Nat.lt_trichotomy k' k with hh | hh | hh
  ·have:=e3 k' (by omega) hh
   rw[hg k' (by omega) hk2] at f2
   exact absurd f2 this
  ·exact hh
  ·have:=f3 k I hh
   rw[hg k hk I] at this;exact absurd e2 this
 rw[f1,e1,this]
theorem Qyh {l l':TL} (h:Longer l l') (c:List TCoin) (t:TX) (id ht:Int):Qhw l' c t id ht=Qhw l c t id ht:=by
 unfold Qhw mC1 mMet mCnt Qre;rw[h.g]
theorem QyZ {l l':TL} (h:Longer l l') {c:List TCoin} {t:TX} {ht:Int} (I:(mChk l c t ht).2=0):mChk l' c t ht=mChk l c t ht:=by
 unfold mChk at I ⊢;by_cases h1:(Qo t).length<=300
 ·rw[if_pos h1] at I ⊢
  rw[if_pos h1];by_cases J:mId l (Qo t)=0
  ·rw[if_pos J] at I;cases I
  ·rw[if_neg J,QAX h J,if_neg J,Qyh h]
 ·rw[if_neg h1] at I;cases I
end GL
end Go.Dx
set_option maxHeartbeats 2000000
namespace Go.Dx
namespace GL
def insC (l:List TCoin) (x:TCoin):List TCoin:=l.takeWhile (fun y=>Qw y.1 x.1)++[x]++l.dropWhile (fun y=>Qw y.1 x.1)
theorem Qum (l:List TCoin) (x:TCoin):(insC l x).Perm (l++[x]):=by
 unfold insC;have h:l=l.takeWhile (fun y=>Qw y.1 x.1)++l.dropWhile (fun y=>Qw y.1 x.1):=(List.takeWhile_append_dropWhile).symm
 conv=>rhs;rw[h]
 rw[List.append_assoc,List.append_assoc];exact List.Perm.append_left _ List.perm_append_comm
theorem QBg {α:Type} (p:α->Bool):∀(l:List α) (a:α),a ∈ l.takeWhile p->p a=true
 | [],a,h=>by cases h
 | x::l,a,h=>by
  rw[List.takeWhile_cons] at h;cases I:p x with
  | false=>rw[I] at h;cases h
  | true=>
   rw[I,if_pos rfl] at h;rcases List.mem_cons.1 h with rfl | h
   ·exact I
   ·exact QBg p l a h
theorem QzD {α:Type} (p:α->Bool) (c:α) (r:List α):∀(l:List α),l.dropWhile p=c::r->p c=false
 | [],h=>by cases h
 | x::l,h=>by
  rw[List.dropWhile_cons] at h;cases I:p x with
  | true=>rw[I,if_pos rfl] at h;exact QzD p c r l h
  | false=>
   rw[I,if_neg (by simp)] at h
   rw[<-(List.cons.inj h).1];exact I
theorem QCd {l:List TCoin} (h:Rise l) {x:TCoin} (hx:∀y,y ∈ l->y.1 ≠ x.1):Rise (insC l x):=by
 unfold insC Rise;have hs:l=l.takeWhile (fun y=>Qw y.1 x.1)++l.dropWhile (fun y=>Qw y.1 x.1):=(List.takeWhile_append_dropWhile).symm
 have ht:∀a,a ∈ l.takeWhile (fun y=>Qw y.1 x.1)->Qw a.1 x.1=true:=fun a I=>QBg _ l a I
 have hr:(l.takeWhile (fun y=>Qw y.1 x.1)++l.dropWhile (fun y=>Qw y.1 x.1)).Pairwise fun a b=>Qw a.1 b.1=true:=by rw[<-hs];exact h
 rw[List.pairwise_append] at hr;obtain⟨r1,U,r3⟩:=hr;have hd:∀b,b ∈ l.dropWhile (fun y=>Qw y.1 x.1)->Qw x.1 b.1=true:=by
  intro b hb;have J:∀b,b ∈ l.dropWhile (fun y=>Qw y.1 x.1)->Qw b.1 x.1=false:=by
   cases hq:l.dropWhile (fun y=>Qw y.1 x.1) with
   | nil=>intro b hb;cases hb
   | cons c r=>
    have hc:Qw c.1 x.1=false:=QzD (fun y:TCoin=>Qw y.1 x.1) c r l hq
    intro b hb;rw[hq] at U;rcases List.mem_cons.1 hb with rfl | hb
    ·exact hc
    ·have h1:=(List.pairwise_cons.1 U).1 b hb
     cases h2:Qw b.1 x.1 with
     | false=>rfl
     | true=>rw[QbT h1 h2] at hc;cases hc
  cases h1:Qw x.1 b.1 with
  | true=>rfl
  | false=>exact absurd (Qol (J b hb) h1) (hx b (by rw[hs];exact List.mem_append_right _ hb))
 rw[List.pairwise_append,List.pairwise_append];refine⟨⟨r1,List.pairwise_singleton _ _,fun a I b hb=>?_⟩,U,fun a I b hb=>?_⟩
 ·rw[aLs.1 hb];exact ht a I
 ·rcases List.mem_append.1 I with I | I
  ·exact r3 a I b hb
  ·rw[aLs.1 I];exact hd b hb
def Qbj (id h:Int) (m:Bool):Nat->List TOut->List TCoin
 | _,[]=>[]
 | k,o::r=>((id,(k:Int)),(o,(h,m)))::Qbj id h m (k+1) r
theorem QpW (id h:Int) (m:Bool):∀(os:List TOut) (k:Nat),(Qbj id h m k os).length=os.length
 | [],_=>rfl
 | o::r,k=>by unfold Qbj;rw[aLh,QpW id h m r,aLh]
theorem QpS {id h:Int} {m:Bool} {x:TCoin}:∀{os:List TOut} {k:Nat},x ∈ Qbj id h m k os->x.1.1=id/\(k:Int)<=x.1.2/\x.1.2<(k:Int)+os.length/\x.2.1 ∈ os/\x.2.2.1=h
 | [],_,I=>by cases I
 | o::r,k,I=>by
  unfold Qbj at I;rcases List.mem_cons.1 I with rfl | I
  ·refine⟨rfl,Int.le_refl _,?_,aLm,rfl⟩
   show (k:Int)<(k:Int)+((o::r).length:Int)
   rw[aLh];omega
  ·obtain⟨h1,h2,h3,J,U⟩:=QpS I
   rw[aLh];exact⟨h1,by omega,by omega,aLp _ J,U⟩
def QfS (l:List TCoin) (xs:List TCoin):List TCoin:=xs.foldl insC l
theorem Qlt:∀(xs l:List TCoin),(QfS l xs).Perm (l++xs)
 | [],l=>by unfold QfS;simp
 | x::r,l=>by
  have h1:=Qlt r (insC l x)
  show (QfS (insC l x) r).Perm (l++x::r)
  refine h1.trans ?_;have I:=(Qum l x).append_right r
  rw[List.append_assoc] at I;exact I
theorem Qlu {id h:Int} {m:Bool}:∀(os:List TOut) (k:Nat) (l:List TCoin),Rise l->(∀y,y ∈ l->y.1.1=id->y.1.2<(k:Int))->Rise (QfS l (Qbj id h m k os))
 | [],_,l,I,_=>I
 | o::r,k,l,I,hl=>by
  show Rise (QfS (insC l _) (Qbj id h m (k+1) r))
  refine Qlu r (k+1) _ (QCd I fun y J he=>?_) (fun y J h1=>?_)
  ·have:=hl y J (by rw[he])
   rw[he] at this;exact absurd this (by simp)
  ·have:=(Qum l ((id,(k:Int)),(o,(h,m)))).mem_iff.1 J
   rcases List.mem_append.1 this with U | U
   ·have:=hl y U h1;omega
   ·rw[aLs.1 U];show (k:Int)<((k+1:Nat):Int);omega
theorem Qze {α:Type} {l:List α} {p:α->Bool} {k:Nat} (hk:k<l.length) (J:p l[k]=false) (h1:∀i (h:i<l.length),i ≠ k->p l[i]=true):l.filter p=l.take k++l.drop (k+1):=by
 conv=>lhs;rw[<-List.take_append_drop k l]
 rw[aLr hk,List.filter_append,List.filter_cons,J];rw[List.filter_eq_self.2 (fun a I=>?_),if_neg (by simp),List.filter_eq_self.2 (fun a I=>?_)]
 ·obtain⟨i,hi,rfl⟩:=List.mem_iff_getElem.1 I
  rw[aLz] at hi;rw[List.getElem_drop];exact h1 _ (by omega) (by omega)
 ·obtain⟨i,hi,rfl⟩:=List.mem_iff_getElem.1 I
  rw[aLn] at hi;rw[List.getElem_take];exact h1 _ (by omega) (by omega)
def offC (c:List TCoin) (rs:List (Int×Int)):List TCoin:=c.filter fun x=>!decide (x.1 ∈ rs)
theorem QyO {c:List TCoin} (hr:Rise c) (hl:c.length<=1000) (hk:∀x,x ∈ c->x.2.1.2.1.length<=1000000) {rs:List (Int×Int)} (hn:rs.Nodup) (hrl:rs.length<=1000) (hall:∀r,r ∈ rs->∃x,x ∈ c/\x.1=r):Qde c rs=some (offC c rs,0):=by
 have hB:BIG=4611686018427387904:=rfl
 unfold Qde;rw[Qed c (by omega) hk,aLc]
 generalize hf:(fun (s17:List TCoin×Int)=>_)=f
 have key:∀(d i:Nat),i+d=rs.length->Qd f (offC c (rs.take i),(i:Int))=some (Sum.inl (offC c rs)):=by
  intro d;induction d with
  | zero=>
   intro i hi;obtain rfl:i=rs.length:=by omega
   rw[List.take_length];exact QM (by rw[<-hf];simp only[dge,aLC])
  | succ d ih=>
   intro i hi;have I:i<rs.length:=by omega
   have U:Rise (offC c (rs.take i)):=Qiv hr _
   have hlo:(offC c (rs.take i)).length<=c.length:=List.length_filter_le _ _
   obtain⟨x,hx,hxr⟩:=hall _ (aLl I);have hnot:rs[i] ∉ rs.take i:=fun hm=>by
    rw[List.mem_take_iff_getElem] at hm;obtain⟨j,hj,he⟩:=hm;have:=List.nodup_iff_pairwise_ne.1 hn
    rw[List.pairwise_iff_getElem] at this;exact this j i (by omega) I (by omega) he
   have hxo:x ∈ offC c (rs.take i):=List.mem_filter.2 ⟨hx,by rw[hxr,aLD hnot];rfl⟩
   obtain⟨k,k1,k2⟩:=QqH U (by omega) rs[i]
   rcases k2 with ⟨hk1,J⟩ | hno
   ·have hstep:f (offC c (rs.take i),(i:Int))=some (.inl (offC c (rs.take (i+1)),((i+1:Nat):Int))):=by
     rw[<-hf];have hdel:Zv (offC c (rs.take i)) (k:Int) ((k:Int)+1)=some (offC c (rs.take (i+1))):=by
      unfold Zv delS;rw[aLE ⟨by omega,by omega,by omega,by omega⟩,aLB,Int.toNat_natCast,show ((k:Int)+1).toNat=k+1 by omega]
      congr 1;rw[<-Qze (p:=fun x=>!decide (x.1=rs[i])) hk1 (by rw[aLE J];rfl) (fun j hj hjk=>by
       rw[aLD (fun he=>?_)];rfl
       have:=QmV U (aLl hj) (aLl hk1) (by rw[he,J])
       rcases Nat.lt_or_ge j k with h1 | h1
       ·have h2:=Qif U h1 hk1
        rw[he,J,Yr] at h2;cases h2
       ·have h2:=Qif U (show k<j by omega) hj
        rw[he,J,Yr] at h2;cases h2)]
      unfold offC;rw[List.filter_filter];congr 1
      funext x
      rw[List.take_succ_eq_append_getElem I];simp only[List.mem_append,aLs];by_cases h1:x.1 ∈ rs.take i<;>by_cases h2:x.1=rs[i]<;>simp[h1,h2]
     have hw:IntKind.wrap .i64 ((k:Int)+1)=(k:Int)+1:=Qe (by omega) (by omega)
     simp only[dlt I,Qf _ i I,Qc _ i _ I,aLB,k1,aLc,aLE (show ∃h:k<(offC c (rs.take i)).length,((offC c (rs.take i))[k]'h).1=rs[i] from ⟨hk1,J⟩),Bool.not_true,aLC,hw,hdel,wsucc I (by omega)]
    rw[Ze hstep];exact ih (i+1) (by omega)
   ·exact absurd hxr (hno x hxo)
 have:=key rs.length 0 (by omega)
 have e0:offC c (rs.take 0)=c:=by unfold offC;simp
 rw[e0] at this;show ((Qd f (c,0)).bind _)=_
 rw[show ((0:Nat):Int)=0 from rfl] at this
 rw[this];rfl
end GL
end Go.Dx
set_option maxHeartbeats 2000000
namespace Go.Dx
namespace GL
theorem QBe {X:Type} (n:Nat) (f:Int->Option (Int⊕X)) (x:X) (hs:∀i:Nat,i<n->f (i:Int)=some (.inl ((i+1:Nat):Int))) (he:f (n:Int)=some (.inr x)):Qd f 0=some x:=by
 have key:∀(d i:Nat),i+d=n->Qd f (i:Int)=some x:=by
  intro d;induction d with
  | zero=>
   intro i hi;obtain rfl:i=n:=by omega
   exact QM he
  | succ d I=>intro i hi;rw[Ze (hs i (by omega))];exact I (i+1) (by omega)
 exact key n 0 (by omega)
theorem QzR (l:List TCoin) (hl:l.length<BIG) (tx:Int):Qeu l tx=some (l.any fun x=>decide (x.1.1=tx)):=by
 unfold Qeu ZM Z5;rw[Qbb l (fun x=>decide (x.1.1=tx)) _ (fun i h=>?_) (by simp only[dge,aLC]),aLc,ZA]
 ·rfl
 ·simp only[dlt h,Qf l i h,Qc l i _ h,aLB,wsucc h hl]
  unfold Qhg;rw[aLc,aLc];cases decide (l[i].1.1=tx)<;>rfl
def Qhl (l:List TCoin) (id:Int) (outs:List TOut) (h:Int) (m:Bool):List TCoin×Int:=if (l.any fun x=>decide (x.1.1=id))=true then ([],7) else if 40<l.length+outs.length then ([],2) else (QfS l (Qbj id h m 0 outs),0)
theorem QrD {l:List TCoin} (hr:Rise l) (hl:l.length<=1000) (hk:∀x,x ∈ l->x.2.1.2.1.length<=1000000) {id:Int} (hid:mIn id 1 60=true) {outs:List TOut} (hn:outs.length<=4) (ho:∀o,o ∈ outs->mOut o=0/\o.2.1.length<=1000000) {h:Int} (hh:mIn h 0 999=true) (m:Bool):Qae l id outs h m=some (Qhl l id outs h m):=by
 have hB:BIG=4611686018427387904:=rfl
 unfold Qae Qhl;rw[QiU,aLc,hid,QbA,aLc,hh];simp only[Bool.not_true,aLC,aLc];rw[aLD (by omega),aLC]
 rw[QBe outs.length _ (Sum.inl ()) (fun i hi=>by
   have hoi:=ho _ (aLl hi)
   simp only[dlt hi,Qf _ i hi,Qc _ i _ hi,aLB,Qk6 _ (show (outs[i]).2.1.length<BIG by omega),aLc,hoi.1,decide_true,Bool.not_true,aLC,wsucc hi (by omega)]) (by simp only[dge,aLC]),aLc,Sum.elim_inl,QzR _ (by omega),aLc]
 cases hany:l.any fun x=>decide (x.1.1=id) with
 | true=>rfl
 | false=>
  rw[aLC,if_neg (by simp),Qe (by omega) (by omega)]
  by_cases h40:40<l.length+outs.length
  ·rw[aLE (by omega),if_pos h40];rfl
  ·rw[aLD (by omega),if_neg h40,aLC,Qed l (by omega) hk,aLc]
   generalize hf:(fun (s37:List TCoin×Int)=>_)=f
   have key:∀(d i:Nat) (acc:List TCoin),i+d=outs.length->acc.length<=1000+i->Qd f (acc,(i:Int))=some (acc++Qbj id h m i (outs.drop i)):=by
    intro d;induction d with
    | zero=>
     intro i acc hi _;obtain rfl:i=outs.length:=by omega
     rw[QM (show f (acc,(outs.length:Int))=some (.inr acc) by rw[<-hf];simp only[dge,aLC]),List.drop_length]
     unfold Qbj;rw[List.append_nil]
    | succ d ih=>
     intro i acc hi ha;have I:i<outs.length:=by omega
     have hstep:f (acc,(i:Int))=some (.inl (acc++[((id,(i:Int)),(outs[i],(h,m)))],((i+1:Nat):Int))):=by
      rw[<-hf];have hoi:=ho _ (aLl I)
      simp only[dlt I,Qf _ i I,Qc _ i _ I,aLB,Qnr _ hoi.2,aLc,wsucc I (by omega)]
      rw[Qr (by simp only[aLh,aLj];unfold LIM;omega)];rfl
     rw[Ze hstep,ih (i+1) _ (by omega) (by simp;omega),aLr I]
     show _=some (acc++(_::Qbj id h m (i+1) (outs.drop (i+1))))
     rw[List.append_assoc];rfl
   have:=key outs.length 0 l (by omega) (by omega)
   rw[List.drop_zero] at this;show ((Qd f (l,0)).bind _)=_
   rw[show ((0:Nat):Int)=0 from rfl] at this
   rw[this,aLc];have J:=Qlt (Qbj id h m 0 outs) l
   have U:Rise (QfS l (Qbj id h m 0 outs)):=Qlu outs 0 l hr fun y hy h1=>by
    rw[List.any_eq_false] at hany;exact absurd (aLE h1) (hany y hy)
   rw[QqP U (fun x hx=>J.mem_iff.2 hx) J U (by rw[aLi,QpW];omega),aLc]
theorem Qur {c:List TCoin} (U:Rise c) {rs:List (Int×Int)} (hn:rs.Nodup) (h:(c.filter fun x=>decide (x.1 ∈ rs)).length=rs.length):∀r,r ∈ rs->∃x,x ∈ c/\x.1=r:=by
 have hp:=(Qz3 U rs hn).length_eq
 rw[h] at hp;have key:∀(l:List (Int×Int)),l.length=(l.filterMap (atC c)).length->∀r,r ∈ l->∃x,x ∈ c/\x.1=r:=by
  intro l;induction l with
  | nil=>intro _ r I;cases I
  | cons a l ih=>
   intro hl r I;rw[List.filterMap_cons] at hl;have hle:(l.filterMap (atC c)).length<=l.length:=List.length_filterMap_le _ _
   cases J:atC c a with
   | none=>rw[J] at hl;simp only[aLh] at hl;omega
   | some x=>
    rw[J] at hl;simp only[aLh] at hl;rcases List.mem_cons.1 I with rfl | I
    ·exact⟨x,Qia J⟩
    ·exact ih (by omega) r I
 exact key rs hp
def QaB (c:List TCoin) (t:TX) (id h:Int):List TCoin×Int:=if (c.any fun x=>decide (x.1.1=id))=true then ([],7) else Qhl (offC c t.2.2.1) id t.2.2.2 h false
theorem QBA {t:TX} (ht:okT t):∀o,o ∈ t.2.2.2->mOut o=0/\o.2.1.length<=1000000:=fun o ho=>by
 obtain⟨h1,I⟩:=ht.out o ho;refine⟨?_,by have:=(Y0 I).len;omega⟩
 unfold mOut;rw[Qq.2 h1,if_pos rfl];exact I
theorem QBK {c:List TCoin} (I:ZG c=0) {t:TX} (ht:okT t) (hs:(mSp c t).length=t.2.2.1.length) {id:Int} (hid:mIn id 1 60=true) {h:Int} (hh:mIn h 0 999=true):Qe7 c t id h=some (QaB c t id h):=by
 have hcl:=(Qdy I).1
 have J:=Qj0 I
 have hol:(offC c t.2.2.1).length<=c.length:=List.length_filter_le _ _
 unfold Qe7 QaB;rw[Qiw I t ht,if_pos hs,aLc];simp only[decide_true,Bool.not_true,aLC];rw[QzR _ (by unfold BIG;omega),aLc]
 cases U:c.any fun x=>decide (x.1.1=id) with
 | true=>rfl
 | false=>
  rw[aLC,if_neg (by simp),QyO J (by omega) (QdL I) ht.nd (by have:=ht.li;omega) (Qur J ht.nd hs),aLc]
  have hp:=QrD (l:=offC c t.2.2.1) (Qiv J _) (by omega) (fun x hx=>QdL I x (List.mem_filter.1 hx).1) hid ht.lo.2 (QBA ht) hh false
  show ((Qae (offC c t.2.2.1) id t.2.2.2 h false).bind _)=_
  rw[hp];rfl
end GL
end Go.Dx
set_option maxHeartbeats 2000000
namespace Go.Dx
namespace GL
theorem QxR:∀{a b:List TCoin},Rise a->Rise b->(∀x,x ∈ a↔x ∈ b)->a=b
 | [],[],_,_,_=>rfl
 | [],y::b,_,_,h=>absurd ((h y).2 aLm) (by simp)
 | x::a,[],_,_,h=>absurd ((h x).1 aLm) (by simp)
 | x::a,y::b,I,hb,h=>by
  unfold Rise at I hb;rw[List.pairwise_cons] at I hb;have U:x=y:=by
   rcases List.mem_cons.1 ((h x).1 aLm) with h1 | h1
   ·exact h1
   ·rcases List.mem_cons.1 ((h y).2 aLm) with h2 | h2
    ·exact h2.symm
    ·have:=QbT (hb.1 x h1) (I.1 y h2)
     rw[Yr] at this;cases this
  subst U;congr 1;refine QxR I.2 hb.2 fun z=>⟨fun J=>?_,fun J=>?_⟩
  ·rcases List.mem_cons.1 ((h z).1 (aLp _ J)) with h1 | h1
   ·subst h1;have:=I.1 z J;rw[Yr] at this;cases this
   ·exact h1
  ·rcases List.mem_cons.1 ((h z).2 (aLp _ J)) with h1 | h1
   ·subst h1;have:=hb.1 z J;rw[Yr] at this;cases this
   ·exact h1
theorem QEk {l:TL} {c c':List TCoin} {t:TX} (h:mSp c t=mSp c' t) (ht:Int):mChk l c t ht=mChk l c' t ht:=by
 unfold mChk Qhw;rw[h]
theorem QCf {l:List TCoin} (hn:l.length<=40) (J:Rise l) (U:∀x,x ∈ l->mRef x.1=true/\mIn x.2.2.1 0 999=true/\mOut x.2.1=0):ZG l=0:=by
 unfold ZG;rw[if_neg (by omega)]
 refine Qmv fun i a ha=>?_
 obtain⟨hi,rfl⟩:=aLy.1 ha;obtain⟨h1,h2,h3⟩:=U _ (aLl hi);unfold Qk4;rw[h1,h2,Bool.and_self,if_pos rfl,if_pos h3];rcases Nat.eq_zero_or_pos i with I | I
 ·subst I;rfl
 ·have:=Qif J (show i - 1<i by omega) hi
  rw[aLk,aLf (by omega:i - 1<l.length),Option.getD_some,this]
  simp
theorem QA4 {c:List TCoin} (h:ZG c=0):∀x,x ∈ c->mRef x.1=true/\mIn x.2.2.1 0 999=true/\mOut x.2.1=0:=fun x I=>by
 have I:=(Qdy h).2 x I
 refine⟨Qb7.2 ⟨I.tx,I.at_⟩,Qq.2 I.height,?_⟩;unfold mOut;rw[Qq.2 I.val,if_pos rfl];exact I.rule
structure Inv (l:TL) (s:TState) (done:List Int) (S:TState):Prop where
 c:ZG S.2.2.1=0
 m:JX S.2.2.2/\S.2.2.2.length<=8
 sub:∀x,x ∈ S.2.2.1->x ∈ s.2.2.1\/x.1.1 ∈ done
 sup:∀x,x ∈ s.2.2.1->(∀i,i ∈ done->x.1 ∉ (mTI l i).1.2.2.1)->x ∈ S.2.2.1
 pay:(∀i,i ∈ done->(mTI l i).1.1=0)->S.2.2.2=s.2.2.2.filter fun y=>!(done.any fun i=>decide (y.2 ∈ (mTI l i).1.2.2.1))
theorem QcP {l:TL} {s:TState} {ahead:List TX} {id:Int} (h:(mOne l s ahead id).2=0):(mTI l id).2=0/\(mChk l s.2.2.1 (mTI l id).1 (ZD s)).2=0/\(ahead.any fun a=>Ye a (mTI l id).1)=false/\((mTI l id).1.1=0\/((Jc s.2.2.2 (mTI l id).1 id).2=0/\QaC s.2.2.2 (mTI l id).1 ahead=false)):=by
 unfold mOne at h;by_cases h1:(mTI l id).2=0
 ·rw[if_pos h1] at h
  by_cases I:(mChk l s.2.2.1 (mTI l id).1 (ZD s)).2=0
  ·rw[if_pos I] at h
   cases U:ahead.any fun a=>Ye a (mTI l id).1 with
   | true=>rw[U] at h;simp at h
   | false=>
    rw[U,if_neg (by simp)] at h
    refine⟨h1,I,rfl,?_⟩;by_cases J:(mTI l id).1.1 ≠ 0/\((Jc s.2.2.2 (mTI l id).1 id).2 ≠ 0\/QaC s.2.2.2 (mTI l id).1 ahead=true)
    ·rw[if_pos J] at h;cases h
    ·by_cases h5:(mTI l id).1.1=0
     ·exact .inl h5
     ·right
      rw[not_and,not_or] at J;obtain⟨h6,h7⟩:=J h5;exact⟨Decidable.of_not_not h6,by simpa using h7⟩
  ·rw[if_neg I] at h;exact absurd h I
 ·rw[if_neg h1] at h;exact absurd h h1
theorem QDX {l:TL} {c:List TCoin} {t:TX} {ht:Int} (h:(mChk l c t ht).2=0):(mSp c t).length=t.2.2.1.length:=by
 unfold mChk Qhw at h;split at h
 ·split at h
  ·cases h
  ·split at h
   ·assumption
   ·cases h
 ·cases h
theorem QEo {l:TL} {s:TState} (hs:ZG s.2.2.1=0) {done:List Int} {S:TState} (I:Inv l s done S) {t:TX} (ht:okT t) (hlen:(mSp s.2.2.1 t).length=t.2.2.1.length) (hnc:((QJ l done).any fun a=>Ye a t)=false):mSp S.2.2.1 t=mSp s.2.2.1 t:=by
 have hr:=Qj0 hs
 have hR:=Qj0 I.c
 have hall:=Qur hr ht.nd hlen
 have J:∀r,r ∈ t.2.2.1->∀i,i ∈ done->r ∉ (mTI l i).1.2.2.1:=fun r hr i hi hm=>by
  rw[List.any_eq_false] at hnc;refine hnc (mTI l i).1 (List.mem_map.2 ⟨i,hi,rfl⟩) ?_;unfold Ye;rw[List.any_eq_true];exact⟨r,hm,aLE hr⟩
 refine QxR (Qiv hR _) (Qiv hr _) fun z=>?_
 unfold mSp;rw[List.mem_filter,List.mem_filter,aLF];refine⟨fun ⟨h1,U⟩=>⟨?_,U⟩,fun ⟨h1,U⟩=>⟨I.sup z h1 (J z.1 U),U⟩⟩
 rcases I.sub z h1 with h3 | h3
 ·exact h3
 ·obtain⟨x,hx,hxr⟩:=hall z.1 U
  have hxS:x ∈ S.2.2.1:=I.sup x hx (by rw[hxr];exact J z.1 U)
  have:=QmV hR h1 hxS hxr.symm
  rw[this];exact hx
theorem at_mem {m:List TMb} (hm:JX m) {k:Int} {y:TMb} (J:y ∈ m) (hk:y.1=k):mAt m k=y.2:=by
 unfold mAt;have I:(m.any fun x=>decide (x.1=k))=true:=List.any_eq_true.2 ⟨y,J,aLE hk⟩
 obtain⟨j,U,e,hp,_⟩:=Qfg I;rw[e,Int.toNat_natCast,aLk,aLf U,Option.getD_some];obtain⟨i,hi,rfl⟩:=List.mem_iff_getElem.1 J;have hp:=aLG hp
 have:i=j:=by
  rcases Nat.lt_trichotomy i j with h | h | h
  ·have:=Qc9 hm h U;omega
  ·exact h
  ·have:=Qc9 hm h hi;omega
 subst this;rfl
theorem take_same {l:TL} {s:TState} (hm:JX s.2.2.2/\s.2.2.2.length<=8) {done:List Int} {S:TState} (I:Inv l s done S) {t:TX} {id:Int} (h:t.1=0\/((Jc s.2.2.2 t id).2=0/\QaC s.2.2.2 t (QJ l done)=false)):(Jc S.2.2.2 t id).2=0:=by
 by_cases h0:t.1=0
 ·unfold Jc
  rw[if_neg (fun h=>by rw[h0] at h;exact absurd h.1 (by decide)),if_neg (by rw[h0];decide)]
 ·rcases h with h | ⟨h1,h2⟩
  ·exact absurd h h0
  ·unfold QaC at h2
   rw[List.any_eq_false] at h2;have hk:∀i,i ∈ done->(mTI l i).1.1=0/\Qfk s.2.2.2 t (mTI l i).1=false:=fun i hi=>by
    have:=h2 _ (List.mem_map.2 ⟨i,hi,rfl⟩)
    rw[Bool.not_eq_true,Bool.or_eq_false_iff] at this;exact⟨by simpa using this.1,this.2⟩
   have hM:=I.pay fun i hi=>(hk i hi).1
   unfold Jc at h1 ⊢;by_cases hl:t.1=2/\(S.2.2.2.any fun x=>decide (x.1=t.2.1))=false
   ·exfalso
    have hany:(s.2.2.2.any fun x=>decide (x.1=t.2.1))=true:=by
     cases hq:s.2.2.2.any fun x=>decide (x.1=t.2.1) with
     | true=>rfl
     | false=>rw[if_pos ⟨hl.1,hq⟩] at h1;cases h1
    obtain⟨y,J,U⟩:=List.any_eq_true.1 hany;have U:=aLG U
    have hyM:y ∈ S.2.2.2:=by
     rw[hM,List.mem_filter];refine⟨J,?_⟩;rw[Bool.not_eq_true',List.any_eq_false];intro i hi hc;have:=(hk i hi).2
     unfold Qfk at this;rw[aLE hl.1,Bool.true_and,hany,Bool.true_and,at_mem hm.1 J U] at this;rw[this] at hc;cases hc
    have:=(List.any_eq_false.1 hl.2) y hyM
    exact this (aLE U)
   ·rw[if_neg hl]
    by_cases hj:t.1=1
    ·rw[if_pos hj]
     rw[if_neg (fun hh=>by rw[hj] at hh;exact absurd hh.1 (by decide)),if_pos hj] at h1
     have hsub:∀y,y ∈ mOff S.2.2.2 t->y ∈ mOff s.2.2.2 t:=fun y J=>by
      unfold mOff at J ⊢;rw[List.mem_filter] at J ⊢;refine⟨?_,J.2⟩;have:=J.1
      rw[hM] at this;exact (List.mem_filter.1 this).1
     have hlen:(mOff S.2.2.2 t).length<=(mOff s.2.2.2 t).length:=by
      unfold mOff;rw[hM];exact List.Sublist.length_le (List.Sublist.filter _ List.filter_sublist)
     unfold QoF at h1 ⊢;split at h1
     ·cases h1
     ·rename_i ha
      split at h1
      ·cases h1
      ·rename_i hb
       rw[if_neg (fun hh=>?_),if_neg (by omega)]
       obtain⟨y,J,hp⟩:=List.any_eq_true.1 hh;exact ha (List.any_eq_true.2 ⟨y,hsub y J,hp⟩)
    ·rw[if_neg hj]
end GL
end Go.Dx
set_option maxHeartbeats 2000000
namespace Go.Dx
namespace GL
theorem QDQ {l l':TL} (hl:mLF l=0) (hg:Longer l l') {s:TState} (hs:mSt s=0) {done:List Int} {S:TState} (I:Inv l s done S) {id:Int} (h1:(mOne l s (QJ l done) id).2=0) :
  J9 l' S id (ZD s)=some (if (QaB S.2.2.1 (mTI l id).1 id (ZD s)).2=0 then ((mChk l s.2.2.1 (mTI l id).1 (ZD s)).1,(mSp s.2.2.1 (mTI l id).1,(0,(S.1,(S.2.1,((QaB S.2.2.1 (mTI l id).1 id (ZD s)).1,(Jc S.2.2.2 (mTI l id).1 id).1)))))) else (0,([],((QaB S.2.2.1 (mTI l id).1 id (ZD s)).2,S)))):=by
 obtain⟨p1,p2,p3,p4⟩:=QcP h1;have J:=Qhv hs
 have ht:=ZS (Qdj p1)
 have hlen:=QDX p2
 have U:=QEo J.c I ht hlen p3
 have hlo:=JA hg.f
 have hh:=Qkd J
 have hid:=Qwq (JA hl) p1
 have hck:mChk l' S.2.2.1 (mTI l id).1 (ZD s)=mChk l s.2.2.1 (mTI l id).1 (ZD s):=by
  rw[QEk (l:=l') U,QyZ hg p2]
 have htk:=take_same (Qmy J.m) I (t:=(mTI l id).1) (id:=id) p4
 unfold J9;rw[QiI hlo,QqF (JA hl) hg p1,aLc,aLE p1];simp only[Bool.not_true,aLC];rw[Qii hlo I.c ht hh,hck,aLc,aLE p2];simp only[Bool.not_true,aLC];rw[Qi0 I.m (by have:=ht.li;omega) hid,aLc,aLE htk]
 simp only[Bool.not_true,aLC];rw[Qiw I.c _ ht,U,if_pos hlen,aLc,QBK I.c ht (by rw[U];exact hlen) hid hh,aLc]
 by_cases h0:(QaB S.2.2.1 (mTI l id).1 id (ZD s)).2=0
 ·rw[aLE h0,if_pos h0];rfl
 ·rw[aLD h0,if_neg h0];rfl
theorem QwS {l:TL} {done:List Int} {id:Int} (hi:(mTI l id).2=0) (h:((QJ l done).any fun a=>Ye a (mTI l id).1)=false):id ∉ done:=fun hm=>by
 rw[List.any_eq_false] at h;exact h _ (List.mem_map.2 ⟨id,hm,rfl⟩) (QqQ (ZS (Qdj hi)))
theorem Qz9 {l:TL} {s:TState} {done:List Int} {S:TState} (I:Inv l s done S) {id h:Int} {t:TX} (hn:id ∉ done):(QaB S.2.2.1 t id h).2=0\/(QaB S.2.2.1 t id h).2=2\/((QaB S.2.2.1 t id h).2=7/\∃x,x ∈ s.2.2.1/\x.1.1=id):=by
 unfold QaB;split
 ·rename_i J
  right;right;refine⟨rfl,?_⟩;obtain⟨x,U,hi⟩:=List.any_eq_true.1 J;have hi:=aLG hi
  rcases I.sub x U with h1 | h1
  ·exact⟨x,h1,hi⟩
  ·rw[hi] at h1;exact absurd h1 hn
 ·rename_i J
  unfold Qhl;split
  ·rename_i hb
   obtain⟨x,U,hi⟩:=List.any_eq_true.1 hb;exact absurd (List.any_eq_true.2 ⟨x,(List.mem_filter.1 U).1,hi⟩) J
  ·split
   ·exact .inr (.inl rfl)
   ·exact .inl rfl
theorem QCe {c:List TCoin} {t:TX} {id h:Int} (I:(QaB c t id h).2=0):(QaB c t id h).1=QfS (offC c t.2.2.1) (Qbj id h false 0 t.2.2.2)/\(offC c t.2.2.1).length+t.2.2.2.length<=40/\∀x,x ∈ c->x.1.1 ≠ id:=by
 unfold QaB at I ⊢;by_cases U:(c.any fun x=>decide (x.1.1=id))=true
 ·rw[if_pos U] at I;cases I
 ·rw[if_neg U] at I ⊢
  have J:∀x,x ∈ c->x.1.1 ≠ id:=fun x hx he=>U (List.any_eq_true.2 ⟨x,hx,aLE he⟩)
  unfold Qhl at I ⊢;by_cases hb:((offC c t.2.2.1).any fun x=>decide (x.1.1=id))=true
  ·rw[if_pos hb] at I;cases I
  ·rw[if_neg hb] at I ⊢
   by_cases hc:40<(offC c t.2.2.1).length+t.2.2.2.length
   ·rw[if_pos hc] at I;cases I
   ·rw[if_neg hc];exact⟨rfl,by omega,J⟩
theorem QCM {l:TL} {s:TState} (hl:mLF l=0) (hs:mSt s=0) {done:List Int} {S:TState} (I:Inv l s done S) {id:Int} (hi:(mTI l id).2=0) (h0:(QaB S.2.2.1 (mTI l id).1 id (ZD s)).2=0) :
  Inv l s (done++[id]) (S.1,(S.2.1,((QaB S.2.2.1 (mTI l id).1 id (ZD s)).1,(Jc S.2.2.2 (mTI l id).1 id).1))):=by
 obtain⟨e1,e2,e3⟩:=QCe h0;have ht:=ZS (Qdj hi)
 have hid:=Qwq (JA hl) hi
 have hh:=Qkd (Qhv hs)
 have hR:=Qj0 I.c
 have J:=Qlt (Qbj id (ZD s) false 0 (mTI l id).1.2.2.2) (offC S.2.2.1 (mTI l id).1.2.2.1)
 have hlen:(QfS (offC S.2.2.1 (mTI l id).1.2.2.1) (Qbj id (ZD s) false 0 (mTI l id).1.2.2.2)).length<=40:=by
  rw[J.length_eq,aLi,QpW];exact e2
 have hlo:=ht.lo
 have U:∀x,x ∈ QfS (offC S.2.2.1 (mTI l id).1.2.2.1) (Qbj id (ZD s) false 0 (mTI l id).1.2.2.2)↔x ∈ offC S.2.2.1 (mTI l id).1.2.2.1\/x ∈ Qbj id (ZD s) false 0 (mTI l id).1.2.2.2:=fun x=>by rw[J.mem_iff,List.mem_append]
 rw[e1];refine⟨?_,Qz4 I.m _ _,fun x hx=>?_,fun x hx hno=>?_,fun hp=>?_⟩
 ·refine QCf hlen (Qlu _ 0 _ (Qiv hR _) fun y hy h1=>absurd h1 (e3 y (List.mem_filter.1 hy).1)) fun x hx=>?_
  rcases (U x).1 hx with h1 | h1
  ·exact QA4 I.c x (List.mem_filter.1 h1).1
  ·obtain⟨n1,n2,n3,n4,n5⟩:=QpS h1
   refine⟨Qb7.2 ⟨by rw[n1];exact Qq.1 hid,by omega,by omega⟩,by rw[n5];exact hh,(QBA ht _ n4).1⟩
 ·rcases (U x).1 hx with h1 | h1
  ·rcases I.sub x (List.mem_filter.1 h1).1 with h2 | h2
   ·exact .inl h2
   ·exact .inr (List.mem_append_left _ h2)
  ·right
   rw[(QpS h1).1];exact List.mem_append_right _ (aLs.2 rfl)
 ·refine (U x).2 (.inl (List.mem_filter.2 ⟨I.sup x hx fun i hi=>hno i (List.mem_append_left _ hi),?_⟩))
  have:=hno id (List.mem_append_right _ (aLs.2 rfl))
  rw[aLD this];rfl
 ·have h1:(mTI l id).1.1=0:=hp id (List.mem_append_right _ (aLs.2 rfl))
  have hM:=I.pay fun i hi=>hp i (List.mem_append_left _ hi)
  show (Jc S.2.2.2 (mTI l id).1 id).1=_
  unfold Jc;rw[if_neg (fun h=>by rw[h1] at h;exact absurd h.1 (by decide)),if_neg (by rw[h1];decide)]
  show mOff S.2.2.2 (mTI l id).1=_
  unfold mOff;rw[hM,List.filter_filter];congr 1
  funext y
  rw[List.any_append,h1];simp[Bool.and_comm]
end GL
end Go.Dx
set_option maxHeartbeats 2000000
namespace Go.Dx
namespace GL
theorem QjY {l:TL} {s:TState}:∀(p:List Int) (acc:List TX),(mTxs l s acc p).2=0->∀i (hi:i<p.length),(mOne l s (acc++QJ l (p.take i)) p[i]).2=0
 | [],_,_,i,hi=>absurd hi (by simp)
 | x::r,acc,h,i,hi=>by
  unfold mTxs at h;by_cases I:(mOne l s acc x).2=0
  ·rw[if_pos I] at h
   cases i with
   | zero=>unfold QJ;simpa using I
   | succ j=>
    have:=QjY r _ h j (by simpa using hi)
    have e:acc++QJ l ((x::r).take (j+1))=acc++[(mTI l x).1]++QJ l (r.take j):=by unfold QJ;simp
    rw[e];exact this
  ·rw[if_neg I] at h;exact absurd h I
theorem QBw {α:Type} (v:α->Int) (M:Int) (I:0<=M/\M<=100000000):∀(l:List α) (a:Int) (n:Nat),(∀x,x ∈ l->0<=v x/\v x<=M)->0<=a->a<=M * n->n+l.length<=1000->0<=l.foldl (fun n x=>IntKind.wrap .i64 (n+v x)) a/\l.foldl (fun n x=>IntKind.wrap .i64 (n+v x)) a<=M * ((n+l.length:Nat):Int)
 | [],a,n,_,J,h1,_=>⟨J,by simpa using h1⟩
 | x::r,a,n,hv,J,h1,hn=>by
  have hx:=hv x aLm
  simp only[aLh] at hn;have hb:M * (n:Int)<=100000000 * 1000:=by
   have h2:(n:Int)<=1000:=by omega
   calc M * (n:Int)<=100000000 * (n:Int):=Int.mul_le_mul_of_nonneg_right I.2 (by omega)
    _<=100000000 * 1000:=by omega
  have hw:IntKind.wrap .i64 (a+v x)=a+v x:=Qe (by omega) (by omega)
  rw[List.foldl_cons,hw];have U:a+v x<=M * ((n+1:Nat):Int):=by
   have:M * ((n+1:Nat):Int)=M * (n:Int)+M:=by rw[Int.natCast_add,Int.mul_add];simp
   omega
  have:=QBw v M I r (a+v x) (n+1) (fun y hy=>hv y (aLp _ hy)) (by omega) U (by omega)
  rw[aLh];rw[show n+(r.length+1)=n+1+r.length by omega]
  exact this
theorem sum0 {α:Type} (v:α->Int) (M:Int) (I:0<=M/\M<=100000000) (l:List α) (hv:∀x,x ∈ l->0<=v x/\v x<=M) (hn:l.length<=1000):0<=l.foldl (fun n x=>IntKind.wrap .i64 (n+v x)) 0/\l.foldl (fun n x=>IntKind.wrap .i64 (n+v x)) 0<=M * (l.length:Int):=by
 have:=QBw v M I l 0 0 hv (by omega) (by simp) (by omega)
 rw[Nat.zero_add] at this;exact this
theorem QEH {l:TL} {c:List TCoin} (hc:ZG c=0) {t:TX} (ht:okT t) {h:Int} (I:(mChk l c t h).2=0):0<=(mChk l c t h).1/\(mChk l c t h).1<=40000000:=by
 have J:=Qdy hc
 have hspl:(mSp c t).length<=c.length:=List.length_filter_le _ c
 have hlo:=ht.lo
 have s1:=sum0 (fun x:TCoin=>x.2.1.1) 1000000 (by omega) (mSp c t) (fun x U=>by have:=(J.2 x (Qrk U)).val;omega) (by omega)
 have s2:=sum0 (fun x:TOut=>x.1) 1000000 (by omega) t.2.2.2 (fun x U=>by have:=(ht.out x U).1;omega) (by omega)
 have e1:mSum (mSp c t)=(mSp c t).foldl (fun n x=>IntKind.wrap .i64 (n+x.2.1.1)) 0:=rfl
 have e2:Qgg t.2.2.2=t.2.2.2.foldl (fun n x=>IntKind.wrap .i64 (n+x.1)) 0:=rfl
 rw[<-e1] at s1;rw[<-e2] at s2;have hw:IntKind.wrap .i64 (mSum (mSp c t) - Qgg t.2.2.2)=mSum (mSp c t) - Qgg t.2.2.2:=Qe (by omega) (by omega)
 unfold mChk at I ⊢;by_cases h1:(Qo t).length<=300
 ·rw[if_pos h1] at I ⊢
  by_cases h2:mId l (Qo t)=0
  ·rw[if_pos h2] at I;cases I
  ·rw[if_neg h2] at I ⊢
   unfold Qhw Qre at I ⊢;by_cases h3:(mSp c t).length=t.2.2.1.length
   ·rw[if_pos h3] at I ⊢
    by_cases h4:code (fun _=>mC1 l (mId l (Qo t)) h) (mSp c t)=0
    ·rw[if_pos h4] at I ⊢
     by_cases h5:t.1=2/\(t.2.1,mId l (Qo t)) ∉ l.2
     ·rw[if_pos h5] at I;cases I
     ·rw[if_neg h5] at I ⊢
      rw[hw] at I ⊢;by_cases h6:mSum (mSp c t) - Qgg t.2.2.2<0
      ·rw[if_pos h6] at I;cases I
      ·rw[if_neg h6]
       show 0<=mSum (mSp c t) - Qgg t.2.2.2/\mSum (mSp c t) - Qgg t.2.2.2<=40000000
       omega
    ·rw[if_neg h4] at I;exact absurd I h4
   ·rw[if_neg h3] at I;cases I
 ·rw[if_neg h1] at I;cases I
theorem QBs {h:Int} (h1:1<=h/\h<=40):Y (Qd6 h) (fun v=>62<=v/\v<=1000):=by
 have I:Int.tdiv (h - 1) 8=(h - 1) / 8:=Int.tdiv_eq_ediv_of_nonneg (by omega)
 unfold Qd6;rw[Qe (n:=h - 1) (by omega) (by omega),I,Qe (n:=(h - 1) / 8) (by omega) (by omega)]
 refine Y.grd (aLE (by omega)) (Y.some ?_)
 have:(h - 1) / 8=0\/(h - 1) / 8=1\/(h - 1) / 8=2\/(h - 1) / 8=3\/(h - 1) / 8=4:=by omega
 rcases this with e | e | e | e | e<;>rw[e]<;>decide
abbrev TUn:=Int×List (List TCoin)×List TMb
theorem QBi (l:TL) (s:TState) (a:List TX) (t:TX):mFee l s (a++[t])=IntKind.wrap .i64 (mFee l s a+(mChk l s.2.2.1 t (ZD s)).1):=by
 unfold mFee;rw[List.foldl_append];rfl
theorem QDd {l l':TL} (hl:mLF l=0) (hg:Longer l l') {s:TState} (hs:mSt s=0) {p:List Int} (hp:(mTxs l s [] p).2=0) (hn:p.length<=8) {R:Type} (f:Int×Int×TState×TUn->Option ((Int×Int×TState×TUn)⊕((Int×TState×TUn)⊕(Int×R)))) (z:R)
  (hf:∀(I:Int) (i:Nat) (S:TState) (u:TUn) (hi:i<p.length),u.2.1.length<=100->f (I,(i:Int),S,u)=(J9 l' S p[i] (ZD s)).bind fun y=>bif !decide (y.2.2.1=0) then some (.inr (.inr (y.2.2.1,z))) else some (.inl (IntKind.wrap .i64 (I+y.1),((i+1:Nat):Int),y.2.2.2,(u.1,(u.2.1++[y.2.1],u.2.2)))))
  (he:∀(I:Int) (S:TState) (u:TUn),f (I,(p.length:Int),S,u)=some (.inr (.inl (I,S,u))))
  (S0:TState) (I0:Inv l s [] S0) (u0:TUn) (hu:u0.2.1=[]) :
  Y (Qd f (0,0,S0,u0)) (fun r=>match r with | .inl a=>Inv l s p a.2.1/\a.1=mFee l s (QJ l p) | .inr a=>a.2=z/\(a.1=2\/(a.1=7/\∃x,x ∈ s.2.2.1/\x.1.1 ∈ p))):=by
 refine Y.loop (fun n (st:Int×Int×TState×TUn)=>∃i:Nat,st.2.1=(i:Int)/\i+n=p.length/\Inv l s (p.take i) st.2.2.1/\st.1=mFee l s (QJ l (p.take i))/\st.2.2.2.2.1.length=i) (fun n st hi=>?_) p.length (0,0,S0,u0) ⟨0,rfl,by omega,by simpa using I0,rfl,by rw[hu];rfl⟩
 obtain⟨I,k,S,u⟩:=st;obtain⟨i,i1,i2,i3,i4,i5⟩:=hi;simp only at i1 i3 i4 i5;subst i1;by_cases hi:i<p.length
 ·have h1:=QjY p [] hp i hi
  rw[aLx] at h1;have J:=(QcP h1).1
  have hnd:=QwS J (QcP h1).2.2.1
  rw[hf I i S u hi (by omega),QDQ hl hg hs i3 h1,aLc]
  by_cases U:(QaB S.2.2.1 (mTI l p[i]).1 p[i] (ZD s)).2=0
  ·rw[if_pos U]
   refine Y.some ⟨n - 1,by omega,i+1,rfl,by omega,?_,?_,?_⟩
   ·rw[List.take_succ_eq_append_getElem hi]
    exact QCM hl hs i3 J U
   ·rw[List.take_succ_eq_append_getElem hi,QCS,QBi,<-i4]
   ·show (u.2.1++[_]).length=i+1
    rw[aLi,i5];rfl
  ·rw[if_neg U]
   refine Y.bif (fun _=>Y.some ⟨rfl,?_⟩) (fun h=>absurd (by simpa using h) U)
   rcases Qz9 i3 (t:=(mTI l p[i]).1) (h:=ZD s) hnd with h2 | h2 | ⟨h2,x,hx,hxi⟩
   ·exact absurd h2 U
   ·exact .inl h2
   ·exact .inr ⟨h2,x,hx,by rw[hxi];exact aLl hi⟩
 ·obtain rfl:i=p.length:=by omega
  rw[he];rw[List.take_length] at i3 i4;exact Y.some ⟨i3,i4⟩
end GL
end Go.Dx
set_option maxHeartbeats 2000000
namespace Go.Dx
namespace GL
theorem Qxy {t:TX} (ht:okT t) {b:TBk} (hb:okB7 b) (h:Qo t=QaK b):False:=by
 have h1:=QsS ht
 rw[h,QsQ hb] at h1;have I:=congrArg (fun l:List (List UInt8)=>l.headD []) h1
 have hk:t.1=0\/t.1=1\/t.1=2:=by have:=ht.kind;omega
 rcases hk with e | e | e
 all_goals
  unfold wBk wTx at I;rw[e] at I;simp[kw] at I
theorem QBP {l':TL} (h:mLF l'=0) {id:Int} (hid:mIn id 1 (l'.1.length:Int)=true) {b:TBk} (hb:mB7 b=0) (ht:List.getD l'.1 (Int.toNat (IntKind.wrap .i64 (id - 1))) []=QaK b):Qag l' id=some (b,0):=by
 have ho:=JA h
 have hlen:(QaK b).length<=300:=by rw[<-ht];exact QoN ho _
 unfold Qag Jm QbJ;rw[Zk,aLc,aLc,hid];simp only[Bool.not_true,aLC];rw[Qwu ho hid,aLB,aLc];simp only[decide_true,Bool.not_true,aLC];rw[ht,QyV hb hlen,aLc];rfl
theorem QCy {m:Int} (hm:mIn m 1 999=true):Zb (([m],(1,0)):TRu)=0:=by
 unfold Zb;simp[mIn,QhX];exact Qq.1 hm
theorem QBp (s:TState) (hs:s.2.2.1.length<BIG) (l:List Int) (hl:l.length<BIG):QeT s l=some (s.2.2.1.any fun x=>decide (x.1.1 ∈ l)):=by
 unfold QeT;refine QiF s.2.2.1 _ _ (fun i h=>?_) (by simp only[dge,aLC])
 simp only[dlt h,Qf _ i h,Qc _ i _ h,aLB,QDR l hl,aLc,wsucc h hs];cases decide (s.2.2.1[i].1.1 ∈ l)<;>rfl
theorem Qq6 {l:TL} {s:TState} (hl:mLF l=0) (hs:mSt s=0) (h40:s.2.1<40) {p:List Int} (hp:(mTxs l s [] p).2=0) (hn:p.length<=6) {m:Int} (hm:mIn m 1 999=true):mB7 (s.1,(s.2.1+1,(m,p)))=0:=by
 have I:=Qhv hs
 have h1:=I.t
 have h2:=I.h
 have hz:decide (s.1=0)=decide (s.2.1=0):=by
  unfold mSt at hs;rw[Qq.2 h1,Qq.2 h2,Bool.and_self,if_pos rfl] at hs;by_cases h:decide (s.1=0)=decide (s.2.1=0)
  ·exact h
  ·rw[if_neg h] at hs;cases hs
 have U:decide (s.1=0)=decide (s.2.1+1=1):=by rw[hz];exact decide_eq_decide.2 ⟨fun h=>by omega,fun h=>by omega⟩
 unfold mB7;show (if mIn s.1 0 60&&(mIn (s.2.1+1) 1 40&&mIn m 1 999) then (if decide (s.1=0)=decide (s.2.1+1=1) then (if (6:Int)<(p.length:Int) then 2 else code (mTx7 p) p) else 1) else 3)=0
 rw[Qq.2 h1,Qq.2 (show 1<=s.2.1+1/\s.2.1+1<=40 by omega),hm,Bool.and_self,Bool.and_self,if_pos rfl,if_pos U,if_neg (by omega)]
 refine Qmv fun i a ha=>?_
 obtain⟨hi,rfl⟩:=aLy.1 ha;have h3:=QjY p [] hp i hi
 rw[aLx] at h3;have J:=(QcP h3).1
 unfold mTx7;rw[Qwq (JA hl) J,if_pos rfl,if_neg (QwS J (QcP h3).2.2.1)]
theorem QyI {l l':TL} (hl:mLF l=0) (hg:Longer l l') {s:TState} (hs:mSt s=0) (h40:s.2.1<40) {p:List Int} (hp:(mTxs l s [] p).2=0) (hn:p.length<=6) {m:Int} (hm:mIn m 1 999=true) {id:Int} (hid:mIn id 1 (l'.1.length:Int)=true) (htx:List.getD l'.1 (Int.toNat (IntKind.wrap .i64 (id - 1))) []=QaK (s.1,(s.2.1+1,(m,p)))) :
  Y (Qbh l' s id) (fun r=>(r.1=0/\r.2.1=mFee l s (QJ l p))\/r.1=2\/r.1=8\/(r.1=7/\∃x,x ∈ s.2.2.1/\x.1.1 ∈ id::p)):=by
 have hB:BIG=4611686018427387904:=rfl
 have hL:LIM=1073741824:=rfl
 have J:=Qhv hs
 have hlo:=JA hl
 have U:=JA hg.f
 have hcl:=(Qdy J.c).1
 have hmb:=Qmy J.m
 have hb:=Qq6 hl hs h40 hp hn hm
 have hbo:=Qty hb
 have hsh:=J.h
 have hbs:bS s:=⟨by omega,fun x hx=>by have:=QdL J.c x hx;omega,by have:=hmb.2;omega⟩
 have ew:IntKind.wrap .i64 (s.2.1+1)=s.2.1+1:=Qe (by omega) (by omega)
 have eh:ZD s=s.2.1+1:=by unfold ZD;rw[ew];omega
 have hid60:mIn id 1 60=true:=by
  rw[Qq] at hid ⊢;have:=U.n1;omega
 have hnot:id ∉ p:=fun hm=>by
  obtain⟨i,hi,he⟩:=List.mem_iff_getElem.1 hm;have h3:=QjY p [] hp i hi
  rw[aLx,he] at h3;have hti:=(QcP h3).1
  have h4:=QqF hlo hg hti
  have h5:(mTI l' id).2=0:=by rw[h4];exact hti
  unfold mTI at h5;rw[hid,if_pos rfl,htx] at h5;cases hr:rdTx (QaK (s.1,(s.2.1+1,(m,p)))) with
  | none=>rw[hr] at h5;cases h5
  | some t=>
   obtain⟨r1,r2⟩:=Qld hr;exact Qxy (ZS r1) hbo r2
 unfold Qbh;refine Y.eqb (QbG l' (by have:=U.n1;omega) (by have:=U.n2;omega)) (Y.bif (fun h=>by rw[hg.f] at h;simp at h) (fun _=>?_))
 refine Y.eqb (QjF s hbs) (Y.bif (fun h=>by rw[hs] at h;simp at h) (fun _=>?_))
 refine Y.bind (Q:=fun r=>(r.1=0/\r.2.1=mFee l s (QJ l p))\/r.1=2\/r.1=8\/(r.1=7/\∃x,x ∈ s.2.2.1/\x.1.1 ∈ id::p)) ?_ (fun y hy=>Y.some hy)
 unfold Qcw;refine Y.eqb (QBP hg.f hid hb htx) (Y.bif (fun h=>by simp at h) (fun _=>?_))
 refine Y.bind (Q:=fun j=>j=false) (Y.bif (fun h=>by simp at h) (fun _=>Y.some (by show (!decide (s.2.1+1=IntKind.wrap .i64 (s.2.1+1)))=false;rw[ew];simp))) (fun j hj=>Y.bif (fun h=>by rw[hj] at h;cases h) (fun _=>?_))
 have hown:Qd5 s=some s:=by
  unfold Qd5;rw[Qed _ (by omega) (QdL J.c),aLc,QlA _ (by have:=hmb.2;omega)];rfl
 refine Y.eqb hown (Y.eqb (QlA _ (by have:=hmb.2;omega)) ?_)
 have I0:Inv l s [] s:=⟨J.c,hmb,fun x hx=>.inl hx,fun x hx _=>hx,fun _=>(List.filter_eq_self.2 fun _ _=>rfl).symm⟩
 refine Y.bind (QDd hl hg hs hp (by omega) _ (0,((0,([],[])),(0,(0,([],[]))))) (fun fee i S u hi hu=>?_) (fun fee S u=>?_) s I0 (id,([],s.2.2.2)) rfl) (fun j hj=>?_)
 ·have hl1:∀a:List TCoin,decide (List.length u.2.1+List.length [a]<=LIM)=true:=fun a=>ZC u.2.1 a (by omega)
  have hi':decide ((i:Int)<(p.length:Int))=true:=aLE (by omega)
  simp only[hi',Qf _ i hi,Qc _ i _ hi,aLB,eh,wsucc hi (by omega),hl1]
  rfl
 ·simp only[dge,aLC]
 ·cases j with
  | inr a=>
   obtain⟨h1,h2⟩:=hj;refine Y.some ?_;rcases h2 with h2 | ⟨h2,x,hx,hxp⟩
   ·exact .inr (.inl h2)
   ·exact .inr (.inr (.inr ⟨h2,x,hx,aLp _ hxp⟩))
  | inl a=>
   obtain⟨I,hfee⟩:=hj;rw[Sum.elim_inl];refine Y.bind (QBs (show 1<=s.2.1+1/\s.2.1+1<=40 by omega)) fun v hv=>?_
   have hfb:=sum0 (fun t:TX=>(mChk l s.2.2.1 t (ZD s)).1) 40000000 (by omega) (QJ l p) (fun t ht=>by
    unfold QJ at ht;obtain⟨i,hi,rfl⟩:=List.mem_map.1 ht;obtain⟨k,hk,rfl⟩:=List.mem_iff_getElem.1 hi;have h3:=QjY p [] hp k hk
    rw[aLx] at h3;obtain⟨q1,q2,_,_⟩:=QcP h3;exact QEH J.c (ZS (Qdj q1)) q2) (by rw[QqZ];omega)
   rw[QqZ] at hfb;have hfb:0<=a.1/\a.1<=40000000 * (p.length:Int):=by rw[hfee];exact hfb
   rw[Qe (n:=v+a.1) (by omega) (by omega)]
   refine Y.bif (fun _=>Y.some (.inr (.inr (.inl rfl)))) (fun hmax=>?_)
   have hmax:=aLH hmax
   have hout:∀o,o ∈ ([(v+a.1,([m],(1,0)))]:List TOut)->mOut o=0/\o.2.1.length<=1000000:=fun o ho=>by
    rw[aLs.1 ho];refine⟨?_,by simp⟩
    unfold mOut;rw[Qq.2 (show 1<=v+a.1/\v+a.1<=1000000 by omega),if_pos rfl]
    exact QCy hm
   refine Y.eqb (QrD (Qj0 I.c) (by have:=(Qdy I.c).1;omega) (QdL I.c) hid60 (by simp) hout (Qq.2 (show 0<=s.2.1+1/\s.2.1+1<=999 by omega)) true) ?_
   refine Y.bif (fun h=>Y.some ?_) (fun _=>Y.some (.inl ⟨rfl,hfee⟩))
   have h:(Qhl a.2.1.2.2.1 id [(v+a.1,([m],(1,0)))] (s.2.1+1) true).2 ≠ 0:=by simpa using h
   show ((Qhl a.2.1.2.2.1 id [(v+a.1,([m],(1,0)))] (s.2.1+1) true).2=0/\_)\/(Qhl a.2.1.2.2.1 id [(v+a.1,([m],(1,0)))] (s.2.1+1) true).2=2\/(Qhl a.2.1.2.2.1 id [(v+a.1,([m],(1,0)))] (s.2.1+1) true).2=8\/((Qhl a.2.1.2.2.1 id [(v+a.1,([m],(1,0)))] (s.2.1+1) true).2=7/\_)
   unfold Qhl at h ⊢;by_cases ha:(a.2.1.2.2.1.any fun x=>decide (x.1.1=id))=true
   ·rw[if_pos ha]
    obtain⟨x,hx,hxi⟩:=List.any_eq_true.1 ha;have hxi:=aLG hxi
    rcases I.sub x hx with h5 | h5
    ·exact .inr (.inr (.inr ⟨rfl,x,h5,by rw[hxi];exact aLm⟩))
    ·rw[hxi] at h5;exact absurd h5 hnot
   ·rw[if_neg ha] at h ⊢
    by_cases hc:40<a.2.1.2.2.1.length+([(v+a.1,([m],(1,0)))]:List TOut).length
    ·rw[if_pos hc];exact .inr (.inl rfl)
    ·rw[if_neg hc] at h;exact absurd rfl h
end GL
end Go.Dx
set_option maxHeartbeats 2000000
namespace Go.Dx
namespace GL
theorem QBb {x:List Int} (h:Qot x):Y (QaL x) (fun r=>okWd (r.1,r.2.1,r.2.2.1)):=by
 unfold QaL Qho;rw[aLc];refine Y.bind (QCj (QEw h) (by omega)) fun U I=>?_
 obtain⟨J,a2,a3,a4⟩:=I;exact Y.bind (QiC a4 (by omega) _ (by simp) (by simp)) fun y6 h6=>Y.some J
theorem QuL {l:TL} {s:TState}:∀(p:List Int) (acc:List TX) (k:Nat),(mTxs l s acc p).2=0->(mTxs l s acc (p.take k)).2=0
 | [],_,_,_=>by simp[mTxs]
 | x::r,acc,k,h=>by
  unfold mTxs at h;cases k with
  | zero=>rfl
  | succ k=>
   rw[List.take_succ_cons];unfold mTxs;by_cases I:(mOne l s acc x).2=0
   ·rw[if_pos I] at h ⊢;exact QuL r _ k h
   ·rw[if_neg I] at h;exact absurd h I
theorem Qy0 (x:List Int) (hb:QDC x):Qis x=some true:=by
 have hB:BIG=4611686018427387904:=rfl
 apply QEA;unfold Qis Qkc;rw[aLc];refine Y.bif (fun _=>Y.some rfl) (fun hc=>?_)
 have hc:=aLH hc
 refine Y.bind (QBb (QDL hb (by omega))) fun r hr=>?_
 obtain⟨l,s,pool,I⟩:=r;obtain⟨hl,hs,hp⟩:=hr;simp only at hl hs hp;refine Y.eqb (Qqw hl hs pool I) (Y.bif (fun h=>Y.eqb (Qki hl hs pool I) (Y.some (aLE rfl))) (fun h=>?_))
 have h0:(QiR l s pool I).1=0:=by simpa using h
 have hP:QaN l s pool=0:=by
  unfold QiR at h0;by_cases hq:QaN l s pool=0
  ·exact hq
  ·rw[if_neg hq] at h0;exact absurd h0 hq
 have hm:mIn I 1 999=true:=by
  unfold QiR at h0;rw[if_pos hP] at h0;cases hq:mIn I 1 999 with
  | true=>rfl
  | false=>rw[hq] at h0;simp at h0
 have h40:s.2.1<40:=by
  unfold QiR at h0;rw[if_pos hP,hm,if_pos rfl] at h0;by_cases hq:40<=s.2.1
  ·rw[if_pos hq] at h0;cases h0
  ·omega
 have ho:=QoA hP
 have hn:=ho.hn
 have hso:=Qhv ho.hs
 have hsh:=hso.h
 have ew:IntKind.wrap .i64 (s.2.1+1)=s.2.1+1:=Qe (by omega) (by omega)
 have hv:QiR l s pool I=(0,(s.1,(s.2.1+1,(I,pool.take 6)))):=by
  unfold QiR;rw[if_pos hP,hm,if_pos rfl,if_neg (by omega),ew]
 rw[hv];have hp6:(mTxs l s [] (pool.take 6)).2=0:=QuL pool [] 6 ho.hp
 have hn6:(pool.take 6).length<=6:=by rw[aLn];omega
 have hbk:=Qq6 ho.hl ho.hs h40 hp6 hn6 hm
 have hbo:=Qty hbk
 refine Y.bind (Q:=fun (j:Unit⊕Bool)=>match j with | .inl _=>True | .inr _=>False) ?_ (fun j hj=>?_)
 ·refine Y.loop (fun n (st:Int)=>0<=st/\st+(n:Int)=(pool.length:Int)) (fun n st hi=>?_) pool.length 0 ⟨Int.le_refl _,by omega⟩
  obtain⟨i1,i2⟩:=hi;refine Y.bif (fun hc=>?_) (fun hc=>Y.some trivial)
  have hc:st<(pool.length:Int):=aLG hc
  obtain⟨i,rfl⟩:=aLA i1;have hi:i<pool.length:=by omega
  have h1:=QjY pool [] ho.hp i hi
  rw[aLx] at h1;obtain⟨q1,q2,q3,q4⟩:=QcP h1;refine Y.bind (Q:=fun (j:Unit⊕Bool)=>match j with | .inl _=>True | .inr _=>False) ?_ (fun j hj=>?_)
  ·refine Y.loop (fun n (st:Int)=>0<=st/\st+(n:Int)=(i:Int)) (fun n st hi2=>?_) i 0 ⟨Int.le_refl _,by omega⟩
   obtain⟨k1,k2⟩:=hi2;refine Y.bif (fun hc=>?_) (fun hc=>Y.some trivial)
   have hc:=aLG hc
   obtain⟨k,rfl⟩:=aLA k1;have hk:k<i:=by omega
   have hkp:k<pool.length:=by omega
   rw[Qc pool k _ hkp,Qc pool i _ hi];have hmk:pool[k] ∈ pool:=aLl hkp
   refine Y.grd (Qf pool k hkp) (Y.eqb (Qpv ho.hl _) (Y.grd (Qf pool i hi) (Y.eqb (Qpv ho.hl _) (Y.eqb (QsG (Qdj (ho.ht _ hmk)) (Qdj q1)) ?_))));have hcl:Ye (mTI l pool[k]).1 (mTI l pool[i]).1=false:=by
    rw[List.any_eq_false] at q3;have:=q3 (mTI l pool[k]).1 (List.mem_map.2 ⟨pool[k],by rw[List.mem_take_iff_getElem];exact⟨k,by omega,rfl⟩,rfl⟩)
    simpa using this
   refine Y.bif (fun h=>by rw[hcl] at h;cases h) (fun _=>Y.some ⟨n - 1,by omega,?_⟩)
   rw[Qe (by omega) (by omega)];omega
  ·cases j with
   | inr b=>exact hj.elim
   | inl _=>
    rw[Sum.elim_inl];refine Y.some ⟨n - 1,by omega,?_⟩
    rw[Qe (by omega) (by omega)];omega
 ·cases j with
  | inr b=>exact hj.elim
  | inl _=>
   rw[Sum.elim_inl];have hbt:Qc2 (s.1,(s.2.1+1,(I,pool.take 6)))=some (0,QaK (s.1,(s.2.1+1,(I,pool.take 6)))):=by
    unfold Qc2;rw[QjJ _ (by show (pool.take 6).length<BIG;omega),aLc,hbk,Qkf hbo];rfl
   refine Y.eqb hbt (Y.eqb (QqD ho.hl _) (Y.bif (fun h=>by simp at h) (fun _=>?_)))
   refine Y.bif (fun h=>?_) (fun h=>?_)
   ·rcases QBn l (QaK (s.1,(s.2.1+1,(I,pool.take 6)))) with h1 | h1
    ·exfalso
     have:(Qef l (QaK (s.1,(s.2.1+1,(I,pool.take 6))))).1 ≠ 0:=by simpa using h
     exact this h1
    ·exact Y.some (aLE h1)
   ·have hn0:(Qef l (QaK (s.1,(s.2.1+1,(I,pool.take 6))))).1=0:=by simpa using h
    have N:=QAs ho.hl hn0
    have hid:mIn (Qef l (QaK (s.1,(s.2.1+1,(I,pool.take 6))))).2.1 1 ((Qef l (QaK (s.1,(s.2.1+1,(I,pool.take 6))))).2.2.1.length:Int)=true:=Qq.2 ⟨N.lo,N.hi⟩
    generalize Qef l (QaK (s.1,(s.2.1+1,(I,pool.take 6))))=nt at N hid;refine Y.bind (QyI ho.hl N.lg ho.hs h40 hp6 hn6 hm hid N.tx) fun r hr=>?_
    refine Y.eqb (QvI hl hs pool) ?_;have hF:Qwv l s pool=(0,mFee l s (QJ l pool)):=by unfold Qwv;rw[if_pos hP]
    rw[hF];have hfee:r.1=0->pool.length<=6->r.2.1=mFee l s (QJ l pool):=fun h1 h2=>by
     rcases hr with h3 | h3 | h3 | ⟨h3,_⟩
     ·rw[h3.2,List.take_of_length_le h2]
     ·rw[h1] at h3;cases h3
     ·rw[h1] at h3;cases h3
     ·rw[h1] at h3;cases h3
    have J:=Qki hl hs pool I
    rw[hv] at J;have hlen:decide ((((pool.take 6).length:Int):Int)=((pool.take 6).length:Int))=true:=aLE rfl
    have U:decide ((s.2.1+1:Int)=IntKind.wrap .i64 (s.2.1+1))=true:=by rw[ew];exact aLE rfl
    refine Y.bind (Q:=fun b=>b=true) ?_ (fun j hj=>Y.some hj)
    refine Y.bif (fun c1=>Y.grd (aLE rfl) (Y.bif (fun d=>Y.eqb J (Y.grd hlen (Y.some U))) (fun d=>Y.bif (fun d6=>Y.eqb J (Y.grd hlen (Y.some U))) (fun d6=>Y.grd (aLE (hfee (by simpa using d) (by have d7:¬(6:Int)<(pool.length:Int):=aLH d6;omega))) (Y.eqb J (Y.grd hlen (Y.some U))))))) (fun c1=>Y.bif (fun c2=>Y.grd (aLE rfl) (Y.bif (fun d=>Y.eqb J (Y.grd hlen (Y.some U))) (fun d=>Y.bif (fun d6=>Y.eqb J (Y.grd hlen (Y.some U))) (fun d6=>Y.grd (aLE (hfee (by simpa using d) (by have d7:¬(6:Int)<(pool.length:Int):=aLH d6;omega))) (Y.eqb J (Y.grd hlen (Y.some U))))))) (fun c2=>Y.bif (fun c3=>Y.grd (aLE rfl) (Y.bif (fun d=>Y.eqb J (Y.grd hlen (Y.some U))) (fun d=>Y.bif (fun d6=>Y.eqb J (Y.grd hlen (Y.some U))) (fun d6=>Y.grd (aLE (hfee (by simpa using d) (by have d7:¬(6:Int)<(pool.length:Int):=aLH d6;omega))) (Y.eqb J (Y.grd hlen (Y.some U))))))) (fun c3=>?_)))
    have c1:=aLH c1
    have c2:=aLH c2
    have c3:=aLH c3
    rcases hr with h3 | h3 | h3 | ⟨h3,y,hy,hyp⟩
    ·exact absurd h3.1 c1
    ·exact absurd h3 c2
    ·exact absurd h3 c3
    ·refine Y.grd (aLE h3) (Y.grd (Yk _ _ (by simp) (by show pool.length<=1000000;omega)) ?_)
     refine Y.eqb (QBp s hs.c _ (by show (List.append [nt.2.1] pool).length<BIG;simp only[aLo,aLi,aLh,aLj];omega)) (Y.grd ?_ (Y.grd (aLE rfl) (Y.bif (fun d=>Y.eqb J (Y.grd hlen (Y.some U))) (fun d=>Y.bif (fun d6=>Y.eqb J (Y.grd hlen (Y.some U))) (fun d6=>Y.grd (aLE (hfee (by simpa using d) (by have d7:¬(6:Int)<(pool.length:Int):=aLH d6;omega))) (Y.eqb J (Y.grd hlen (Y.some U))))))))
     rw[List.any_eq_true];refine⟨y,hy,aLE ?_⟩;show y.1.1 ∈ [nt.2.1]++pool
     rcases List.mem_cons.1 hyp with h5 | h5
     ·rw[h5];simp
     ·exact List.mem_append_right _ (List.mem_of_mem_take h5)
end GL
end Go.Dx
