/- The plain law: no program in sight -/
import Derived.Test.YtdioofjjodddhaaGreatDoorPla
set_option linter.unusedVariables false
set_option linter.unusedSimpArgs false
set_option maxHeartbeats 2000000
namespace Go.Dx
namespace GL
theorem QtN:∀(n:Nat) (w:List UInt8),w.length=n->w ≠ []->(∀b,b ∈ w->48<=b.toNat/\b.toNat<=57)->(1<w.length->(List.getD w 0 0).toNat ≠ 48)->Lib.decDigits (dv w)=w:=by
 intro n;induction n with
 | zero=>intro w J hw;exact absurd (List.eq_nil_of_length_eq_zero J) hw
 | succ n ih=>
  intro w J hw hd h0;obtain⟨u,d,rfl⟩:∃u d,w=u++[d]:=⟨w.dropLast,w.getLast hw,(List.dropLast_concat_getLast hw).symm⟩;have hdd:=hd d (List.mem_append_right _ (aLs.2 rfl))
  have e1:UInt8.ofNat (48+(d.toNat - 48))=d:=by rw[show 48+(d.toNat - 48)=d.toNat by omega];exact UInt8.ofNat_toNat
  rw[Qlb];rw[aLi,List.length_singleton] at J h0;cases hu:u with
  | nil=>
   show Lib.decDigits (0 * 10+_)=_
   rw[Nat.zero_mul,Nat.zero_add,Lib.decDigits_one (by omega),e1];rfl
  | cons c r=>
   rw[<-hu];have U:u ≠ []:=by rw[hu];simp
   have hul:1<=u.length:=by rw[hu];simp
   have I:(List.getD u 0 0).toNat ≠ 48:=by
    have:=h0 (by omega)
    rw[hu] at this ⊢;exact this
   have hi:=ih u (by omega) U (fun b hb=>hd b (List.mem_append_left _ hb)) (fun _=>I)
   have hpos:dv u ≠ 0:=fun hz=>by
    rw[hz,Lib.decDigits_one (by omega)] at hi
    rw[<-hi] at I;exact I rfl
   rw[Lib.decDigits,dif_neg (by omega),show (dv u * 10+(d.toNat - 48)) / 10=dv u by omega,show (dv u * 10+(d.toNat - 48)) % 10=d.toNat - 48 by omega,hi,e1]
theorem Qt2 (w:List UInt8) (n:Nat) (hw:w.length<BIG) (hn:n<=7):Y (Qn w (n:Int)) (fun r=>r.2=true->∃m:Nat,r.1=(m:Int)/\Lib.itoa (m:Int)=w):=by
 unfold Qn;refine Y.bind (Q:=fun j=>j=false->w ≠ []/\w.length<=7/\(1<w.length->(List.getD w 0 0).toNat ≠ 48)) ?_ (fun j hj=>?_)
 ·refine Y.bif (fun _=>Y.some (fun h=>by cases h)) (fun h1=>Y.bif (fun _=>Y.some (fun h=>by cases h)) (fun U=>?_))
  have h1:=aLH h1
  have U:=aLH U
  have I:w ≠ []:=fun h=>by rw[h] at h1;simp at h1
  refine Y.bif (fun _=>Y.grd (ZC (by omega) (by omega)) (Y.some (fun h=>⟨I,by omega,fun _ he=>?_⟩))) (fun h3=>Y.some (fun _=>⟨I,by omega,fun h=>by have:=aLH h3;omega⟩))
  have h:=aLH h
  exact h (by show (((List.getD w 0 0).toNat:Nat):Int)=48;omega)
 ·refine Y.bif (fun _=>Y.some (fun h=>by cases h)) (fun h0=>?_)
  obtain⟨I,h7,h48⟩:=hj h0;refine Y.bind (Q:=fun (j:Int⊕(Int×Bool))=>match j with | .inl v=>∃m:Nat,v=(m:Int)/\Lib.itoa (m:Int)=w | .inr q=>q.2=false) ?_ (fun j hj=>by cases j with | inl v=>exact Y.some (fun _=>hj) | inr q=>exact Y.some (fun h=>by rw[show q.2=false from hj] at h;cases h))
  refine Y.loop (fun n s=>∃i:Nat,s.2=(i:Int)/\i<=w.length/\n=w.length - i/\s.1=((dv (w.take i):Nat):Int)/\∀b,b ∈ w.take i->48<=b.toNat/\b.toNat<=57) (fun n s hI=>?_) w.length (0,0) ⟨0,rfl,by omega,by omega,rfl,fun b hb=>by simp at hb⟩
  obtain⟨i,hi,hle,hn,hv,hd⟩:=hI;obtain⟨v,i'⟩:=s;have hi:i'=(i:Int):=hi
  subst hi;have hv:v=((dv (w.take i):Nat):Int):=hv
  subst hv;refine Y.bif (fun h1=>?_) (fun h1=>Y.some ?_)
  ·have J:i<w.length:=by simpa using h1
   have hb:=Qb w i J
   have hg:=Qa w i 0 J
   refine Y.bind (Q:=fun j=>j=false->48<=w[i].toNat/\w[i].toNat<=57) (Y.grd hb (Y.bif (fun _=>Y.some (fun h=>by cases h)) (fun U=>Y.grd hb (Y.some (fun h3=>?_))))) (fun j hj=>Y.bif (fun _=>Y.some rfl) (fun h4=>Y.grd hb (Y.some ?_)))
   ·rw[hg] at U h3
    have U:=aLH U
    have h3:=aLH h3
    omega
   ·have hdi:=hj h4
    have hlt10:dv (w.take i)<10 ^ i:=by
     have:=Qt5 (w.take i) fun b hb=>(hd b hb).2
     rwa [aLn,Nat.min_eq_left (by omega)] at this
    have hp:10 ^ i<=10 ^ 6:=Nat.pow_le_pow_right (by omega) (by omega)
    have hp2:(10:Nat) ^ 6=1000000:=rfl
    have htk:w.take (i+1)=w.take i++[w[i]]:=by rw[List.take_succ_eq_append_getElem J]
    refine⟨w.length - (i+1),by omega,i+1,wsucc J hw,by omega,rfl,?_,fun b hb=>?_⟩
    ·rw[htk,Qlb]
     show IntKind.wrap .i64 (IntKind.wrap .i64 (((dv (w.take i):Nat):Int) * 10)+IntKind.wrap .i64 (IntKind.wrap .u8 (((List.getD w (Int.toNat (i:Int)) 0).toNat:Int) - 48)))=_
     rw[hg];have e1:IntKind.wrap .u8 (((w[i].toNat:Nat):Int) - 48)=((w[i].toNat - 48:Nat):Int):=by
      rw[show ((w[i].toNat:Nat):Int) - 48=((w[i].toNat - 48:Nat):Int) by omega]
      rw[show IntKind.wrap .u8 ((w[i].toNat - 48:Nat):Int)=((w[i].toNat - 48:Nat):Int) % 256 from by simp[IntKind.wrap,IntKind.bits,IntKind.signed]]
      omega
     rw[e1,QY (n:=((dv (w.take i):Nat):Int) * 10) (by omega) (by omega),QY (n:=((w[i].toNat - 48:Nat):Int)) (by omega) (by omega),QY (by omega) (by omega)]
     omega
    ·rw[htk] at hb
     rcases List.mem_append.1 hb with hb | hb
     ·exact hd b hb
     ·rw[aLs.1 hb];exact hdi
  ·have hge:¬i<w.length:=by simpa using h1
   obtain rfl:i=w.length:=by omega
   rw[List.take_length] at hd ⊢;exact⟨_,rfl,by rw[YN,QtN _ w rfl I hd h48]⟩
theorem QrD (b:UInt8) (c:UInt8):∀{ws:List (List UInt8)},ws ≠ []->Lib.join (glue [b] ws) [c]=b::Lib.join ws [c]
 | [w],_=>rfl
 | w::v::r,_=>by
  show Lib.join (([b]++w)::v::r) [c]=_
  rw[Qau,Qau];rfl
theorem Qgu (c:UInt8):∀s:List UInt8,Lib.join (cuts c s) [c]=s
 | []=>rfl
 | b::l=>by
  rw[Qar];split
  ·rename_i h
   rw[Zj [] _ c (QaK c l),Qgu c l,h];rfl
  ·rw[QrD b c (QaK c l),Qgu c l]
theorem Qhy {a b:Int} (I:0<=a) (hb:0<=b) (h:Lib.itoa a=Lib.itoa b):a=b:=by
 obtain⟨m,rfl⟩:=aLA I;obtain⟨n,rfl⟩:=aLA hb;rw[YN,YN] at h;have:=Qog m
 rw[h,Qog] at this;rw[this]
theorem QlC:∀{l m:List Int},(∀x,x ∈ l->0<=x)->(∀x,x ∈ m->0<=x)->l.map Lib.itoa=m.map Lib.itoa->l=m
 | [],[],_,_,_=>rfl
 | [],_::_,_,_,h=>by cases h
 | _::_,[],_,_,h=>by cases h
 | a::l,b::m,h1,J,h=>by
  simp only[List.map_cons,List.cons.injEq] at h;rw[Qhy (h1 a aLm) (J b aLm) h.1,QlC (fun x I=>h1 x (aLp _ I)) (fun x I=>J x (aLp _ I)) h.2]
theorem QqQ (l:List Int) (I:l.length<BIG) (x:Int):Qc4 l x=some (decide (x ∈ l)):=by
 unfold Qc4;rw[Qhv l (fun a=>decide (a=x)) _ (fun i h=>?_) (by simp only[dge,aLC]),any_eq']
 simp only[dlt h,Qb l i h,Qa l i _ h,aLB,wsucc h I];cases decide (l[i]=x)<;>rfl
theorem Qlc (b:TBk) (hb:b.2.2.2.length<BIG):QcZ b=some (mB7 b):=by
 unfold QcZ mB7;simp only[Zm,Qew,aLc,beqB];cases mIn b.1 0 60<;>cases mIn b.2.1 1 40<;>cases mIn b.2.2.1 1 999<;>try rfl
 simp only[Bool.not_true,aLC,aLc,Bool.true_and,if_true];by_cases I:decide (b.1=0)=decide (b.2.1=1)
 ·rw[aLE I,if_pos I]
  simp only[Bool.not_true,aLC];by_cases J:(6:Int)<(b.2.2.2.length:Int)
  ·rw[aLE J,if_pos J];rfl
  ·rw[aLD J,if_neg J,aLC]
   rw[JD b.2.2.2 (mTx7 b.2.2.2) _ (fun i h=>?_) (by simp only[dge,aLC])]
   simp only[dlt h,Qb _ i h,Qa _ i _ h,ZR _ i (Nat.le_of_lt h),Y9,aLB,Zm,aLc,wsucc h hb,QqQ _ (YR hb i)];unfold mTx7;cases mIn b.2.2.2[i] 1 60<;>by_cases hm:b.2.2.2[i] ∈ b.2.2.2.take i<;>simp[hm]
 ·rw[aLD I,if_neg I];rfl
theorem Qkn (w:List UInt8) (n:Nat) (hw:w.length<BIG) (I:n<=7):Y (Qn w (n:Int)) (fun r=>(r.2=true->∃m:Nat,r.1=(m:Int)/\Lib.itoa (m:Int)=w)/\∀k,0<=k->k<=9999999->w=Lib.itoa k->(Lib.itoa k).length<=n->r.2=true):=by
 obtain⟨r,h1,J⟩:=Qt2 w n hw I;refine⟨r,h1,J,fun k k0 k1 hk U=>?_⟩
 subst hk;rw[Qfq k0 k1 n U] at h1;cases h1;rfl
def BkQ (s:List UInt8) (r:TBk×Bool):Prop:=(r.2=true->mB7 r.1=0/\Ym r.1=s)/\∀b,mB7 b=0->Ym b=s->r.2=true
theorem Qrt (s:List UInt8) (hs:s.length<=300):Y (QcV s) (BkQ s):=by
 have hB:BIG=4611686018427387904:=rfl
 unfold QcV;refine Y.eqb (Y3 s 32 (by unfold LIM;omega)) ?_
 have hw:∀i,(List.getD (cuts 32 s) i []).length<BIG:=fun i=>by have:=Yj 32 s i;omega
 have cwd:∀b,mB7 b=0->Ym b=s->cuts 32 s=wBk b:=fun b h1 I=>by rw[<-I];exact Qln (Qd7 h1)
 refine Y.bind (Q:=fun j=>(j=false->(cuts 32 s).length=5/\List.getD (cuts 32 s) 0 []=[98,108,111,99,107])/\∀b,mB7 b=0->Ym b=s->j=false) ?_ (fun j hj=>?_)
 ·refine Y.bif (fun h=>Y.some ⟨(fun h=>by cases h),fun b h1 I=>?_⟩) (fun h=>?_)
  ·rw[cwd b h1 I] at h
   exact absurd h (by simp[wBk])
  ·have h5:((cuts 32 s).length:Int)=5:=by simpa using h
   refine Y.grd (ZC (by omega) (by omega)) (Y.some ⟨fun h=>⟨by omega,by simpa using h⟩,fun b h1 I=>?_⟩)
   rw[cwd b h1 I];rfl
 ·refine Y.bif (fun h=>Y.some ⟨(fun h=>by cases h),fun b h1 I=>?_⟩) (fun h0=>?_)
  ·rw[hj.2 b h1 I] at h;cases h
  obtain⟨h5,hblk⟩:=hj.1 h0;refine Y.grd (ZC (by omega) (by omega)) (Y.bind (Qkn _ 2 (hw _) (by omega)) fun J q24=>?_)
  refine Y.grd (ZC (by omega) (by omega)) (Y.bind (Qkn _ 2 (hw _) (by omega)) fun U q25=>?_)
  refine Y.grd (ZC (by omega) (by omega)) (Y.bind (Qkn _ 3 (hw _) (by omega)) fun y26 q26=>?_)
  refine Y.bind (Q:=fun (j:Bool)=>(j=true->J.2=true/\U.2=true/\y26.2=true)/\∀b,mB7 b=0->Ym b=s->j=true) ?_ fun j27 q27=>?_
  ·have all:∀b,mB7 b=0->Ym b=s->J.2=true/\U.2=true/\y26.2=true:=fun b h1 I=>by
    have ho:=Qd7 h1
    have hp:=ho.p;have hh:=ho.h;have hm:=ho.m
    rw[cwd b h1 I] at q24 q25 q26;exact⟨q24.2 b.1 hp.1 (by omega) rfl (Qd9 _ 2 hp.1 (by omega) (by omega)),q25.2 b.2.1 (by omega) (by omega) rfl (Qd9 _ 2 (by omega) (by omega) (by omega)),q26.2 b.2.2.1 (by omega) (by omega) rfl (Qd9 _ 3 (by omega) (by omega) (by omega))⟩
   refine Y.bif (fun e1=>Y.bif (fun e2=>Y.some ⟨fun h=>⟨e1,e2,h⟩,fun b h1 I=>(all b h1 I).2.2⟩) (fun e2=>Y.some ⟨(fun h=>by cases h),fun b h1 I=>?_⟩)) (fun e1=>Y.some ⟨(fun h=>by cases h),fun b h1 I=>?_⟩)
   ·rw[(all b h1 I).2.1] at e2;cases e2
   ·rw[(all b h1 I).1] at e1;cases e1
  obtain⟨v,hv⟩:∃v,v=List.getD (cuts 32 s) 4 []:=⟨_,rfl⟩;have vl:v.length<=300:=by have:=Yj 32 s 4;rw[hv];omega
  have hin4:inB 4 (cuts 32 s)=true:=ZC (by omega) (by omega)
  have gv:List.getD (cuts 32 s) (Int.toNat 4) []=v:=hv.symm
  refine Y.grd hin4 ?_;simp only[gv,hin4,aLB];refine Y.eqb (Y3 v 43 (by unfold LIM;omega)) ?_
  obtain⟨ws,hws⟩:∃ws,ws=cuts 43 v:=⟨_,rfl⟩;have cl:ws.length<=301:=by have:=Jn 43 v;rw[hws];omega
  have hwl:∀i,(List.getD ws i []).length<BIG:=fun i=>by
   have:=Yj 43 v i
   rw[hws];omega
  rw[<-hws];have vb:∀b,mB7 b=0->Ym b=s->v=if b.2.2.2=[] then [45] else Zd b.2.2.2 [43]:=fun b h1 I=>by rw[hv,cwd b h1 I];rfl
  have wb:∀b,mB7 b=0->Ym b=s->v ≠ [45]->ws=b.2.2.2.map Lib.itoa:=fun b h1 I h3=>by
   have ho:=Qd7 h1
   have:=vb b h1 I
   by_cases hn:b.2.2.2=[]
   ·rw[if_pos hn] at this;exact absurd this h3
   ·rw[if_neg hn] at this
    rw[hws,this];exact Qjj hn fun k hk=>by have:=ho.t k hk;omega
  refine Y.bind (Q:=fun (j:Bool×TBk)=>∃L:List Int,j.2=(J.1,(U.1,(y26.1,L)))/\L.length<=301/\(j.1=true->j27=true/\(∀x,x ∈ L->0<=x)/\((v=[45]/\L=[])\/(v ≠ [45]/\L.map Lib.itoa=ws)))/\∀b,mB7 b=0->Ym b=s->j.1=true) ?_ (fun j hj=>?_)
  ·refine Y.loop (fun n (st:Bool×Int×TBk)=>∃(i:Nat) (L:List Int),st.2.1=(i:Int)/\i<=ws.length/\n=ws.length - i/\st.2.2=(J.1,(U.1,(y26.1,L)))/\L.length=i/\(st.1=true->j27=true/\(∀x,x ∈ L->0<=x)/\L.map Lib.itoa=ws.take i)/\(v=[45]->i=0)/\∀b,mB7 b=0->Ym b=s->st.1=true) (fun n st hi=>?_) ws.length (j27,(0,(J.1,(U.1,(y26.1,[]))))) ⟨0,[],rfl,by omega,by omega,rfl,rfl,(fun h=>⟨h,(fun x hx=>nomatch hx),rfl⟩),(fun _=>rfl),q27.2⟩
   obtain⟨i,L,i1,i2,i3,i4,i5,i6,i7,i8⟩:=hi;obtain⟨fl,i',st⟩:=st;have i1:i'=(i:Int):=i1
   subst i1;have i4:st=(J.1,(U.1,(y26.1,L))):=i4
   subst i4;refine Y.bind (Q:=fun b=>b=(decide (i<ws.length)&&!decide (v=[45]))) (Y.bif (fun hc=>?_) (fun hc=>?_)) fun b hb=>?_
   ·have hc:i<ws.length:=by simpa using hc
    exact Y.some (by rw[aLE hc];rfl)
   ·have hc:¬i<ws.length:=by simpa using hc
    exact Y.some (by rw[aLD hc];rfl)
   ·subst hb
    refine Y.bif (fun hb2=>?_) (fun hb2=>Y.some ⟨L,rfl,by omega,fun hf=>?_,i8⟩)
    ·simp only[aLg,aLF,Bool.not_eq_true',decide_eq_false_iff_not] at hb2
     obtain⟨hc,hv45⟩:=hb2;have hg:List.getD ws (Int.toNat (i:Int)) []=ws[i]:=Qa ws i _ hc
     refine Y.grd (Qb ws i hc) (Y.bind (Qkn _ 2 (hwl _) (by omega)) fun y37 q37=>?_)
     rw[hg] at q37;refine Y.bind (Q:=fun (j:Bool)=>j=(fl&&y37.2)) (Y.bif (fun h=>Y.some (by rw[show fl=true from h];rfl)) (fun h=>Y.some (by rw[show fl=false from h];rfl))) fun j38 q38=>?_
     subst q38;refine Y.grd (QfD _ _ (by show L.length<_;omega)) (Y.some ⟨ws.length - (i+1),by omega,i+1,L++[y37.1],wsucc hc (by omega),by omega,rfl,rfl,by simp[i5],fun hf=>?_,fun h=>absurd h hv45,fun b h1 I=>?_⟩)
     ·have hf:(fl&&y37.2)=true:=hf
      rw[aLg] at hf;obtain⟨k1,k3,k2⟩:=i6 hf.1;obtain⟨m,m1,m2⟩:=q37.1 hf.2;refine⟨k1,fun x hx=>?_,?_⟩
      ·rcases List.mem_append.1 hx with hx | hx
       ·exact k3 x hx
       ·rw[aLs.1 hx,m1];omega
      rw[List.map_append,k2,List.take_succ_eq_append_getElem hc,m1];show _++[Lib.itoa (m:Int)]=_
      rw[m2]
     ·show (fl&&y37.2)=true
      have ho:=Qd7 h1
      have hwb:=wb b h1 I hv45
      have hib:i<b.2.2.2.length:=by rw[hwb,List.length_map] at hc;exact hc
      have hx:=ho.t _ (aLl hib)
      rw[show fl=true from i8 b h1 I,q37.2 b.2.2.2[i] (by omega) (by omega) (by simp[hwb]) (Qd9 _ 2 (by omega) (by omega) (by omega))];rfl
    ·obtain⟨k1,k3,k2⟩:=i6 hf
     refine⟨k1,k3,?_⟩;by_cases h45:v=[45]
     ·have:=i7 h45
      exact .inl ⟨h45,List.eq_nil_of_length_eq_zero (by omega)⟩
     ·have hc:¬i<ws.length:=by
       intro hc;rw[aLE hc,aLD h45] at hb2;cases hb2
      refine .inr ⟨h45,?_⟩;rw[k2,List.take_of_length_le (by omega)]
  ·obtain⟨L,j1,j2,j3,j4⟩:=hj
   obtain⟨fl,tb⟩:=j;have j1:tb=(J.1,(U.1,(y26.1,L))):=j1
   subst j1;refine Y.bind (Q:=fun (q:Bool×TBk)=>BkQ s (q.2,q.1)) (Y.bif (fun hf=>?_) (fun hf=>Y.some ⟨fun h=>(by cases h),fun b h1 I=>by rw[show fl=true from j4 b h1 I] at hf;cases hf⟩)) fun q hq=>Y.some hq
   refine Y.eqb (Qlc _ (by show L.length<_;omega)) (Y.some ?_)
   obtain⟨k1,k3,k2⟩:=j3 hf;obtain⟨n1,n2,n3⟩:=q27.1 k1;obtain⟨m1,a1,b1⟩:=q24.1 n1;obtain⟨m2,a2,b2⟩:=q25.1 n2;obtain⟨m3,a3,b3⟩:=q26.1 n3;have b1:Lib.itoa (m1:Int)=List.getD (cuts 32 s) 1 []:=b1
   have b2:Lib.itoa (m2:Int)=List.getD (cuts 32 s) 2 []:=b2
   have b3:Lib.itoa (m3:Int)=List.getD (cuts 32 s) 3 []:=b3
   have htx:Ym (J.1,(U.1,(y26.1,L)))=s:=by
    have hlast:(if L=[] then [45] else Zd L [43])=v:=by
     rcases k2 with ⟨h1,I⟩ | ⟨h1,I⟩
     ·rw[if_pos I,h1]
     ·have hLn:L ≠ []:=fun h=>by rw[h] at I;exact QaK 43 v (by rw[<-hws,<-I];rfl)
      rw[if_neg hLn];show Lib.join (L.map Lib.itoa) [43]=v
      rw[I,hws,Qgu]
    have hcut:cuts 32 s=wBk (J.1,(U.1,(y26.1,L))):=by
     unfold wBk;show _=[[98,108,111,99,107],Lib.itoa J.1,Lib.itoa U.1,Lib.itoa y26.1,if L=[] then [45] else Zd L [43]]
     rw[hlast,a1,a2,a3,b1,b2,b3,<-hblk,hv];generalize cuts 32 s=w at h5
     match w,h5 with
     | [_,_,_,_,_],_=>rfl
    unfold Ym;rw[<-hcut,Qgu]
   refine⟨fun h=>⟨aLG h,htx⟩,fun b h1 I=>aLE ?_⟩
   have hb1:=Qe2 h1 (by rw[I];exact hs)
   have:=cwd b h1 I
   have e:(J.1,(U.1,(y26.1,L)))=b:=by
    have ho:=Qd7 h1
    have hp:=ho.p;have hh:=ho.h;have hm:=ho.m
    rw[this] at b1 b2 b3;have c1:J.1=b.1:=by rw[a1];exact Qhy (by omega) hp.1 b1
    have c2:U.1=b.2.1:=by rw[a2];exact Qhy (by omega) (by omega) b2
    have c3:y26.1=b.2.2.1:=by rw[a3];exact Qhy (by omega) (by omega) b3
    have c4:L=b.2.2.2:=by
     rcases k2 with ⟨h3,h4⟩ | ⟨h3,h4⟩
     ·by_cases hn:b.2.2.2=[]
      ·rw[h4,hn]
      ·have:=vb b h1 I
       rw[if_neg hn,h3] at this;exact absurd this.symm (Qkv hn fun k hk=>by have:=ho.t k hk;omega)
     ·rw[wb b h1 I h3] at h4
      exact QlC k3 (fun x hx=>by have:=ho.t x hx;omega) h4
    rw[c1,c2,c3,c4]
   rw[e];exact h1
end GL
end Go.Dx
set_option maxHeartbeats 2000000
namespace Go.Dx
namespace GL
open Classical in
noncomputable def rdBk (s:List UInt8):Option TBk:=if h:∃b,mB7 b=0/\Ym b=s then some h.choose else none
theorem QiA {s:List UInt8} {b:TBk} (h:rdBk s=some b):mB7 b=0/\Ym b=s:=by
 unfold rdBk at h;split at h
 ·rename_i hh
  cases h;exact hh.choose_spec
 ·cases h
theorem Qmb {s:List UInt8} (h:rdBk s=none) (b:TBk) (h1:mB7 b=0) (I:Ym b=s):False:=by
 unfold rdBk at h;split at h
 ·cases h
 ·rename_i hh;exact hh ⟨b,h1,I⟩
def noB:TBk:=(0,(0,(0,[])))
theorem QoG (s:List UInt8) (J:s.length<=300):Y (Ye s) (fun r=>(r.2=true->mB7 r.1=0/\Ym r.1=s)/\(r.2=false->r.1=noB)):=by
 have U:BIG=4611686018427387904:=rfl
 have hw:∀i,(List.getD (cuts 32 s) i []).length<=300:=fun i=>by have:=Yj 32 s i;omega
 unfold Ye;refine Y.eqb (QfE s 32 (by omega)) ?_
 refine Y.bind (Q:=fun j=>j=false->(cuts 32 s).length=5) (Y.bif (fun _=>Y.some (fun h=>by cases h)) (fun _=>Y.some (fun h=>?_))) fun j hj=>?_
 ·have:((cuts 32 s).length:Int)=5:=by simpa using h
  omega
 ·refine Y.bif (fun _=>Y.some ⟨(fun h=>by cases h),fun _=>rfl⟩) (fun I=>?_)
  have h5:=hj I
  refine Y.grd (ZC (by omega) (by omega)) (Y.eqb (YL _ (by have:=hw (Int.toNat 1);omega)) ?_)
  refine Y.grd (ZC (by omega) (by omega)) (Y.eqb (YL _ (by have:=hw (Int.toNat 2);omega)) ?_)
  refine Y.grd (ZC (by omega) (by omega)) (Y.eqb (YL _ (by have:=hw (Int.toNat 3);omega)) ?_)
  have i4:inB 4 (cuts 32 s)=true:=ZC (by omega) (by omega)
  have w4:=hw (Int.toNat 4)
  refine Y.grd i4 (Y.bind (Q:=fun (b:TBk)=>b.2.2.2.length<=1000) (Y.bif (fun _=>Y.grd i4 (Y.eqb (Qij _ 43 (by omega)) (Y.some ?_))) (fun _=>Y.some (by simp))) fun b hb=>?_)
  ·show ((cuts 43 _).map numS).length<=1000
   have:=Jn 43 (List.getD (cuts 32 s) (Int.toNat 4) [])
   rw[List.length_map];omega
  ·refine Y.bind (Q:=fun j=>j=false->mB7 b=0/\Ym b=s) (Y.eqb (Qfn b (by omega)) (Y.bif (fun _=>Y.some (fun h=>by cases h)) (fun h1=>?_))) fun j hj=>Y.bif (fun _=>Y.some ⟨(fun h=>by cases h),fun _=>rfl⟩) (fun h1=>Y.some ⟨fun _=>hj h1,fun h=>by cases h⟩)
   have h1:mB7 b=0:=by simpa using h1
   exact Y.eqb (Qf4 (Qd7 h1)) (Y.some (fun h=>⟨h1,by simpa using h⟩))
theorem Qqn (s:List UInt8) (J:s.length<=300):Ye s=some (match rdBk s with | some b=>(b,true) | none=>(noB,false)):=by
 cases U:rdBk s with
 | some b=>
  obtain⟨h1,I⟩:=QiA U;have:=Qe2 h1 (by rw[I];exact J)
  rwa [I] at this
 | none=>
  obtain⟨r,h1,I,h3⟩:=QoG s J;rw[h1];obtain⟨b,f⟩:=r;cases f with
  | true=>exact (Qmb U b (I rfl).1 (I rfl).2).elim
  | false=>rw[show b=noB from h3 rfl]
theorem QnP (s:List UInt8) (I:s.length<=300):QaJ s=some (match rdBk s with | some b=>(0,b) | none=>(5,noB)):=by
 unfold QaJ;obtain⟨r,h1,J,h3⟩:=Qrt s I;rw[h1,aLc];obtain⟨b,f⟩:=r;cases hr:rdBk s with
 | none=>
  cases f with
  | true=>exact (Qmb hr b (J rfl).1 (J rfl).2).elim
  | false=>rfl
 | some b'=>
  obtain⟨k1,k2⟩:=QiA hr;have hf:f=true:=h3 b' k1 k2
  subst hf;obtain⟨j1,j2⟩:=J rfl;have e1:=Qe2 j1 (by rw[j2];exact I)
  have U:=Qe2 k1 (by rw[k2];exact I)
  rw[j2] at e1;rw[k2,e1] at U;simp only[aLb,aLe,and_true] at U;show some ((0:Int),b)=some (0,b')
  rw[U]
noncomputable def mBI (l:TL) (id:Int):TBk×Int:=if mIn id 1 (l.1.length:Int) then (match rdBk (List.getD l.1 (Int.toNat (IntKind.wrap .i64 (id - 1))) []) with | some b=>(b,0) | none=>(noB,5)) else (noB,3)
theorem Qg4 {l:TL} (h:okL l) (id:Int):Yi l id=some (mBI l id):=by
 unfold Yi Yx Qat mBI;rw[Zf];simp only[aLc];cases hi:mIn id 1 (l.1.length:Int) with
 | false=>rfl
 | true=>
  simp only[Bool.not_true,aLC,Qm3 h hi,aLB,aLc,decide_true,if_true];rw[Qqn _ (QiU h _),aLc];cases rdBk (List.getD l.1 (Int.toNat (IntKind.wrap .i64 (id - 1))) [])<;>rfl
theorem Qhl {l:TL} (h:mLF l=0) (id:Int):Qa1 l id=some ((mBI l id).2,(mBI l id).1):=by
 have ho:=Qdb h
 have I:BIG=4611686018427387904:=rfl
 unfold Qa1 QbA Qe1 mBI;rw[QaY l (by have:=ho.n1;omega) (by have:=ho.n2;omega),aLc,h,Zm]
 simp only[decide_true,Bool.not_true,aLC,aLc];cases hi:mIn id 1 (l.1.length:Int) with
 | false=>rfl
 | true=>
  simp only[Bool.not_true,aLC,Qm3 ho hi,aLB,aLc,decide_true,if_true];rw[QnP _ (QiU ho _),aLc];cases rdBk (List.getD l.1 (Int.toNat (IntKind.wrap .i64 (id - 1))) [])<;>rfl
theorem QtO {l:TL} (J:okL l) {id:Int} (h:(mBI l id).2=0):mB7 (mBI l id).1=0/\mIn id 1 60=true:=by
 have U:=J.n1
 unfold mBI at h ⊢;split
 ·rename_i h1
  rw[if_pos h1] at h;refine⟨?_,QE.2 (by have:=QE.1 h1;omega)⟩
  split
  ·rename_i t I;exact (QiA I).1
  ·rename_i I;rw[I] at h;cases h
 ·rename_i h1;rw[if_neg h1] at h;cases h
end GL
end Go.Dx
set_option maxHeartbeats 2000000
namespace Go.Dx
namespace GL
structure okSt (S:TState):Prop where
 c:Zv S.2.2.1=0
 m:J4 S.2.2.2/\S.2.2.2.length<=8
noncomputable def mDo (l:TL) (S:TState) (id h:Int):Int×List TCoin×Int×TState:=
 if (mTI l id).2=0 then (if (mChk l S.2.2.1 (mTI l id).1 h).2=0 then (if (Qce S.2.2.2 (mTI l id).1 id).2=0 then (if (Qbs S.2.2.1 (mTI l id).1 id h).2=0 then
  ((mChk l S.2.2.1 (mTI l id).1 h).1,(mSp S.2.2.1 (mTI l id).1,(0,(S.1,(S.2.1,((Qbs S.2.2.1 (mTI l id).1 id h).1,(Qce S.2.2.2 (mTI l id).1 id).1))))))
  else (0,([],((Qbs S.2.2.1 (mTI l id).1 id h).2,S)))) else (0,([],((Qce S.2.2.2 (mTI l id).1 id).2,S)))) else (0,([],((mChk l S.2.2.1 (mTI l id).1 h).2,S)))) else (0,([],((mTI l id).2,S)))
theorem QtU {l:TL} (U:mLF l=0) {S:TState} (I:okSt S) (id:Int) {h:Int} (hh:mIn h 0 999=true):Qaj l S id h=some (mDo l S id h):=by
 have ho:=Qdb U
 unfold Qaj mDo;rw[Qov ho,aLc,QK];split
 ·rename_i h1
  have J:=J0 (Qj7 h1)
  have hid:=QmT ho h1
  rw[Qlj ho I.c J hh,aLc,QK];split
  ·rename_i h2
   have hlen:=QoS h2
   rw[QiM I.m (by have:=J.li;omega) hid,aLc,QK]
   split
   ·rw[QeF I.c _ J,if_pos hlen,aLc,Qry I.c J hlen hid hh,aLc,QK]
    split<;>rfl
   ·rfl
  ·rfl
 ·rfl
theorem QtV {l:TL} (J:mLF l=0) {S:TState} (I:okSt S) (id:Int) {h:Int} (hh:mIn h 0 999=true):Qe3 l S id h=some ((mDo l S id h).2.1,((mDo l S id h).1,((mDo l S id h).2.2.1,(l,(mDo l S id h).2.2.2)))):=by
 have ho:=Qdb J
 unfold Qe3 mDo;rw[QoE J,aLc,QK];split
 ·rename_i h1
  have U:=Qj7 h1
  have ht:=J0 U
  have hid:=QmT ho h1
  rw[QkN J I.c U hh,aLc,QK];split
  ·rename_i h2
   have hlen:=QoS h2
   rw[Qmt I.m (by have:=ht.li;show (mTI l id).1.2.2.1.length<=_;omega),aLc,QK]
   split
   ·rw[QeT I.c _ (by have:=ht.li;show (mTI l id).1.2.2.1.length<=_;omega),aLc,QkO I.c U hlen hid hh,aLc,QK]
    split<;>rfl
   ·rfl
  ·rfl
 ·rfl
theorem QhR {l:TL} (hl:mLF l=0) {S:TState} (hS:okSt S) {id h:Int} (hh:mIn h 0 999=true) (I:(mDo l S id h).2.2.1=0):okSt (mDo l S id h).2.2.2/\(mDo l S id h).2.2.2.1=S.1/\(mDo l S id h).2.2.2.2.1=S.2.1/\0<=(mDo l S id h).1/\(mDo l S id h).1<=40000000:=by
 have ho:=Qdb hl
 unfold mDo at I ⊢;by_cases h1:(mTI l id).2=0
 ·rw[if_pos h1] at I ⊢
  have ht:=J0 (Qj7 h1)
  have hid:=QmT ho h1
  by_cases J:(mChk l S.2.2.1 (mTI l id).1 h).2=0
  ·rw[if_pos J] at I ⊢
   by_cases h3:(Qce S.2.2.2 (mTI l id).1 id).2=0
   ·rw[if_pos h3] at I ⊢
    by_cases U:(Qbs S.2.2.1 (mTI l id).1 id h).2=0
    ·rw[if_pos U]
     exact⟨⟨Qow hS.c ht hid hh U,QoW hS.m _ _⟩,rfl,rfl,QtW hS.c ht J⟩
    ·rw[if_neg U] at I;exact absurd I U
   ·rw[if_neg h3] at I;exact absurd I h3
  ·rw[if_neg J] at I;exact absurd I J
 ·rw[if_neg h1] at I;exact absurd I h1
noncomputable def mDos (l:TL) (h:Int):List Int->Int->List (List TCoin)->TState->Int×Int×List (List TCoin)×TState
 | [],f,sp,S=>(0,(f,(sp,S)))
 | i::r,f,sp,S=>if (mDo l S i h).2.2.1=0 then mDos l h r (IntKind.wrap .i64 (f+(mDo l S i h).1)) (sp++[(mDo l S i h).2.1]) (mDo l S i h).2.2.2 else ((mDo l S i h).2.2.1,(0,([],S)))
theorem Qiy {l:TL} (U:mLF l=0) {h:Int} (hh:mIn h 0 999=true):∀(ids:List Int) (f:Int) (sp:List (List TCoin)) (S:TState),okSt S->0<=f->f+40000000 * (ids.length:Int)<=1000000000000->(mDos l h ids f sp S).1=0->
  okSt (mDos l h ids f sp S).2.2.2/\0<=(mDos l h ids f sp S).2.1/\(mDos l h ids f sp S).2.1<=f+40000000 * (ids.length:Int)/\(mDos l h ids f sp S).2.2.1.length=sp.length+ids.length
 | [],f,sp,S,J,h0,h1,_=>⟨J,h0,by simp[mDos],rfl⟩
 | i::r,f,sp,S,J,h0,h1,I=>by
  unfold mDos at I ⊢;by_cases hd:(mDo l S i h).2.2.1=0
  ·rw[if_pos hd] at I ⊢
   obtain⟨a1,_,_,a2,a3⟩:=QhR U J hh hd;rw[aLh] at h1;have hw:IntKind.wrap .i64 (f+(mDo l S i h).1)=f+(mDo l S i h).1:=QY (by omega) (by omega)
   rw[hw] at I ⊢;obtain⟨b1,b2,b3,b4⟩:=Qiy U hh r _ (sp++[(mDo l S i h).2.1]) _ a1 (by omega) (by omega) I
   refine⟨b1,b2,?_,?_⟩
   ·rw[aLh];omega
   ·rw[b4,aLi,List.length_singleton,aLh];omega
  ·rw[if_neg hd] at I;exact absurd I hd
abbrev TRs:=Int×Int×TUn×TState
def badR (c:Int):TRs:=(c,(0,((0,([],[])),(0,(0,([],[]))))))
def mRw (h:Int):Int:=1000 / 2 ^ ((h - 1) / 8).toNat
theorem QhV {h:Int} (h1:1<=h/\h<=40):QbO h=some (mRw h)/\Qb1 h=some (mRw h)/\62<=mRw h/\mRw h<=1000:=by
 have I:Int.tdiv (h - 1) 8=(h - 1) / 8:=Int.tdiv_eq_ediv_of_nonneg (by omega)
 have e1:RowKit.wrap64 (h - 1)=h - 1:=by unfold RowKit.wrap64;omega
 have J:RowKit.wrap64 ((h - 1) / 8)=(h - 1) / 8:=by unfold RowKit.wrap64;omega
 unfold QbO Qb1 mRw;rw[QY (n:=h - 1) (by omega) (by omega),e1,I,J,QY (n:=(h - 1) / 8) (by omega) (by omega),aLE (show (0:Int)<=(h - 1) / 8 by omega),aLB]
 have:(h - 1) / 8=0\/(h - 1) / 8=1\/(h - 1) / 8=2\/(h - 1) / 8=3\/(h - 1) / 8=4:=by omega
 rcases this with e | e | e | e | e<;>rw[e]<;>refine⟨by decide,by decide,by decide,by decide⟩
noncomputable def QH (l:TL) (S:TState) (id:Int):TRs:=
 if (mBI l id).2=0 then (if (mBI l id).1.1=S.1/\(mBI l id).1.2.1=IntKind.wrap .i64 (S.2.1+1) then
  (if (mDos l (mBI l id).1.2.1 (mBI l id).1.2.2.2 0 [] S).1=0 then
   (if 1000000<mRw (mBI l id).1.2.1+(mDos l (mBI l id).1.2.1 (mBI l id).1.2.2.2 0 [] S).2.1 then badR 8 else
    (if (QbQ (mDos l (mBI l id).1.2.1 (mBI l id).1.2.2.2 0 [] S).2.2.2.2.2.1 id [(mRw (mBI l id).1.2.1+(mDos l (mBI l id).1.2.1 (mBI l id).1.2.2.2 0 [] S).2.1,([(mBI l id).1.2.2.1],(1,0)))] (mBI l id).1.2.1 true).2=0 then
     (0,((mDos l (mBI l id).1.2.1 (mBI l id).1.2.2.2 0 [] S).2.1,((id,((mDos l (mBI l id).1.2.1 (mBI l id).1.2.2.2 0 [] S).2.2.1,S.2.2.2)),(id,((mBI l id).1.2.1,((QbQ (mDos l (mBI l id).1.2.1 (mBI l id).1.2.2.2 0 [] S).2.2.2.2.2.1 id [(mRw (mBI l id).1.2.1+(mDos l (mBI l id).1.2.1 (mBI l id).1.2.2.2 0 [] S).2.1,([(mBI l id).1.2.2.1],(1,0)))] (mBI l id).1.2.1 true).1,(mDos l (mBI l id).1.2.1 (mBI l id).1.2.2.2 0 [] S).2.2.2.2.2.2))))))
     else badR (QbQ (mDos l (mBI l id).1.2.1 (mBI l id).1.2.2.2 0 [] S).2.2.2.2.2.1 id [(mRw (mBI l id).1.2.1+(mDos l (mBI l id).1.2.1 (mBI l id).1.2.2.2 0 [] S).2.1,([(mBI l id).1.2.2.1],(1,0)))] (mBI l id).1.2.1 true).2))
   else badR (mDos l (mBI l id).1.2.1 (mBI l id).1.2.2.2 0 [] S).1)
  else badR 10) else badR (mBI l id).2
theorem QiL {v k:Int} (hv:1<=v/\v<=1000000) (hk:mIn k 1 999=true):∀o,o ∈ [((v,([k],(1,0))):TOut)]->mOut o=0/\o.2.1.length<=1000000:=fun o ho=>by
 rw[aLs.1 ho];refine⟨?_,by simp⟩
 unfold mOut;rw[QE.2 hv,if_pos rfl];show Q7 ([k],(1,0))=0
 have:=QE.1 hk
 unfold Q7 QeG;simp[mIn];omega
theorem Qfj {l:TL} (J:mLF l=0) {S:TState} (U:okSt S) {id:Int} (h1:(mBI l id).2=0):okB7 (mBI l id).1/\mIn id 1 60=true/\mIn (mBI l id).1.2.1 0 999=true/\mIn (mBI l id).1.2.2.1 1 999=true/\
  ((mDos l (mBI l id).1.2.1 (mBI l id).1.2.2.2 0 [] S).1=0->okSt (mDos l (mBI l id).1.2.1 (mBI l id).1.2.2.2 0 [] S).2.2.2/\0<=(mDos l (mBI l id).1.2.1 (mBI l id).1.2.2.2 0 [] S).2.1/\(mDos l (mBI l id).1.2.1 (mBI l id).1.2.2.2 0 [] S).2.1<=240000000):=by
 obtain⟨h2,h3⟩:=QtO (Qdb J) h1;have hb:=Qd7 h2
 have hh:=hb.h
 have I:mIn (mBI l id).1.2.1 0 999=true:=QE.2 (by omega)
 refine⟨hb,h3,I,QE.2 hb.m,fun h4=>?_⟩
 have hn:=hb.n
 obtain⟨a,b,c,_⟩:=Qiy J I _ 0 [] S U (by omega) (by omega) h4
 exact⟨a,b,by omega⟩
theorem Qeg {l:TL} (hl:mLF l=0) {S:TState} (hS:okSt S) {id:Int} (I:(QH l S id).1=0):okSt (QH l S id).2.2.2/\(QH l S id).2.2.2.1=id/\(QH l S id).2.2.2.2.1=(mBI l id).1.2.1/\(mBI l id).2=0/\(mBI l id).1.1=S.1/\(mBI l id).1.2.1=IntKind.wrap .i64 (S.2.1+1)/\0<=(QH l S id).2.1/\(QH l S id).2.1<=240000000:=by
 unfold QH at I ⊢;by_cases h1:(mBI l id).2=0
 ·rw[if_pos h1] at I ⊢
  obtain⟨hb,hid,hh,hk,hd⟩:=Qfj hl hS h1;by_cases J:(mBI l id).1.1=S.1/\(mBI l id).1.2.1=IntKind.wrap .i64 (S.2.1+1)
  ·rw[if_pos J] at I ⊢
   generalize mDos l (mBI l id).1.2.1 (mBI l id).1.2.2.2 0 [] S=q at *;by_cases U:q.1=0
   ·rw[if_pos U] at I ⊢
    obtain⟨d1,d2,d3⟩:=hd U;by_cases h4:1000000<mRw (mBI l id).1.2.1+q.2.1
    ·rw[if_pos h4] at I;cases I
    ·rw[if_neg h4] at I ⊢
     have hr:=(QhV hb.h).2.2
     by_cases h5:(QbQ q.2.2.2.2.2.1 id [(mRw (mBI l id).1.2.1+q.2.1,([(mBI l id).1.2.2.1],(1,0)))] (mBI l id).1.2.1 true).2=0
     ·rw[if_pos h5]
      exact⟨⟨Qmg d1.c hid (by simp) (fun o ho=>(QiL ⟨by omega,by omega⟩ hk o ho).1) hh h5,d1.m⟩,rfl,rfl,h1,J.1,J.2,d2,d3⟩
     ·rw[if_neg h5] at I;exact absurd I h5
   ·rw[if_neg U] at I;exact absurd I U
  ·rw[if_neg J] at I;cases I
 ·rw[if_neg h1] at I;exact absurd I h1
theorem Qqz {S:TState} (I:okSt S):QbT S=some S/\QdP S=some S:=by
 have J:=(YK I.c).1
 have hm:=I.m.2
 constructor
 ·unfold QbT
  rw[Qb0 _ (by omega) (YP I.c),aLc,QgN _ (by unfold LIM;omega)];rfl
 ·unfold QdP
  rw[QdF _ (by omega) (YP I.c),aLc,Qe (by simp only[aLj];unfold LIM;omega)];rfl
theorem QqJ {l:TL} (hl:mLF l=0) {S:TState} (hS:okSt S) (id:Int):Jd l S id=some (QH l S id):=by
 have hB:BIG=4611686018427387904:=rfl
 unfold Jd QH;rw[Qg4 (Qdb hl),aLc,QK];split
 ·rename_i h1
  obtain⟨hb,hid,hh,hk,hd⟩:=Qfj hl hS h1;generalize (mBI l id).1=b at *;by_cases h2:b.1=S.1/\b.2.1=IntKind.wrap .i64 (S.2.1+1)
  ·rw[if_pos h2,aLE h2.1,aLE h2.2]
   simp only[Bool.not_true,aLC,aLc];rw[(Qqz hS).1,aLc,QgN _ (by have:=hS.m.2;unfold LIM;omega),aLc]
   generalize hg:(fun (s20:Int×Int×TState×TUn)=>_)=g
   have key:∀(d i:Nat) (f:Int) (sp:List (List TCoin)) (S':TState),i+d=b.2.2.2.length->okSt S'->sp.length=i->Qc g (f,((i:Int),(S',(id,(sp,S.2.2.2)))))=some (if (mDos l b.2.1 (b.2.2.2.drop i) f sp S').1=0 then Sum.inl ((mDos l b.2.1 (b.2.2.2.drop i) f sp S').2.1,((mDos l b.2.1 (b.2.2.2.drop i) f sp S').2.2.2,(id,((mDos l b.2.1 (b.2.2.2.drop i) f sp S').2.2.1,S.2.2.2)))) else Sum.inr (badR (mDos l b.2.1 (b.2.2.2.drop i) f sp S').1)):=by
    intro d;induction d with
    | zero=>
     intro i f sp S' hi _ _;obtain rfl:i=b.2.2.2.length:=by omega
     rw[Qh (show g (f,((b.2.2.2.length:Int),(S',(id,(sp,S.2.2.2)))))=some (.inr (.inl (f,(S',(id,(sp,S.2.2.2)))))) by rw[<-hg];simp only[dge,aLC]),List.drop_length]
     rfl
    | succ d ih=>
     intro i f sp S' hi hS' hsp;have J:i<b.2.2.2.length:=by omega
     have hn:=hb.n
     rw[aLr J];unfold mDos;have I:g (f,((i:Int),(S',(id,(sp,S.2.2.2)))))=if (mDo l S' b.2.2.2[i] b.2.1).2.2.1=0 then some (.inl (IntKind.wrap .i64 (f+(mDo l S' b.2.2.2[i] b.2.1).1),(((i+1:Nat):Int),((mDo l S' b.2.2.2[i] b.2.1).2.2.2,(id,(sp++[(mDo l S' b.2.2.2[i] b.2.1).2.1],S.2.2.2)))))) else some (.inr (.inr (badR (mDo l S' b.2.2.2[i] b.2.1).2.2.1))):=by
      rw[<-hg];simp only[dlt J,Qb _ i J,Qa _ i _ J,aLB,QtU hl hS' _ hh,aLc,wsucc J (show b.2.2.2.length<BIG by omega),QK]
      split
      ·rw[Qe (by simp only[aLh,aLj];unfold LIM;omega)];rfl
      ·rfl
     by_cases U:(mDo l S' b.2.2.2[i] b.2.1).2.2.1=0
     ·rw[if_pos U] at I ⊢
      rw[Qv I,ih (i+1) _ _ _ (by omega) (QhR hl hS' hh U).1 (by simp[hsp])]
     ·rw[if_neg U] at I ⊢
      rw[Qh I,if_neg U]
   have:=key b.2.2.2.length 0 0 [] S (by omega) hS rfl
   rw[List.drop_zero] at this;show ((Qc g (0,(0,(S,(id,([],S.2.2.2)))))).bind _)=_
   rw[show ((0:Nat):Int)=0 from rfl] at this
   rw[this,aLc];generalize mDos l b.2.1 b.2.2.2 0 [] S=q at *;by_cases h3:q.1=0
   ·obtain⟨d1,d2,d3⟩:=hd h3
    have hr:=QhV hb.h
    rw[if_pos h3,if_pos h3,Sum.elim_inl,hr.1,aLc,QY (by omega) (by omega)]
    by_cases h4:1000000<mRw b.2.1+q.2.1
    ·rw[aLE h4,if_pos h4];rfl
    ·rw[aLD h4,if_neg h4,aLC]
     have hc:=YK d1.c
     rw[QkI (QeK d1.c) (by omega) (YP d1.c) hid (by simp) (QiL ⟨by omega,by omega⟩ hk) hh true,aLc,QK]
     split<;>rfl
   ·rw[if_neg h3,if_neg h3];rfl
  ·rw[if_neg h2]
   by_cases h3:b.1=S.1
   ·have h4:¬b.2.1=IntKind.wrap .i64 (S.2.1+1):=fun h=>h2 ⟨h3,h⟩
    rw[aLE h3,aLD h4];rfl
   ·rw[aLD h3];rfl
 ·rfl
theorem Qlt (c:Int):Ya c=some (badR c):=rfl
theorem Qjh {l:TL} (hl:mLF l=0) {S:TState} (hS:okSt S) (id:Int):JW l S id=some (QH l S id,l):=by
 have hB:BIG=4611686018427387904:=rfl
 unfold JW QH;rw[Qhl hl,aLc,QK];split
 ·rename_i h1
  obtain⟨hb,hid,hh,hk,hd⟩:=Qfj hl hS h1;generalize (mBI l id).1=b at *;by_cases h2:b.1=S.1/\b.2.1=IntKind.wrap .i64 (S.2.1+1)
  ·rw[if_pos h2,aLE h2.1,aLE h2.2]
   simp only[Bool.not_true,aLC,aLc];rw[(Qqz hS).2,aLc,Qe (by simp only[aLj];have:=hS.m.2;unfold LIM;omega)]
   generalize hg:(fun (s29:Int×TRs×TL)=>_)=g
   have key:∀(d i:Nat) (f:Int) (sp:List (List TCoin)) (S':TState),i+d=b.2.2.2.length->okSt S'->sp.length=i->Qc g ((i:Int),((0,(f,((id,(sp,S.2.2.2)),S'))),l))=some (if (mDos l b.2.1 (b.2.2.2.drop i) f sp S').1=0 then Sum.inl ((0,((mDos l b.2.1 (b.2.2.2.drop i) f sp S').2.1,((id,((mDos l b.2.1 (b.2.2.2.drop i) f sp S').2.2.1,S.2.2.2)),(mDos l b.2.1 (b.2.2.2.drop i) f sp S').2.2.2))),l) else Sum.inr (badR (mDos l b.2.1 (b.2.2.2.drop i) f sp S').1,l)):=by
    intro d;induction d with
    | zero=>
     intro i f sp S' hi _ _;obtain rfl:i=b.2.2.2.length:=by omega
     rw[Qh (show g ((b.2.2.2.length:Int),((0,(f,((id,(sp,S.2.2.2)),S'))),l))=some (.inr (.inl ((0,(f,((id,(sp,S.2.2.2)),S'))),l))) by rw[<-hg];simp only[dge,aLC]),List.drop_length]
     rfl
    | succ d ih=>
     intro i f sp S' hi hS' hsp;have J:i<b.2.2.2.length:=by omega
     have hn:=hb.n
     rw[aLr J];unfold mDos;have I:g ((i:Int),((0,(f,((id,(sp,S.2.2.2)),S'))),l))=if (mDo l S' b.2.2.2[i] b.2.1).2.2.1=0 then some (.inl (((i+1:Nat):Int),((0,(IntKind.wrap .i64 (f+(mDo l S' b.2.2.2[i] b.2.1).1),((id,(sp++[(mDo l S' b.2.2.2[i] b.2.1).2.1],S.2.2.2)),(mDo l S' b.2.2.2[i] b.2.1).2.2.2))),l))) else some (.inr (.inr (badR (mDo l S' b.2.2.2[i] b.2.1).2.2.1,l))):=by
      rw[<-hg];simp only[dlt J,Qb _ i J,Qa _ i _ J,aLB,QtV hl hS' _ hh,aLc,wsucc J (show b.2.2.2.length<BIG by omega),QK,Qlt]
      split
      ·rw[Qe (by simp only[aLh,aLj];unfold LIM;omega)];rfl
      ·rfl
     by_cases U:(mDo l S' b.2.2.2[i] b.2.1).2.2.1=0
     ·rw[if_pos U] at I ⊢
      rw[Qv I,ih (i+1) _ _ _ (by omega) (QhR hl hS' hh U).1 (by simp[hsp])]
     ·rw[if_neg U] at I ⊢
      rw[Qh I,if_neg U]
   have:=key b.2.2.2.length 0 0 [] S (by omega) hS rfl
   rw[List.drop_zero] at this;show ((Qc g (0,((0,(0,((id,([],List.append [] S.2.2.2)),S))),l))).bind _)=_
   rw[show ((0:Nat):Int)=0 from rfl] at this
   rw[show List.append ([]:List TMb) S.2.2.2=S.2.2.2 from rfl,this,aLc]
   generalize mDos l b.2.1 b.2.2.2 0 [] S=q at *;by_cases h3:q.1=0
   ·obtain⟨d1,d2,d3⟩:=hd h3
    have hr:=QhV hb.h
    rw[if_pos h3,if_pos h3,Sum.elim_inl,hr.2.1,aLc];simp only[Qlt,aLc];rw[QY (by omega) (by omega)]
    by_cases h4:1000000<mRw b.2.1+q.2.1
    ·rw[aLE h4,if_pos h4];rfl
    ·rw[aLD h4,if_neg h4,aLC]
     rw[Qge d1.c hid (by simp) (fun o ho=>(QiL ⟨by omega,by omega⟩ hk o ho).1) hh true,aLc,QK]
     split<;>rfl
   ·rw[if_neg h3,if_neg h3];rfl
  ·rw[if_neg h2]
   by_cases h3:b.1=S.1
   ·have h4:¬b.2.1=IntKind.wrap .i64 (S.2.1+1):=fun h=>h2 ⟨h3,h⟩
    rw[aLE h3,aLD h4];rfl
   ·rw[aLD h3];rfl
 ·rfl
end GL
end Go.Dx
set_option maxHeartbeats 2000000
namespace Go.Dx
namespace GL
abbrev TN:=Int×Int×Int
theorem QjP (l:List TN) (I:l.length<BIG) (p:TN->Bool) (f:TN->Option Bool) (J:∀a,a ∈ l->f a=some (p a)):Zb l f=some (idxF p l):=by
 unfold Zb;refine Jl l p _ (fun i h=>?_) (by simp only[dge,aLC])
 simp only[dlt h,Qb l i h,Qa l i _ h,aLB,J _ (aLl h),aLc,wsucc h I];cases p l[i]<;>rfl
def idT (t:List TN) (id:Int):Int:=idxF (fun n=>decide (n.1=id)) t
theorem Qaf (t:List TN) (I:t.length<BIG) (id:Int):ZM t id=some (idT t id):=by
 unfold ZM idT;rw[QjP t I (fun n=>decide (n.1=id)) _ (fun a _=>by unfold Qcy;rfl)]
 rfl
theorem JE (t:List TN) (I:t.length<BIG) (id:Int):YY t id=some (idT t id):=by
 unfold YY idT;refine Jl t _ _ (fun i h=>?_) (by simp only[dge,aLC])
 simp only[dlt h,Qb t i h,Qa t i _ h,aLB,wsucc h I];cases decide (t[i].1=id)<;>rfl
theorem QeN {t:List TN} {id:Int} (h:¬idT t id<0):inB (idT t id) t=true:=QsP (by unfold idT at h;omega)
theorem QhB (x:Int):decide (0<=x) = !decide (x<0):=by
 by_cases h:x<0
 ·rw[aLE h,aLD (by omega)];rfl
 ·rw[aLD h,aLE (by omega)];rfl
def Qfx (t:List TN) (n:TN):Int:=
 if mIn n.1 1 60&&mIn n.2.2 1 40 then
  if idT t n.1<0 then
   if n.2.1=0 then (if n.2.2=1 then 0 else 1)
   else if idT t n.2.1<0 then 4 else if n.2.2=IntKind.wrap .i64 ((List.getD t (Int.toNat (idT t n.2.1)) (0,(0,0))).2.2+1) then 0 else 1
  else 7
 else 3
theorem QjJ (t:List TN) (ht:t.length<BIG) (n:TN):Qbo t n=some (Qfx t n):=by
 unfold Qbo Qfx;simp only[Qaf t ht,Qde,Zf,aLc,QhB];by_cases U:n.2.1=0
 ·simp only[U,decide_true,Bool.not_true,aLC,aLc,if_true]
  cases mIn n.1 1 60<;>cases mIn n.2.2 1 40<;>by_cases h1:idT t n.1<0<;>by_cases I:n.2.2=1<;>simp[h1,I]
 ·simp only[U,decide_false,Bool.not_false,aLB,aLc,if_false]
  by_cases J:idT t n.2.1<0
  ·simp only[J,decide_true,Bool.not_true,aLC,aLc,if_true]
   cases mIn n.1 1 60<;>cases mIn n.2.2 1 40<;>by_cases h1:idT t n.1<0<;>simp[h1]
  ·simp only[J,decide_false,Bool.not_false,aLB,QeN J,aLc,if_false]
   generalize IntKind.wrap .i64 ((List.getD t (Int.toNat (idT t n.2.1)) (0,(0,0))).2.2+1)=hh;cases mIn n.1 1 60<;>cases mIn n.2.2 1 40<;>by_cases h1:idT t n.1<0<;>by_cases I:n.2.2=hh<;>simp[h1,I]
theorem Qmm (t:List TN) (ht:t.length<BIG) (n:TN):QdA t n=some (Qfx t n):=by
 unfold QdA Qfx;simp only[JE t ht,Zm,aLc,QhB];by_cases U:n.2.1=0
 ·simp only[U,decide_true,Bool.not_true,aLC,aLc,if_true,Sum.elim_inl,show IntKind.wrap .i64 ((0:Int)+1)=1 from by decide]
  cases mIn n.1 1 60<;>cases mIn n.2.2 1 40<;>by_cases h1:idT t n.1<0<;>by_cases I:n.2.2=1<;>simp[h1,I]
 ·simp only[U,decide_false,Bool.not_false,aLB,aLc,if_false]
  by_cases J:idT t n.2.1<0
  ·simp only[J,decide_true,aLB,aLc,Sum.elim_inr,if_true]
   cases mIn n.1 1 60<;>cases mIn n.2.2 1 40<;>by_cases h1:idT t n.1<0<;>simp[h1]
  ·simp only[J,decide_false,aLC,aLB,QeN J,aLc,Sum.elim_inl,if_false]
   generalize IntKind.wrap .i64 ((List.getD t (Int.toNat (idT t n.2.1)) (0,(0,0))).2.2+1)=hh;cases mIn n.1 1 60<;>cases mIn n.2.2 1 40<;>by_cases h1:idT t n.1<0<;>by_cases I:n.2.2=hh<;>simp[h1,I]
def ZN (t:List TN):Int:=if (60:Int)<(t.length:Int) then 2 else code (fun i n=>Qfx (t.take i) n) t
theorem QjY (t:List TN) (I:t.length<BIG):Qbc t=some (ZN t):=by
 unfold Qbc ZN;by_cases J:(60:Int)<(t.length:Int)
 ·simp only[J,decide_true,aLB,if_true]
 ·simp only[J,decide_false,aLC,if_false]
  refine JD t _ _ (fun i h=>?_) (by simp only[dge,aLC])
  simp only[dlt h,Qb t i h,ZR t i (Nat.le_of_lt h),Y9,Qa t i _ h,aLB,QjJ _ (YR I i),aLc,wsucc h I,QK];split<;>rfl
theorem Qk0 (t:List TN) (I:t.length<BIG):QcE t=some (ZN t):=by
 unfold QcE ZN;by_cases J:(60:Int)<(t.length:Int)
 ·simp only[J,decide_true,aLB,if_true]
 ·simp only[J,decide_false,aLC,if_false]
  refine JD t _ _ (fun i h=>?_) (by simp only[dge,aLC])
  simp only[dlt h,Qb t i h,ZR t i (Nat.le_of_lt h),Y9,Qa t i _ h,aLB,Qmm _ (YR I i),aLc,wsucc h I,QK];split<;>rfl
structure Right (t:List TN):Prop where
 len:t.length<=60
 id:∀i (h:i<t.length),1<=t[i].1
 prev:∀i (h:i<t.length),t[i].2.1 ≠ 0->∃j,∃(hj:j<i),(t[j]'(by omega)).1=t[i].2.1
theorem Yz {t:List TN} (h:ZN t=0):Right t:=by
 unfold ZN at h;by_cases U:(60:Int)<(t.length:Int)
 ·rw[if_pos U] at h;cases h
 ·rw[if_neg U] at h
  have hc:=Yh h
  refine⟨by omega,fun i hi=>?_,fun i hi hp=>?_⟩
  ·have:=hc i _ (aLf hi)
   unfold Qfx at this;split at this
   ·rename_i hh
    simp only[aLg,mIn,aLF] at hh;exact hh.1.1
   ·cases this
  ·have:=hc i _ (aLf hi)
   unfold Qfx at this;split at this
   ·split at this
    ·(try rw[if_neg hp] at this)
     split at this
     ·cases this
     ·rename_i hq
      unfold idT at hq;have I:(t.take i).any (fun n=>decide (n.1=t[i].2.1))=true:=by
       rw[<-ZH];simp;omega
      obtain⟨k,hk,_,J,_⟩:=Qc8 I;simp only[aLn] at hk;rw[List.getElem_take] at J;exact⟨k,by omega,by simpa using J⟩
    ·cases this
   ·cases this
def up (t:List TN):Nat->Int->List Int
 | 0,_=>[]
 | n+1,b=>if idT t b<0 then [] else b::up t n (List.getD t (Int.toNat (idT t b)) (0,(0,0))).2.1
theorem Qm5 (t:List TN):∀n b,(up t n b).length<=n
 | 0,b=>by simp[up]
 | n+1,b=>by
  unfold up;split
  ·simp
  ·simp[Qm5 t n]
theorem Qam {t:List TN} {b:Int} (h:¬idT t b<0):∃(k:Nat) (hk:k<t.length),idT t b=(k:Int)/\t[k].1=b/\∀j (hj:j<k),(t[j]'(by omega)).1 ≠ b:=by
 have I:t.any (fun n=>decide (n.1=b))=true:=by
  rw[<-ZH];unfold idT at h;simp;omega
 obtain⟨k,hk,h1,J,U⟩:=Qc8 I;exact⟨k,hk,h1,by simpa using J,fun j hj=>by simpa using U j hj⟩
theorem Qom {t:List TN} {b:Int} {j:Nat} (hj:j<t.length) (h:t[j].1=b):¬idT t b<0/\idT t b<=(j:Int):=by
 have h1:¬idT t b<0:=by
  intro hh;have:=(Qga _ _).1 hh
  rw[List.any_eq_false] at this;exact this _ (aLl hj) (by simpa using h)
 refine⟨h1,?_⟩;obtain⟨k,hk,I,U,J⟩:=Qam h1;rw[I];rcases Nat.lt_or_ge j k with hh | hh
 ·exact absurd h (J j hh)
 ·omega
def pos (t:List TN) (b:Int):Nat:=(idT t b+1).toNat
theorem Right.zero {t:List TN} (h:Right t):idT t 0<0:=by
 rcases Int.lt_or_le (idT t 0) 0 with hh | hh
 ·exact hh
 ·obtain⟨k,hk,_,I,_⟩:=Qam (t:=t) (b:=0) (by omega)
  have:=h.id k hk;omega
theorem Right.down {t:List TN} (h:Right t) {b:Int} (hb:¬idT t b<0):pos t (List.getD t (Int.toNat (idT t b)) (0,(0,0))).2.1<pos t b:=by
 obtain⟨k,hk,h1,U,h3⟩:=Qam hb;rw[h1,Int.toNat_natCast,getD_at t k _ hk];unfold pos;rw[h1];by_cases J:t[k].2.1=0
 ·rw[J];have:=h.zero;omega
 ·obtain⟨j,hj,I⟩:=h.prev k hk J
  obtain⟨_,h5⟩:=Qom (t:=t) (j:=j) (by omega) I
  omega
theorem QnV (t:List TN) (b:Int):pos t b<=t.length:=by
 unfold pos;rcases Int.lt_or_le (idT t b) 0 with hh | hh
 ·have:=(Qk8 _ _).1 hh;unfold idT;rw[this];simp
 ·obtain⟨k,hk,h1,_⟩:=Qam (t:=t) (b:=b) (by omega)
  rw[h1];omega
def Qfe (t:List TN) (a b:Int):Bool:=decide (a ∈ up t t.length b)
theorem Qg3 (t:List TN) (ht:t.length<BIG) (hR:Right t) (a b:Int):Qa0 t a b=some (Qfe t a b):=by
 unfold Qa0 Qfe;generalize hf:(fun (s10:Int)=>_)=f
 have key:∀(n:Nat) (b:Int),pos t b<=n->((Qc f b).bind fun (j12:Unit⊕Bool)=>Sum.elim (fun _=>some false) (fun j=>some j) j12)=some (decide (a ∈ up t n b)):=by
  intro n;induction n with
  | zero=>
   intro b hb;have I:idT t b<0:=by unfold pos at hb;omega
   by_cases U:b=0
   ·rw[Qh (x:=Sum.inl ()) (by rw[<-hf];simp[U])];simp[up]
   ·rw[Qh (x:=Sum.inr false) (by rw[<-hf];simp[U,JE t ht,I])];simp[up]
  | succ n ih=>
   intro b hb;unfold up;by_cases I:idT t b<0
   ·rw[if_pos I]
    by_cases U:b=0
    ·rw[Qh (x:=Sum.inl ()) (by rw[<-hf];simp[U])];simp
    ·rw[Qh (x:=Sum.inr false) (by rw[<-hf];simp[U,JE t ht,I])];simp
   ·rw[if_neg I]
    have U:b ≠ 0:=by rintro rfl;exact I hR.zero
    by_cases J:a=b
    ·rw[Qh (x:=Sum.inr true) (by rw[<-hf];simp[U,JE t ht,I,J])];simp[J]
    ·rw[Qv (s':=(List.getD t (Int.toNat (idT t b)) (0,(0,0))).2.1) (by rw[<-hf];simp[U,JE t ht,I,J,QeN I]),ih _ (by have:=hR.down I;omega)]
     simp[J]
 exact key t.length b (QnV t b)
theorem Qic (t:List TN) (U:Right t) (b:Int):Qbu t b=some (up t t.length b).reverse:=by
 have ht:t.length<BIG:=by have:=U.len;unfold BIG;omega
 unfold Qbu;rw[Qaf t ht,aLc];generalize hf:(fun (s11:List Int×Int)=>_)=f
 have key:∀(n:Nat) (b:Int) (acc:List Int),pos t b<=n->acc.length+n<=60->Qc f (acc,idT t b)=some (acc++up t n b):=by
  intro n;induction n with
  | zero=>
   intro b acc hb hl;have I:idT t b<0:=by unfold pos at hb;omega
   rw[Qh (x:=acc) (by rw[<-hf];simp[show ¬0<=idT t b by omega])];simp[up]
  | succ n ih=>
   intro b acc hb hl;unfold up;by_cases I:idT t b<0
   ·rw[if_pos I,Qh (x:=acc) (by rw[<-hf];simp[show ¬0<=idT t b by omega])];simp
   ·rw[if_neg I]
    obtain⟨k,hk,h1,h2,h3⟩:=Qam I;have hid:(List.getD t (Int.toNat (idT t b)) (0,(0,0))).1=b:=by rw[h1,Int.toNat_natCast,getD_at t k _ hk,h2]
    have J:decide (List.length acc+List.length [b]<=LIM)=true:=Qk9 acc b 60 (by omega) (by decide)
    rw[Qv (s':=(acc++[b],idT t (List.getD t (Int.toNat (idT t b)) (0,(0,0))).2.1)) (by
     rw[<-hf];simp only[show decide (0<=idT t b)=true by simp;omega,aLB,QeN I,hid,J,Qaf t ht,aLc];rfl),ih _ _ (by have:=U.down I;omega) (by simp;omega)]
    simp
 rw[key t.length b [] (QnV t b) (by simpa using U.len),aLc]
 unfold YG;have hl:=Qm5 t t.length b
 have:=U.len
 rw[show Nat.ble (List.length ([]++up t t.length b)) 9223372036854775807=true from by rw[Nat.ble_eq];simp;omega]
 simp
theorem Qhe (t:List TN) (I:Right t) (a b:Int):QaV t a b=some (Qfe t a b):=by
 unfold QaV Qfe;have J:=Qm5 t t.length b
 have:=I.len
 rw[Qic t I,aLc,Qg9 _ (by rw[List.length_reverse];unfold BIG;omega)]
 simp
def mRel (t:List TN) (a b:Int):Bool:=Qfe t a b || Qfe t b a
theorem Qro (t:List TN) (a b:Int):mRel t a b=mRel t b a:=Bool.or_comm _ _
theorem Qhf (t:List TN) (I:Right t) (a b:Int):Qa2 t a b=some (mRel t a b):=by
 unfold Qa2 mRel;rw[Qhe t I,Qhe t I];cases Qfe t a b<;>rfl
theorem Y2 {t:List TN} (I:Right t):t.length<BIG:=by have:=I.len;unfold BIG;omega
theorem QfY (t:List TN) (I:Right t) (a b:Int):JV t a b=some (mRel t a b):=by
 unfold JV mRel;rw[Qg3 t (Y2 I) I,Qg3 t (Y2 I) I];cases Qfe t a b<;>rfl
theorem Ql1 {t:List TN} (h:ZN t=0):∀i (hi:i<t.length),1<=t[i].2.2/\t[i].2.2<=40:=by
 unfold ZN at h;by_cases I:(60:Int)<(t.length:Int)
 ·rw[if_pos I] at h;cases h
 ·rw[if_neg I] at h
  intro i hi;have:=Yh h i _ (aLf hi)
  unfold Qfx at this;split at this
  ·rename_i hh
   simp only[aLg,mIn,aLF] at hh;exact hh.2
  ·cases this
def QeX (t:List TN) (k:Int):Int:=(List.getD t (Int.toNat (idT t k)) (0,(0,0))).2.2
def mBad (t:List TN) (n:TN) (k:Int):Bool:=!mRel t k n.1 || decide (n.2.2<QeX t k)
def QeU (t:List TN) (n:TN) (l:List Int):Bool:=!l.any (mBad t n)
theorem Qmq (t:List TN) (J:Right t) (n:TN) (l:List Int) (U:l.length<BIG) (I:∀k,k ∈ l->¬idT t k<0):Qdl t n l=some (QeU t n l):=by
 unfold Qdl QeU;rw[JA l (fun _ k=>if mBad t n k then some false else none) _ (fun i h=>?_) (by simp only[dge,aLC]),Qe8,Qao]
 ·cases l.any (mBad t n)<;>rfl
 ·simp only[dlt h,Qb _ i h,Qa _ i _ h,aLB,QfY t J,JE t (Y2 J),aLc,wsucc h U,QeN (I _ (aLl h))]
  unfold mBad QeX;rw[Qro t l[i] n.1];cases mRel t n.1 l[i]
  ·rfl
  ·generalize (List.getD t (Int.toNat (idT t l[i])) (0,(0,0))).2.2=hh
   by_cases hd:n.2.2<hh<;>simp[hd]
theorem QoN (t:List TN) (J:Right t) (n:TN) (k:Int) (I:¬idT t k<0):Qa7 k t n=some (mBad t n k):=by
 unfold Qa7 mBad QeX;simp only[Qhf t J,Qaf t (Y2 J),aLc,QeN I,aLB];cases mRel t k n.1
 ·rfl
 ·by_cases hd:n.2.2<(List.getD t (Int.toNat (idT t k)) (0,(0,0))).2.2<;>simp[hd]
def YV (t:List TN) (l:List Int) (b n:TN):TN:=if QeU t n l&&decide (b.2.2<n.2.2) then n else b
theorem QmI (t:List TN) (J:Right t) (l:List Int) (U:l.length<BIG) (I:∀k,k ∈ l->¬idT t k<0):QdR t l=some (t.foldl (YV t l) (0,0,0)).1:=by
 unfold QdR;rw[Zu t (YV t l) (fun b i=>(i,b)) (fun b=>b) (fun _ _=>True) _ (fun i h b _=>?_) (fun b _=>by simp only[dge,aLC]) (0,0,0) trivial]
 ·rfl
 ·refine⟨?_,trivial⟩
  simp only[dlt h,Qb _ i h,Qa _ i _ h,aLB,wsucc h (Y2 J)];rw[Qck l U (mBad t t[i]) _ (fun k hk=>by rw[QoN t J _ _ (I k hk)];rfl),aLc]
  unfold YV QeU;cases l.any (mBad t t[i])
  ·by_cases hd:b.2.2<t[i].2.2<;>simp[hd]
  ·simp
theorem QmK (t:List TN) (hR:Right t) (hH:∀i (hi:i<t.length),1<=t[i].2.2) (l:List Int) (hl:l.length<BIG) (hin:∀k,k ∈ l->¬idT t k<0):Qdw t l=some (t.foldl (YV t l) (0,0,0)).1:=by
 unfold Qdw;generalize hf:(fun (s23:Int×Int)=>_)=f
 have hB:=Y2 hR
 have key:∀(n i:Nat) (k:Int) (b:TN),i+n=t.length->((k = -1/\b=(0,0,0))\/∃(j:Nat) (hj:j<t.length),k=(j:Int)/\b=t[j])->
   ∃k',Qc f (k,(i:Int))=some k'/\((k' = -1/\(t.drop i).foldl (YV t l) b=(0,0,0))\/∃(j:Nat) (hj:j<t.length),k'=(j:Int)/\(t.drop i).foldl (YV t l) b=t[j]):=by
  intro n;induction n with
  | zero=>
   intro i k b hi J;obtain rfl:i=t.length:=by omega
   refine⟨k,Qh (by rw[<-hf];simp only[dge,aLC]),?_⟩
   rw[List.drop_length];exact J
  | succ n ih=>
   intro i k b hi J;have h:i<t.length:=by omega
   rw[aLr h,List.foldl_cons];have hstep:f (k,(i:Int))=some (.inl (if QeU t t[i] l&&decide (b.2.2<t[i].2.2) then (i:Int) else k,((i+1:Nat):Int))):=by
    rw[<-hf];simp only[dlt h,Qb _ i h,Qa _ i _ h,aLB,Qmq t hR _ l hl hin,aLc,wsucc h hB];rcases J with ⟨rfl,rfl⟩ | ⟨j,hj,rfl,rfl⟩
    ·have h1:=hH i h
     have hd:(0:Int)<t[i].2.2:=by omega
     cases QeU t t[i] l<;>simp[hd]
    ·have I:¬(j:Int)<0:=by omega
     cases QeU t t[i] l
     ·simp
     ·simp only[I,decide_false,aLB,aLC,Qb _ j hj,Qa _ j _ hj,aLc,Bool.true_and]
      by_cases hd:t[j].2.2<t[i].2.2<;>simp[hd]
   obtain⟨k',h1,U⟩:=ih (i+1) (if QeU t t[i] l&&decide (b.2.2<t[i].2.2) then (i:Int) else k) (YV t l b t[i]) (by omega) (by
    unfold YV;cases hq:QeU t t[i] l&&decide (b.2.2<t[i].2.2) with
    | true=>exact .inr ⟨i,h,by simp,by simp⟩
    | false=>simpa using J)
   exact⟨k',(Qv hstep).trans h1,U⟩
 obtain⟨k',h1,U⟩:=key t.length 0 (-1) (0,0,0) (by omega) (.inl ⟨rfl,rfl⟩)
 rw[show ((0:Nat):Int)=0 from rfl] at h1
 rw[h1,aLc];simp only[List.drop_zero] at U;rcases U with ⟨rfl,U⟩ | ⟨j,hj,rfl,U⟩
 ·rw[U];rfl
 ·rw[U]
  have I:¬(j:Int)<0:=by omega
  simp only[I,decide_false,aLC,Qb _ j hj,Qa _ j _ hj,aLB]
theorem Qsi {t:List TN} {b:Int} {i:Nat} (hi:i<=t.length) (h:¬idT (t.take i) b<0):idT t b=idT (t.take i) b:=by
 obtain⟨k,hk,h1,U,h3⟩:=Qam h;rw[aLn] at hk;rw[List.getElem_take] at U;obtain⟨n1,n2⟩:=Qom (t:=t) (j:=k) (by omega) U
 obtain⟨k',hk',I,J,h3'⟩:=Qam n1;rw[h1,I];rcases Nat.lt_or_ge k' k with hh | hh
 ·have:=h3 k' hh
  rw[List.getElem_take] at this;exact absurd J this
 ·rw[I] at n2;omega
structure Qqw (t:List TN) (n:TN):Prop where
 id:1<=n.1/\n.1<=60
 h:1<=n.2.2/\n.2.2<=40
 up:n.2.1 ≠ 0->¬idT t n.2.1<0/\n.2.2=QeX t n.2.1+1
theorem Qtb {t:List TN} (h:ZN t=0) (i:Nat) (hi:i<t.length):Qqw t t[i]:=by
 have hR:=Yz h
 have J:=Ql1 h
 unfold ZN at h;by_cases hl:(60:Int)<(t.length:Int)
 ·rw[if_pos hl] at h;cases h
 ·rw[if_neg hl] at h
  have I:=Yh h i _ (aLf hi)
  unfold Qfx at I;split at I
  ·rename_i hh
   rw[aLg,QE,QE] at hh;refine⟨hh.1,hh.2,fun hp=>?_⟩
   split at I
   ·(try rw[if_neg hp] at I)
    split at I
    ·cases I
    ·rename_i U
     have he:=Qsi (Nat.le_of_lt hi) U
     refine⟨by rw[he];exact U,?_⟩
     split at I
     ·rename_i hv
      unfold QeX;rw[he];obtain⟨k,hk,k1,k2,_⟩:=Qam U;rw[aLn] at hk;rw[k1,Int.toNat_natCast] at hv ⊢;have e1:List.getD (t.take i) k (0,(0,0))=t[k]:=by rw[getD_at _ k _ (by rw[aLn];omega),List.getElem_take]
      rw[e1] at hv;rw[getD_at t k _ (by omega)]
      have q:=J k (by omega)
      rw[hv];exact QY (by omega) (by omega)
     ·cases I
   ·cases I
  ·cases I
theorem Qg6 {t:List TN} (h:ZN t=0) {b:Int} (hb:¬idT t b<0):Qqw t (List.getD t (Int.toNat (idT t b)) (0,(0,0)))/\(List.getD t (Int.toNat (idT t b)) (0,(0,0))).1=b:=by
 obtain⟨k,hk,h1,I,_⟩:=Qam hb;rw[h1,Int.toNat_natCast,getD_at t k _ hk];exact⟨Qtb h k hk,I⟩
theorem Qpe {t:List TN} (h:ZN t=0):∀(n:Nat) (b:Int),¬idT t b<0->((up t n b).length:Int)<=QeX t b
 | 0,b,hb=>by
  have:=(Qg6 h hb).1.h
  show ((0:Nat):Int)<=_
  unfold QeX;omega
 | n+1,b,hb=>by
  unfold up;rw[if_neg hb,aLh];have I:=(Qg6 h hb).1
  have h1:=I.h
  by_cases J:(List.getD t (Int.toNat (idT t b)) (0,(0,0))).2.1=0
  ·rw[J]
   have:up t n 0=[]:=by
    cases n with
    | zero=>rfl
    | succ n=>unfold up;rw[if_pos (Yz h).zero]
   rw[this];unfold QeX;show ((0+1:Nat):Int)<=_
   omega
  ·obtain⟨U,q2⟩:=I.up J
   have:=Qpe h n _ U
   unfold QeX at this ⊢ q2;omega
theorem Qr0 {t:List TN} (h:ZN t=0) (b:Int):(up t t.length b).length<=40:=by
 by_cases hb:idT t b<0
 ·have:up t t.length b=[]:=by
   cases t.length with
   | zero=>rfl
   | succ n=>unfold up;rw[if_pos hb]
  rw[this];simp
 ·have h1:=Qpe h t.length b hb
  have I:=(Qg6 h hb).1.h
  unfold QeX at h1;omega
def Jc (t:List TN) (b:Int):List Int:=(up t t.length b).reverse
theorem QhZ {t:List TN} (h:ZN t=0) {b:Int} (hb:b=0\/¬idT t b<0):Qbv t b=some (Jc t b):=by
 have hR:=Yz h
 have hB:=Y2 hR
 have J:=hR.len
 unfold Qbv Jc;generalize hf:(fun (s8:Int×List Int)=>_)=f
 have key:∀(n:Nat) (b:Int) (acc:List Int),(b=0\/¬idT t b<0)->pos t b<=n->acc.length+n<=60->Qc f (b,acc)=some ((up t n b).reverse++acc):=by
  intro n;induction n with
  | zero=>
   intro b acc hb U hl;have I:idT t b<0:=by unfold pos at U;omega
   rcases hb with rfl | hb
   ·exact Qh (by rw[<-hf];simp[up])
   ·exact absurd I hb
  | succ n ih=>
   intro b acc hb U hl;unfold up;by_cases I:idT t b<0
   ·rcases hb with rfl | hb
    ·rw[if_pos I];exact Qh (by rw[<-hf];simp)
    ·exact absurd I hb
   ·rw[if_neg I]
    have h0:b ≠ 0:=by rintro rfl;exact I hR.zero
    have hn:=(Qg6 h I).1
    rw[Qv (s':=((List.getD t (Int.toNat (idT t b)) (0,(0,0))).2.1,b::acc)) (by
     rw[<-hf];simp only[h0,decide_false,Bool.not_false,aLB,JE t hB,aLc,QeN I];rw[Qe (by simp only[aLh,aLj];unfold LIM;omega)];rfl),ih _ _ (by
      by_cases U:(List.getD t (Int.toNat (idT t b)) (0,(0,0))).2.1=0
      ·exact .inl U
      ·exact .inr (hn.up U).1) (by have:=hR.down I;omega) (by simp;omega)]
    simp
 rw[key t.length b [] hb (QnV t b) (by simpa using J),aLc,List.append_nil]
end GL
end Go.Dx
set_option maxHeartbeats 2000000
namespace Go.Dx
namespace GL
def noSt:TState:=(0,(0,([],[])))
theorem Qg5:okSt noSt:=⟨rfl,by refine⟨?_,by decide⟩;unfold J4;simp[noSt]⟩
noncomputable def Zp (l:TL):List Int->Int->List TUn->TState->TRs×List TUn
 | [],f,us,S=>((0,(f,((0,([],[])),S))),us)
 | i::r,f,us,S=>if (QH l S i).1=0 then Zp l r (IntKind.wrap .i64 (f+(QH l S i).2.1)) (us++[(QH l S i).2.2.1]) (QH l S i).2.2.2 else (badR (QH l S i).1,[])
noncomputable def Z0 (l:TL) (ids:List Int):TRs×List TUn:=Zp l ids 0 [] noSt
theorem QtM {l:TL} (U:mLF l=0) {ids:List Int} (hn:ids.length<=40):Y0 l ids=some (Z0 l ids):=by
 have hB:BIG=4611686018427387904:=rfl
 unfold Y0 Z0;generalize hg:(fun (s10:List TUn×Int×TRs)=>_)=g
 have key:∀(d i:Nat) (f:Int) (us:List TUn) (S:TState),i+d=ids.length->okSt S->us.length=i->Qc g (us,((i:Int),(0,(f,((0,([],[])),S)))))=some (if (Zp l (ids.drop i) f us S).1.1=0 then Sum.inl ((Zp l (ids.drop i) f us S).2,(Zp l (ids.drop i) f us S).1) else Sum.inr ((Zp l (ids.drop i) f us S).2,(Zp l (ids.drop i) f us S).1)):=by
  intro d;induction d with
  | zero=>
   intro i f us S hi _ _;obtain rfl:i=ids.length:=by omega
   rw[Qh (show g (us,((ids.length:Int),(0,(f,((0,([],[])),S)))))=some (.inr (.inl (us,(0,(f,((0,([],[])),S)))))) by rw[<-hg];simp only[dge,aLC]),List.drop_length]
   rfl
  | succ d ih=>
   intro i f us S hi hS hu;have J:i<ids.length:=by omega
   rw[aLr J];unfold Zp;have I:g (us,((i:Int),(0,(f,((0,([],[])),S)))))=if (QH l S ids[i]).1=0 then some (.inl (us++[(QH l S ids[i]).2.2.1],(((i+1:Nat):Int),(0,(IntKind.wrap .i64 (f+(QH l S ids[i]).2.1),((0,([],[])),(QH l S ids[i]).2.2.2)))))) else some (.inr (.inr ([],badR (QH l S ids[i]).1))):=by
    rw[<-hg];simp only[dlt J,Qb _ i J,Qa _ i _ J,aLB,QqJ U hS,aLc,wsucc J (show ids.length<BIG by omega),QK]
    split
    ·rw[Qe (by simp only[aLh,aLj];unfold LIM;omega)];rfl
    ·rfl
   by_cases hd:(QH l S ids[i]).1=0
   ·rw[if_pos hd] at I ⊢
    rw[Qv I,ih (i+1) _ _ _ (by omega) (Qeg U hS hd).1 (by simp[hu])]
   ·rw[if_neg hd] at I ⊢
    rw[Qh I];show _=some (if (QH l S ids[i]).1=0 then _ else _)
    rw[if_neg hd]
 have:=key ids.length 0 0 [] noSt (by omega) Qg5 rfl
 rw[List.drop_zero] at this;show ((Qc g ([],(0,(0,(0,((0,([],[])),noSt)))))).bind _)=_
 rw[show ((0:Nat):Int)=0 from rfl] at this
 rw[this,aLc];split<;>rfl
theorem Qim {l:TL} (U:mLF l=0) {ids:List Int} (hn:ids.length<=40):Jv l ids=some (Z0 l ids).1:=by
 have hB:BIG=4611686018427387904:=rfl
 unfold Jv Z0;obtain⟨_,_,b1,b2⟩:=Qrb U;rw[aLD (by omega),aLC,QaY l (by omega) (by omega),aLc,QK,if_pos U]
 generalize hg:(fun (s21:Int×TL×TRs)=>_)=g
 have key:∀(d i:Nat) (f:Int) (us:List TUn) (S:TState),i+d=ids.length->okSt S->Qc g ((i:Int),(l,(0,(f,((0,([],[])),S)))))=some (if (Zp l (ids.drop i) f us S).1.1=0 then Sum.inl (Zp l (ids.drop i) f us S).1 else Sum.inr (Zp l (ids.drop i) f us S).1):=by
  intro d;induction d with
  | zero=>
   intro i f us S hi _;obtain rfl:i=ids.length:=by omega
   rw[Qh (show g ((ids.length:Int),(l,(0,(f,((0,([],[])),S)))))=some (.inr (.inl (0,(f,((0,([],[])),S))))) by rw[<-hg];simp only[dge,aLC]),List.drop_length]
   rfl
  | succ d ih=>
   intro i f us S hi hS;have J:i<ids.length:=by omega
   rw[aLr J];unfold Zp;have I:g ((i:Int),(l,(0,(f,((0,([],[])),S)))))=if (QH l S ids[i]).1=0 then some (.inl (((i+1:Nat):Int),(l,(0,(IntKind.wrap .i64 (f+(QH l S ids[i]).2.1),((0,([],[])),(QH l S ids[i]).2.2.2)))))) else some (.inr (.inr (badR (QH l S ids[i]).1))):=by
    rw[<-hg];simp only[dlt J,Qb _ i J,Qa _ i _ J,aLB,Qjh U hS,aLc,wsucc J (show ids.length<BIG by omega),QK,Qlt]
   by_cases hd:(QH l S ids[i]).1=0
   ·rw[if_pos hd] at I ⊢
    rw[Qv I,ih (i+1) _ (us++[(QH l S ids[i]).2.2.1]) _ (by omega) (Qeg U hS hd).1]
   ·rw[if_neg hd] at I ⊢
    rw[Qh I];show _=some (if (QH l S ids[i]).1=0 then _ else _)
    rw[if_neg hd]
 have:=key ids.length 0 0 [] noSt (by omega) Qg5
 rw[List.drop_zero] at this;show ((Qc g (0,(l,(0,(0,((0,([],[])),noSt)))))).bind _)=_
 rw[show ((0:Nat):Int)=0 from rfl] at this
 rw[this,aLc];split<;>rfl
theorem Qqh {S:TState} (I:okSt S):Qhg S:=
 ⟨⟨by have:=(YK I.c).1;omega,fun c J=>⟨by have:=YP I.c c J;omega,fun _ _=>trivial⟩⟩,⟨by have:=I.m.2;omega,fun _ _=>trivial⟩⟩
theorem QqS {l:TL} (U:mLF l=0) {h:Int} (hh:mIn h 0 999=true):∀(ids:List Int) (f:Int) (sp:List (List TCoin)) (S:TState),okSt S->(∀s,s ∈ sp->bL YX s)->∀s,s ∈ (mDos l h ids f sp S).2.2.1->bL YX s
 | [],f,sp,S,_,J=>J
 | i::r,f,sp,S,hS,J=>by
  unfold mDos;by_cases hd:(mDo l S i h).2.2.1=0
  ·rw[if_pos hd]
   refine QqS U hh r _ _ _ (QhR U hS hh hd).1 fun s I=>?_
   rcases List.mem_append.1 I with I | I
   ·exact J s I
   ·rw[aLs.1 I]
    have hb:=(Qqh hS).1
    unfold mDo;split
    ·split
     ·split
      ·split
       ·exact⟨Nat.le_trans (List.length_filter_le _ _) hb.1,fun c hc=>hb.2 c (Qiw hc)⟩
       ·exact⟨by simp,fun _ h=>by simp at h⟩
      ·exact⟨by simp,fun _ h=>by simp at h⟩
     ·exact⟨by simp,fun _ h=>by simp at h⟩
    ·exact⟨by simp,fun _ h=>by simp at h⟩
  ·rw[if_neg hd]
   intro s I;simp at I
theorem Qqx {l:TL} (hl:mLF l=0) {S:TState} (J:okSt S) {id:Int} (I:(QH l S id).1=0):Qal (QH l S id).2.2.1:=by
 unfold QH at I ⊢;by_cases h1:(mBI l id).2=0
 ·rw[if_pos h1] at I ⊢
  obtain⟨hb,hid,hh,hk,hd⟩:=Qfj hl J h1;have hsp:=QqS hl hh (mBI l id).1.2.2.2 0 [] S J (fun s hs=>by simp at hs)
  by_cases h2:(mBI l id).1.1=S.1/\(mBI l id).1.2.1=IntKind.wrap .i64 (S.2.1+1)
  ·rw[if_pos h2] at I ⊢
   have hn:=hb.n
   have hlen:=fun h=>(Qiy hl hh (mBI l id).1.2.2.2 0 [] S J (by omega) (by omega) h).2.2.2
   generalize mDos l (mBI l id).1.2.1 (mBI l id).1.2.2.2 0 [] S=q at *;by_cases U:q.1=0
   ·rw[if_pos U] at I ⊢
    have hlen:=hlen U
    by_cases h4:1000000<mRw (mBI l id).1.2.1+q.2.1
    ·rw[if_pos h4] at I;cases I
    ·rw[if_neg h4] at I ⊢
     by_cases h5:(QbQ q.2.2.2.2.2.1 id [(mRw (mBI l id).1.2.1+q.2.1,([(mBI l id).1.2.2.1],(1,0)))] (mBI l id).1.2.1 true).2=0
     ·rw[if_pos h5]
      exact⟨⟨by show q.2.2.1.length<=_;rw[hlen];simp only[aLj];omega,hsp⟩,⟨by have:=J.m.2;show S.2.2.2.length<=_;omega,fun _ _=>trivial⟩⟩
     ·rw[if_neg h5] at I;exact absurd I h5
   ·rw[if_neg U] at I;exact absurd I U
  ·rw[if_neg h2] at I;cases I
 ·rw[if_neg h1] at I;exact absurd I h1
theorem Qkf {l:TL} (U:mLF l=0):∀(ids:List Int) (f:Int) (us:List TUn) (S:TState),okSt S->(∀u,u ∈ us->Qal u)->(Zp l ids f us S).1.1=0->
  okSt (Zp l ids f us S).1.2.2.2/\(Zp l ids f us S).2.length=us.length+ids.length/\(∀u,u ∈ (Zp l ids f us S).2->Qal u)
 | [],f,us,S,J,h0,_=>⟨J,rfl,h0⟩
 | i::r,f,us,S,J,h0,I=>by
  unfold Zp at I ⊢;by_cases hd:(QH l S i).1=0
  ·rw[if_pos hd] at I ⊢
   obtain⟨a,b,c⟩:=Qkf U r _ (us++[(QH l S i).2.2.1]) _ (Qeg U J hd).1 (fun u hu=>by
    rcases List.mem_append.1 hu with hu | hu
    ·exact h0 u hu
    ·rw[aLs.1 hu];exact Qqx U J hd) I
   exact⟨a,by rw[b,aLi,List.length_singleton,aLh];omega,c⟩
  ·rw[if_neg hd] at I;exact absurd I hd
theorem Ql8 (l:TL):∀(ids:List Int) (f:Int) (us:List TUn) (S:TState),(Zp l ids f us S).1.1=0->∀i (hi:i<us.length),(Zp l ids f us S).2[i]? = some us[i]
 | [],f,us,S,_,i,hi=>aLf hi
 | k::r,f,us,S,I,i,hi=>by
  unfold Zp at I ⊢;by_cases hd:(QH l S k).1=0
  ·rw[if_pos hd] at I ⊢
   rw[Ql8 l r _ _ _ I i (by rw[aLi];omega),List.getElem_append_left hi]
  ·rw[if_neg hd] at I;exact absurd I hd
end GL
end Go.Dx
set_option maxHeartbeats 2000000
namespace Go.Dx
namespace GL
theorem Yd (x y:List (List TCoin)) (g:(List TCoin)->(List TCoin)->Option Bool) (hg:∀a b,(bL YX) a->g a b=some (decide (a=b))) (U:bL (bL YX) x):Qs x y g=some (decide (x=y)):=by
 unfold Qs;by_cases I:x.length=y.length
 ·have J:decide ((x.length:Int)=(y.length:Int))=true:=by simp[I]
  rw[J,Bool.not_true,aLC];refine Yl x y I _ (fun i h h'=>?_) (by simp only[dge,aLC])
  simp only[dlt h,Qb x i h,Qb y i h',Qa x i _ h,Qa y i _ h',aLB,QG i _ h U.1,hg _ _ (U.2 _ (aLl h)),aLc];exact YE _
 ·have J:decide ((x.length:Int)=(y.length:Int))=false:=aLD (fun h=>I (by omega))
  rw[J,YC I];rfl
theorem QjH (x y:TUn) (I:Qal x):Qba x y=some (decide (x=y)):=by
 unfold Qba;obtain⟨J,a2,a3⟩:=x;obtain⟨U,b2,b3⟩:=y;rw[Yd _ _ _ (fun a b ha=>by rw[Qf9 a b ha];rfl) I.1,Qe9 _ _ I.2]
 by_cases h1:J=U<;>by_cases h2:a2=b2<;>by_cases h3:a3=b3<;>simp[h1,h2,h3]
theorem Yp (x y:List TUn) (g:TUn->TUn->Option Bool) (hg:∀a b,Qal a->g a b=some (decide (a=b))) (U:bL Qal x):Qy x y g=some (decide (x=y)):=by
 unfold Qy;by_cases I:x.length=y.length
 ·have J:decide ((x.length:Int)=(y.length:Int))=true:=by simp[I]
  rw[J,Bool.not_true,aLC];refine Yl x y I _ (fun i h h'=>?_) (by simp only[dge,aLC])
  simp only[dlt h,Qb x i h,Qb y i h',Qa x i _ h,Qa y i _ h',aLB,QG i _ h U.1,hg _ _ (U.2 _ (aLl h)),aLc];exact YE _
 ·have J:decide ((x.length:Int)=(y.length:Int))=false:=aLD (fun h=>I (by omega))
  rw[J,YC I];rfl
theorem Qmu (x y:TUn) (hx:Qal x):Qai x y=some (decide (x=y)):=by
 unfold Qai;rw[Qh0 _ _ hx.2];by_cases h1:x.1=y.1
 ·by_cases I:x.2.1.length=y.2.1.length
  ·have J:decide ((x.2.1.length:Int)=(y.2.1.length:Int))=true:=by simp[I]
   by_cases U:x.2.2=y.2.2
   ·rw[J,aLE h1,aLE U]
    simp only[Bool.not_true,aLC,aLc];rw[Yl x.2.1 y.2.1 I _ (fun i h h'=>?_) (by simp only[dge,aLC])]
    ·congr 1
     rw[decide_eq_decide];exact⟨fun h=>Prod.ext h1 (Prod.ext h U),fun h=>by rw[h]⟩
    ·simp only[dlt h,Qb _ i h,Qb _ i h',Qa _ i _ h,Qa _ i _ h',aLB,QG i _ h hx.1.1,Qh4 _ _ (hx.1.2 _ (aLl h)),aLc]
     exact YE _
   ·rw[J,aLE h1,aLD U,aLD (p:=x=y) (fun h=>U (by rw[h]))];rfl
  ·have J:decide ((x.2.1.length:Int)=(y.2.1.length:Int))=false:=aLD (fun h=>I (by omega))
   rw[J,aLE h1,aLD (p:=x=y) (fun h=>I (by rw[h]))];rfl
 ·rw[aLD h1,aLD (p:=x=y) (fun h=>h1 (by rw[h]))];rfl
abbrev TC:=TL×List TN×List Int×TState×List TUn
theorem QiY {t:List TN} (h:ZN t=0) (b:Int):(Jc t b).length<=40:=by unfold Jc;rw[List.length_reverse];exact Qr0 h b
theorem Qol {c:TC} (J:mLF c.1=0) (I:ZN c.2.1=0) (b:Int):YJ c b=some (Z0 c.1 (Jc c.2.1 b)):=by
 unfold YJ;rw[Qic _ (Yz I),aLc];show (Y0 c.1 (Jc c.2.1 b)).bind _=_
 rw[QtM J (QiY I b),aLc]
noncomputable def mNd (c:TC) (n:TN):Int:=if (mBI c.1 n.1).2=0 then (if (mBI c.1 n.1).1.1=n.2.1/\(mBI c.1 n.1).1.2.1=n.2.2 then (Z0 c.1 (Jc c.2.1 n.1)).1.1 else 1) else (mBI c.1 n.1).2
theorem Qo5 {t:List TN} (h:ZN t=0) {n:TN} (I:n ∈ t):¬idT t n.1<0:=by
 obtain⟨k,hk,rfl⟩:=List.mem_iff_getElem.1 I;have:=(Qom (t:=t) hk rfl).1
 intro J;revert this;unfold idT at *;omega
theorem Qny {c:TC} (I:mLF c.1=0) (J:ZN c.2.1=0):YH c=some (code (fun _ n=>mNd c n) c.2.1):=by
 unfold YH;refine JD c.2.1 (fun _ n=>mNd c n) _ (fun i hi=>?_) (by simp only[dge,aLC])
 simp only[dlt hi,Qb _ i hi,Qa _ i _ hi,aLB,Qg4 (Qdb I),aLc,Qol I J,wsucc hi (Y2 (Yz J)),QK];unfold mNd;generalize c.2.1[i]=n;by_cases h1:(mBI c.1 n.1).2=0<;>by_cases U:(mBI c.1 n.1).1.1=n.2.1<;>by_cases h3:(mBI c.1 n.1).1.2.1=n.2.2<;>by_cases h4:(Z0 c.1 (Jc c.2.1 n.1)).1.1=0<;>simp[h1,U,h3,h4]
theorem Qpz {c:TC} (J:mLF c.1=0) (I:ZN c.2.1=0):QbX c=some (code (fun _ n=>mNd c n) c.2.1):=by
 unfold QbX;refine JD c.2.1 (fun _ n=>mNd c n) _ (fun i hi=>?_) (by simp only[dge,aLC])
 simp only[dlt hi,Qb _ i hi,Qa _ i _ hi,aLB,Qhl J,aLc,QhZ I (.inr (Qo5 I (aLl hi))),Qim J (QiY I _),wsucc hi (Y2 (Yz I)),QK];unfold mNd;generalize c.2.1[i]=n;by_cases h1:(mBI c.1 n.1).2=0<;>by_cases U:(mBI c.1 n.1).1.1=n.2.1<;>by_cases h3:(mBI c.1 n.1).1.2.1=n.2.2<;>by_cases h4:(Z0 c.1 (Jc c.2.1 n.1)).1.1=0<;>simp[h1,U,h3,h4]
def mLk (c:TC) (i:Nat) (k:Int):Int:=if idT c.2.1 k<0 then 4 else if (c.2.2.1.take i).any (fun a=>!mRel c.2.1 a k)=true then 10 else 0
theorem Qp0 {c:TC} (I:ZN c.2.1=0) (l:List Int) (J:l.length<BIG) (k:Int):Y6 c l k=some (!l.any (fun a=>!mRel c.2.1 a k)):=by
 unfold Y6;rw[Qck l J (fun a=>!mRel c.2.1 a k) _ (fun a _=>by unfold JR;rw[Qhf _ (Yz I)];rfl)];rfl
theorem Qrk {t:List TN} (I:ZN t=0) (l:List Int) (J:l.length<BIG) (k:Int):QcA t l k=some (!l.any (fun a=>!mRel t a k)):=by
 unfold QcA;rw[JA l (fun _ a=>if !mRel t a k then some false else none) _ (fun i h=>?_) (by simp only[dge,aLC]),Qe8,Qao]
 ·cases l.any (fun a=>!mRel t a k)<;>rfl
 ·simp only[dlt h,Qb _ i h,Qa _ i _ h,aLB,QfY t (Yz I),aLc,wsucc h J]
  cases mRel t l[i] k<;>rfl
theorem Qn1 {c:TC} (I:ZN c.2.1=0) (hk:c.2.2.1.length<BIG):YI c=some (code (mLk c) c.2.2.1):=by
 unfold YI;refine JD c.2.2.1 (mLk c) _ (fun i hi=>?_) (by simp only[dge,aLC])
 unfold QgS;simp only[dlt hi,Qb _ i hi,Qa _ i _ hi,aLB,Qaf _ (Y2 (Yz I)),aLc,ZR _ i (Nat.le_of_lt hi),Y9,Qp0 I _ (YR hk i),wsucc hi hk,QhB];unfold mLk;by_cases h1:idT c.2.1 c.2.2.1[i]<0
 ·simp[h1]
 ·cases J:(c.2.2.1.take i).any (fun a=>!mRel c.2.1 a c.2.2.1[i])<;>simp[h1]
theorem Qqi {c:TC} (I:ZN c.2.1=0) (hk:c.2.2.1.length<BIG):Qb4 c=some (code (mLk c) c.2.2.1):=by
 unfold Qb4;refine JD c.2.2.1 (mLk c) _ (fun i hi=>?_) (by simp only[dge,aLC])
 simp only[dlt hi,Qb _ i hi,Qa _ i _ hi,aLB,JE _ (Y2 (Yz I)),aLc,ZR _ i (Nat.le_of_lt hi),Y9,Qrk I _ (YR hk i),wsucc hi hk];unfold mLk;by_cases h1:idT c.2.1 c.2.2.1[i]<0
 ·simp[h1]
 ·cases J:(c.2.2.1.take i).any (fun a=>!mRel c.2.1 a c.2.2.1[i])<;>simp[h1]
end GL
end Go.Dx
set_option maxHeartbeats 2000000
namespace Go.Dx
namespace GL
noncomputable def QdL (c:TC):Int:=(c.2.1.foldl (YV c.2.1 c.2.2.1) (0,0,0)).1
noncomputable def mStC (c:TC):Int:=if c.2.2.2.1.1=QdL c then (if (Z0 c.1 (Jc c.2.1 c.2.2.2.1.1)).1.2.2.2=c.2.2.2.1 then (if (Z0 c.1 (Jc c.2.1 c.2.2.2.1.1)).2=c.2.2.2.2 then 0 else 1) else 10) else 10
noncomputable def mChF (c:TC):Int:=if mLF c.1=0 then (if ZN c.2.1=0 then (if (20:Int)<(c.2.2.1.length:Int) then 2 else if code (fun _ n=>mNd c n) c.2.1=0 then (if code (mLk c) c.2.2.1=0 then mStC c else code (mLk c) c.2.2.1) else code (fun _ n=>mNd c n) c.2.1) else ZN c.2.1) else mLF c.1
theorem Qnc (t:List TN) (l:List Int):∀(r:List TN) (b:TN),r.foldl (YV t l) b=b\/r.foldl (YV t l) b ∈ r
 | [],b=>.inl rfl
 | n::r,b=>by
  rw[List.foldl_cons];rcases Qnc t l r (YV t l b n) with h | h
  ·rw[h];unfold YV
   cases QeU t n l&&decide (b.2.2<n.2.2)
   ·exact .inl rfl
   ·exact .inr (aLm ..)
  ·exact .inr (aLp _ h)
theorem Qs6 (c:TC):QdL c=0\/∃n,n ∈ c.2.1/\QdL c=n.1:=by
 unfold QdL;rcases Qnc c.2.1 c.2.2.1 c.2.1 (0,0,0) with h | h
 ·rw[h];exact .inl rfl
 ·exact .inr ⟨_,h,rfl⟩
theorem Qq7 {t:List TN} (h:ZN t=0):Jc t 0=[]:=by
 unfold Jc;have:up t t.length 0=[]:=by
  cases t.length with
  | zero=>rfl
  | succ n=>unfold up;rw[if_pos (Yz h).zero]
 rw[this];rfl
theorem QqK {c:TC} (J:code (fun _ n=>mNd c n) c.2.1=0) {n:TN} (h:n ∈ c.2.1):(Z0 c.1 (Jc c.2.1 n.1)).1.1=0:=by
 obtain⟨k,hk,rfl⟩:=List.mem_iff_getElem.1 h;have I:=Yh J k _ (aLf hk)
 unfold mNd at I;by_cases h1:(mBI c.1 c.2.1[k].1).2=0
 ·rw[if_pos h1] at I
  split at I
  ·exact I
  ·cases I
 ·rw[if_neg h1] at I;exact absurd I h1
theorem QiG {c:TC} (I:ZN c.2.1=0) (J:code (fun _ n=>mNd c n) c.2.1=0):(Z0 c.1 (Jc c.2.1 (QdL c))).1.1=0/\(QdL c=0\/¬idT c.2.1 (QdL c)<0):=by
 rcases Qs6 c with h | ⟨n,h1,U⟩
 ·rw[h,Qq7 I];exact⟨rfl,.inl rfl⟩
 ·rw[U];exact⟨QqK J h1,.inr (Qo5 I h1)⟩
theorem QjK {c:TC} (h:code (mLk c) c.2.2.1=0):∀k,k ∈ c.2.2.1->¬idT c.2.1 k<0:=fun k hk I=>by
 obtain⟨i,hi,rfl⟩:=List.mem_iff_getElem.1 hk;have:=Yh h i _ (aLf hi)
 unfold mLk at this;rw[if_pos I] at this;cases this
theorem QoX {l:TL} (I:mLF l=0) {ids:List Int} (h:(Z0 l ids).1.1=0):okSt (Z0 l ids).1.2.2.2/\(Z0 l ids).2.length=ids.length/\∀u,u ∈ (Z0 l ids).2->Qal u:=by
 obtain⟨a,b,d⟩:=Qkf I ids 0 [] noSt Qg5 (fun u hu=>by simp at hu) h
 exact⟨a,by unfold Z0;rw[b];simp,d⟩
theorem Qi2 {c:TC} (b1:c.1.1.length<BIG) (b2:c.1.2.length<BIG) (b3:c.2.1.length<BIG) (b4:c.2.2.1.length<BIG):QaA c=some (mChF c):=by
 unfold QaA mChF;rw[Qii _ b1 b2,aLc,QK];split
 ·rename_i hl
  rw[QjY _ b3,aLc,QK];split
  ·rename_i J
   by_cases I:(20:Int)<(c.2.2.1.length:Int)
   ·rw[aLE I,if_pos I];rfl
   ·rw[aLD I,if_neg I,aLC,Qny hl J,aLc,QK]
    split
    ·rename_i hn
     rw[Qn1 J b4,aLc,QK];split
     ·rename_i hk
      rw[QmI _ (Yz J) _ b4 (QjK hk),aLc];show (bif !decide (c.2.2.2.1.1=QdL c) then _ else _)=_
      unfold mStC;by_cases h1:c.2.2.2.1.1=QdL c
      ·have hf:=(QiG J hn).1
       rw[if_pos h1,aLE h1,Bool.not_true,aLC,Qol hl J,aLc];rw[<-h1] at hf;obtain⟨a,b,d⟩:=QoX hl hf;have hp:=QiY J c.2.2.2.1.1
       generalize Z0 c.1 (Jc c.2.1 c.2.2.2.1.1)=q at *;rw[Qi3 _ _ (Qqh a),aLc];by_cases U:q.1.2.2.2=c.2.2.2.1
       ·rw[aLE U,if_pos U,Bool.not_true,aLC,Yp _ _ _ (fun a b ha=>by rw[QjH a b ha];rfl) ⟨by omega,d⟩,aLc]
        by_cases h3:q.2=c.2.2.2.2
        ·rw[aLE h3,if_pos h3];rfl
        ·rw[aLD h3,if_neg h3];rfl
       ·rw[aLD U,if_neg U];rfl
      ·rw[if_neg h1,aLD h1];rfl
     ·rfl
    ·rfl
  ·rfl
 ·rfl
theorem Qrr {c:TC} (hl:mLF c.1=0) {ids:List Int} (hU:c.2.2.2.2.length=ids.length) (g:Int×TState×TC->Option ((Int×TState×TC)⊕(TC⊕(Int×TC))))
  (I:∀(i:Nat) (h:i<ids.length) (h':i<c.2.2.2.2.length) (S:TState),okSt S->g ((i:Int),(S,c))=if c.2.2.2.2[i]=(QH c.1 S ids[i]).2.2.1 then some (.inl (((i+1:Nat):Int),((QH c.1 S ids[i]).2.2.2,c))) else some (.inr (.inr (1,c)))) (U:∀S,g ((ids.length:Int),(S,c))=some (.inr (.inl c))) :
  ∀(d i:Nat) (f:Int) (us:List TUn) (S:TState),i+d=ids.length->okSt S->us.length=i->(Zp c.1 (ids.drop i) f us S).1.1=0->Qc g ((i:Int),(S,c))=some (if c.2.2.2.2.drop i=(Zp c.1 (ids.drop i) f us S).2.drop i then .inl c else .inr (1,c)):=by
 intro d;induction d with
 | zero=>
  intro i f us S hi _ hu _;obtain rfl:i=ids.length:=by omega
  rw[Qh (U S),List.drop_length];show _=some (if c.2.2.2.2.drop ids.length=us.drop ids.length then _ else _)
  rw[if_pos (by rw[<-hu,List.drop_length,hu,<-hU,List.drop_length])]
 | succ d ih=>
  intro i f us S hi hS hu J;have hi2:i<ids.length:=by omega
  have hi3:i<c.2.2.2.2.length:=by omega
  rw[aLr hi2] at J ⊢;unfold Zp at J ⊢;by_cases hd:(QH c.1 S ids[i]).1=0
  ·rw[if_pos hd] at J ⊢
   have ihh:=ih (i+1) _ (us++[(QH c.1 S ids[i]).2.2.1]) _ (by omega) (Qeg hl hS hd).1 (by simp[hu]) J
   have hg:(Zp c.1 (ids.drop (i+1)) (IntKind.wrap .i64 (f+(QH c.1 S ids[i]).2.1)) (us++[(QH c.1 S ids[i]).2.2.1]) (QH c.1 S ids[i]).2.2.2).2[i]? = some (QH c.1 S ids[i]).2.2.1:=by
    rw[Ql8 _ _ _ _ _ J i (by rw[aLi,List.length_singleton];omega)]
    congr 1;subst hu;exact List.getElem_concat_length rfl _
   generalize Zp c.1 (ids.drop (i+1)) (IntKind.wrap .i64 (f+(QH c.1 S ids[i]).2.1)) (us++[(QH c.1 S ids[i]).2.2.1]) (QH c.1 S ids[i]).2.2.2=q at *;obtain⟨hlt,he⟩:=aLy.1 hg;have hs:=I i hi2 hi3 S hS
   rw[aLr hlt,aLr hi3,he];by_cases h2:c.2.2.2.2[i]=(QH c.1 S ids[i]).2.2.1
   ·rw[if_pos h2] at hs
    rw[Qv hs,ihh];by_cases h3:c.2.2.2.2.drop (i+1)=q.2.drop (i+1)
    ·rw[if_pos h3,if_pos (by rw[h2,h3])]
    ·rw[if_neg h3,if_neg (fun h=>h3 (List.cons.inj h).2)]
   ·rw[if_neg h2] at hs
    rw[Qh hs,if_neg (fun h=>h2 (List.cons.inj h).1)]
  ·rw[if_neg hd] at J;exact absurd J hd
theorem Qqg {c:TC} (J:mLF c.1=0) (I:ZN c.2.1=0) (b4:c.2.2.1.length<BIG) (hn:code (fun _ n=>mNd c n) c.2.1=0) (hk:code (mLk c) c.2.2.1=0) (hu:bL Qal c.2.2.2.2):QbR c=some (mStC c,c):=by
 have hB:BIG=4611686018427387904:=rfl
 unfold QbR;rw[QmK _ (Yz I) (fun i hi=>(Ql1 I i hi).1) _ b4 (QjK hk),aLc]
 show (bif !decide (c.2.2.2.1.1=QdL c) then _ else _)=_
 unfold mStC;by_cases h1:c.2.2.2.1.1=QdL c
 ·obtain⟨U,hb⟩:=QiG I hn
  rw[<-h1] at U hb;rw[if_pos h1,aLE h1,Bool.not_true,aLC,QhZ I hb,aLc];have hp:=QiY I c.2.2.2.1.1
  generalize Jc c.2.1 c.2.2.2.1.1=ids at *;rw[Qim J hp,aLc,QK,if_pos U];obtain⟨a,b,d⟩:=QoX J U;rw[Qmw _ _ (Qqh a),aLc];by_cases h2:(Z0 c.1 ids).1.2.2.2=c.2.2.2.1
  ·rw[aLE h2,if_pos h2,Bool.not_true,aLC]
   by_cases h3:c.2.2.2.2.length=ids.length
   ·rw[aLE (show (c.2.2.2.2.length:Int)=(ids.length:Int) by omega),Bool.not_true,aLC]
    generalize hg:(fun (s23:Int×TState×TC)=>_)=g
    have:=Qrr J h3 g (fun i h h' S hS=>by
     rw[<-hg];simp only[dlt h,Qb _ i h,Qb _ i h',Qa _ i _ h,Qa _ i _ h',aLB,Qjh J hS,aLc,wsucc h (show ids.length<BIG by omega),Qmu _ _ (hu.2 _ (aLl h'))]
     by_cases hq:c.2.2.2.2[i]=(QH c.1 S ids[i]).2.2.1
     ·rw[aLE hq,if_pos hq];rfl
     ·rw[aLD hq,if_neg hq];rfl) (fun S=>by rw[<-hg];simp only[dge,aLC]) ids.length 0 0 [] noSt (by omega) Qg5 rfl U
    rw[show ((0:Nat):Int)=0 from rfl] at this
    show ((Qc g (0,(noSt,c))).bind _)=_
    rw[this,aLc];rw[List.drop_zero,List.drop_zero,List.drop_zero];show Sum.elim _ _ (if c.2.2.2.2=(Z0 c.1 ids).2 then _ else _)=_
    by_cases h4:(Z0 c.1 ids).2=c.2.2.2.2
    ·rw[if_pos h4,if_pos h4.symm];rfl
    ·rw[if_neg h4,if_neg (fun h=>h4 h.symm)];rfl
   ·rw[aLD (show ¬(c.2.2.2.2.length:Int)=(ids.length:Int) by omega),if_neg (fun h=>h3 (by rw[<-h,b]))];rfl
  ·rw[aLD h2,if_neg h2];rfl
 ·rw[if_neg h1,aLD h1];rfl
theorem QpI {c:TC} (b1:c.1.1.length<BIG) (b2:c.1.2.length<BIG) (b3:c.2.1.length<BIG) (U:c.2.2.1.length<BIG) (hu:bL Qal c.2.2.2.2):QbY c=some (mChF c,c):=by
 unfold QbY mChF;rw[QaY _ b1 b2,aLc,QK];split
 ·rename_i hl
  rw[Qk0 _ b3,aLc,QK];split
  ·rename_i J
   by_cases I:(20:Int)<(c.2.2.1.length:Int)
   ·rw[aLE I,if_pos I];rfl
   ·rw[aLD I,if_neg I,aLC,Qpz hl J,aLc,QK]
    split
    ·rename_i hn
     rw[Qqi J U,aLc,QK];split
     ·rename_i hk
      rw[Qqg hl J U hn hk hu];rfl
     ·rfl
    ·rfl
  ·rfl
 ·rfl
theorem Qq4 (c:TC) (h:Bnd s16 c):Qj6 c:=by
 obtain⟨⟨h1,h2⟩,h3,h4,⟨_,_,h5,h6⟩,h7⟩:=h;have I:∀y:TCoin,Bnd s7 y->YX y:=fun y J=>by
  obtain⟨_,⟨_,J,_⟩,_⟩:=J;exact Qec (s:=.int .i64) (p:=bAny) (fun _ _=>trivial) J
 exact⟨⟨Qec (s:=.str) (p:=bL bAny) (fun y J=>⟨J,fun _ _=>trivial⟩) h1,Qec (s:=s0) (p:=bAny) (fun _ _=>trivial) h2⟩,Qec (s:=s2) (p:=bAny) (fun _ _=>trivial) h3,Qec (s:=.int .i64) (p:=bAny) (fun _ _=>trivial) h4,
  ⟨Qec (s:=s7) (p:=YX) I h5,Qec (s:=s2) (p:=bAny) (fun _ _=>trivial) h6⟩,
  Qec (s:=s12) (p:=Qal) (fun y J=>by
   obtain⟨_,U,hy2⟩:=J;exact⟨Qec (s:=.list s7) (p:=bL YX) (fun z hz=>Qec (s:=s7) (p:=YX) I hz) U,Qec (s:=s2) (p:=bAny) (fun _ _=>trivial) hy2⟩) h7⟩
theorem Qta {c:TC} (h:Qbg c<=1048576):c.1.1.length<BIG/\c.1.2.length<BIG/\c.2.1.length<BIG/\c.2.2.1.length<BIG:=by
 have I:BIG=4611686018427387904:=rfl
 simp only[Qbg] at h;have J:c.1.1.length<=QgZ c.1.1:=Nat.le_add_right _ _
 omega
end GL
end Go.Dx
set_option maxHeartbeats 2000000
namespace Go.Dx
namespace GL
end GL
end Go.Dx
set_option maxHeartbeats 2000000
namespace Go.Dx
namespace GL
structure okM (l:List TMb):Prop where
 r:J4 l/\l.length<=8
 k:∀x,x ∈ l->(1<=x.1/\x.1<=999)/\mRef x.2=true
 d:l.Pairwise fun a b=>a.2 ≠ b.2
theorem Qs2:okM []:=⟨⟨List.Pairwise.nil,by simp⟩,fun _ h=>by simp at h,List.Pairwise.nil⟩
theorem Qr5 {l:List TMb} (h:okM l) {t:TX} (ht:okT t) {id:Int} (hid:mIn id 1 60=true):okM (Qce l t id).1:=by
 have J:∀x,x ∈ mOff l t->x ∈ l:=fun x I=>(List.mem_filter.1 I).1
 have hd:(mOff l t).Pairwise fun a b=>a.2 ≠ b.2:=List.Pairwise.filter _ h.d
 refine⟨QoW h.r t id,?_,?_⟩
 ·intro x I
  unfold Qce at I;split at I
  ·simp at I
  ·split at I
   ·rename_i h1
    unfold Qhw at I;split at I
    ·simp at I
    ·split at I
     ·simp at I
     ·rcases List.mem_append.1 I with I | I
      ·rcases List.mem_append.1 I with I | I
       ·exact h.k x (J x ((List.takeWhile_sublist _).subset I))
       ·rw[aLs.1 I]
        refine⟨?_,JO.2 ⟨QE.1 hid,by simp⟩⟩
        rcases ht.mem with ⟨h2,_⟩ | ⟨_,h2⟩
        ·rw[h1] at h2;cases h2
        ·exact h2
      ·exact h.k x (J x ((List.dropWhile_sublist _).subset I))
   ·exact h.k x (J x I)
 ·unfold Qce
  split
  ·exact List.Pairwise.nil
  ·split
   ·unfold Qhw
    split
    ·exact List.Pairwise.nil
    ·rename_i U
     split
     ·exact List.Pairwise.nil
     ·show ((mOff l t).takeWhile _++[_]++(mOff l t).dropWhile _).Pairwise _
      have hp:((mOff l t).takeWhile (fun y:TMb=>decide (y.1<t.2.1))++[(t.2.1,(id,0))]++(mOff l t).dropWhile (fun y:TMb=>decide (y.1<t.2.1))).Perm ((t.2.1,(id,0))::mOff l t):=by
       conv=>rhs;rw[<-List.takeWhile_append_dropWhile (p:=fun y:TMb=>decide (y.1<t.2.1)) (l:=mOff l t)]
       rw[List.append_assoc];exact List.perm_middle
      refine (hp.pairwise_iff (fun {a b} hab he=>hab he.symm)).2 (List.pairwise_cons.2 ⟨fun y hy he=>?_,hd⟩)
      refine U (List.any_eq_true.2 ⟨y,hy,?_⟩);rw[Bool.or_eq_true];exact .inr (aLE he.symm)
   ·exact hd
structure okS (S:TState):Prop where
 o:okSt S
 m:okM S.2.2.2
 t:0<=S.1/\S.1<=60
 h:0<=S.2.1/\S.2.1<=40
 z:S.1=0↔S.2.1=0
theorem Qsv:okS noSt:=⟨Qg5,Qs2,by decide,by decide,by decide⟩
theorem QtK {l:TL} (I:mLF l=0) {S:TState} (hm:okM S.2.2.2) (id h:Int):okM (mDo l S id h).2.2.2.2.2.2:=by
 unfold mDo;split
 ·rename_i h1
  split
  ·split
   ·split
    ·exact Qr5 hm (J0 (Qj7 h1)) (QmT (Qdb I) h1)
    ·exact hm
   ·exact hm
  ·exact hm
 ·exact hm
theorem Qo4 {l:TL} (I:mLF l=0) (h:Int):∀(ids:List Int) (f:Int) (sp:List (List TCoin)) (S:TState),okM S.2.2.2->okM (mDos l h ids f sp S).2.2.2.2.2.2
 | [],_,_,_,hm=>hm
 | i::r,f,sp,S,hm=>by
  unfold mDos;split
  ·exact Qo4 I h r _ _ _ (QtK I hm i h)
  ·exact hm
theorem Qr9 {l:TL} (J:mLF l=0) {S:TState} (U:okS S) {id:Int} (I:(QH l S id).1=0):okS (QH l S id).2.2.2:=by
 obtain⟨a1,a2,a3,a4,_⟩:=Qeg J U.o I;obtain⟨hb,hid,_⟩:=Qfj J U.o a4;have hh:=hb.h
 have hi:=QE.1 hid
 refine⟨a1,?_,by omega,by omega,by omega⟩
 unfold QH at I ⊢;rw[if_pos a4] at I ⊢;split at I
 ·rename_i h2
  rw[if_pos h2] at ⊢;split at I
  ·rename_i h3
   rw[if_pos h3] at ⊢;split at I
   ·cases I
   ·rename_i h4
    rw[if_neg h4] at ⊢;split at I
    ·rename_i h5
     rw[if_pos h5] at ⊢;exact Qo4 J _ _ _ _ _ U.m
    ·rename_i h5;exact absurd I h5
  ·rename_i h3;exact absurd I h3
 ·cases I
theorem QlA {l:TL} (U:mLF l=0):∀(ids:List Int) (f:Int) (us:List TUn) (S:TState),okS S->(Zp l ids f us S).1.1=0->okS (Zp l ids f us S).1.2.2.2
 | [],f,us,S,J,_=>J
 | i::r,f,us,S,J,I=>by
  unfold Zp at I ⊢;by_cases hd:(QH l S i).1=0
  ·rw[if_pos hd] at I ⊢
   exact QlA U r _ _ _ (Qr9 U J hd) I
  ·rw[if_neg hd] at I;exact absurd I hd
theorem Qsd {l:TL} (I:mLF l=0) {ids:List Int} (h:(Z0 l ids).1.1=0):okS (Z0 l ids).1.2.2.2:=QlA I ids 0 [] noSt Qsv h
end GL
end Go.Dx
set_option maxHeartbeats 2000000
namespace Go.Dx
namespace GL
theorem QjL (l:List TCoin) (J:l.length<=40) (hk:∀x,x ∈ l->okC x):Qbi l=some (QeO l):=by
 unfold Qbi;simp only[aLo];refine Qnm l QfA _ (fun i=>260 * i) (fun i hi acc U=>?_) (fun acc=>by simp only[dge,aLC])
 have I:=hk _ (aLl hi)
 have h0:=QgP I
 have h1:=Qq (n:=l[i].1.1) (by have:=I.tx;omega) (by have:=I.tx;omega)
 have h2:=Qq (n:=l[i].1.2) (by have:=I.at_;omega) (by have:=I.at_;omega)
 have h3:=Qq (n:=l[i].2.1.1) (by have:=I.val;omega) (by have:=I.val;omega)
 have h4:=QeW (ZF I.rule) [32] (by simp)
 refine⟨?_,by simp only[aLi];omega⟩
 simp only[dlt hi,Qb l i hi,Qa l i _ hi,aLB,wsucc hi (show l.length<BIG by unfold BIG;omega),YA (n:=l[i].1.1) (by have:=I.tx;omega) (by have:=I.tx;omega),
  YA (n:=l[i].1.2) (by have:=I.at_;omega) (by have:=I.at_;omega),YA (n:=l[i].2.1.1) (by have:=I.val;omega) (by have:=I.val;omega),Qer (ZF I.rule) [32] (by simp),aLc]
 rw[Qe,Qe,Qe,Qe,Qe,Qe,Qe,Qe,Qe]
 ·rfl
 all_goals ((try simp only[aLi,aLh,aLj]);unfold LIM;omega)
theorem QkE (l:List TCoin) (J:l.length<=40) (hk:∀x,x ∈ l->okC x):QbZ l=some (QeO l):=by
 unfold QbZ;simp only[aLo];refine Qnm l QfA _ (fun i=>260 * i) (fun i hi acc U=>?_) (fun acc=>by simp only[dge,aLC])
 have I:=hk _ (aLl hi)
 have h0:=QgP I
 have h1:=Qq (n:=l[i].1.1) (by have:=I.tx;omega) (by have:=I.tx;omega)
 have h2:=Qq (n:=l[i].1.2) (by have:=I.at_;omega) (by have:=I.at_;omega)
 have h3:=Qq (n:=l[i].2.1.1) (by have:=I.val;omega) (by have:=I.val;omega)
 have h4:=QeW (ZF I.rule) [32] (by simp)
 refine⟨?_,by simp only[aLi];omega⟩
 simp only[dlt hi,Qb l i hi,Qa l i _ hi,aLB,wsucc hi (show l.length<BIG by unfold BIG;omega),Za (n:=l[i].1.1) (by have:=I.tx;omega) (by have:=I.tx;omega),
  Za (n:=l[i].1.2) (by have:=I.at_;omega) (by have:=I.at_;omega),Za (n:=l[i].2.1.1) (by have:=I.val;omega) (by have:=I.val;omega),Qh7 (ZF I.rule),aLc]
 rw[Qe,Qe,Qe,Qe,Qe,Qe,Qe,Qe,Qe]
 ·simp only[QfA,List.append_assoc]
 all_goals ((try simp only[aLi,aLh,aLj]);unfold LIM;omega)
theorem QlG {l:List TCoin} (hk:∀x,x ∈ l->okC x):(QeO l).length<=260 * l.length:=by
 induction l with
 | nil=>simp[QeO]
 | cons a r I=>
  have h1:=QgP (hk a (aLm ..))
  have J:=I (fun x U=>hk x (aLp _ U))
  unfold QeO at J ⊢;rw[List.map_cons,List.flatten_cons,aLi,aLh];omega
def wK (k:Int):List UInt8:=[32]++Lib.itoa k
def txtL (w:List UInt8) (l:List Int):List UInt8:=w++(l.map wK).flatten
theorem Qnq {k:Int} (h:0<=k/\k<=1000000):(wK k).length<=20:=by
 have:=Qq h.1 h.2
 unfold wK;rw[aLi,List.length_singleton];omega
theorem Qcr {w:List UInt8} (hw:w.length<=10):∀{l:List Int},(∀k,k ∈ l->0<=k/\k<=1000000)->(txtL w l).length<=10+20 * l.length:=fun {l} hk=>by
 unfold txtL;rw[aLi];have:((l.map wK).flatten).length<=20 * l.length:=by
  induction l with
  | nil=>simp
  | cons a r I=>
   have h1:=Qnq (hk a (aLm ..))
   have U:=I (fun x J=>hk x (aLp _ J))
   rw[List.map_cons,List.flatten_cons,aLi,aLh];omega
 omega
theorem QlE {α:Type} (w:List UInt8) (l:List α) (g:α->List UInt8) (f:List UInt8×Int->Option ((List UInt8×Int)⊕List UInt8)) (B:Nat->Nat) (hw:w.length<=B 0)
  (I:∀(i:Nat) (h:i<l.length) (acc:List UInt8),acc.length<=B i->f (acc,(i:Int))=some (.inl (acc++g l[i],((i+1:Nat):Int)))/\(acc++g l[i]).length<=B (i+1))
  (he:∀acc,f (acc,(l.length:Int))=some (.inr acc)):(Qc f (w,0)).bind (fun j=>some j)=some (w++(l.map g).flatten):=by
 have:=Qf8 l g f B I he l.length 0 w (by omega) hw
 rw[show ((0:Nat):Int)=0 from rfl] at this
 rw[this];rfl
theorem Qhs {w:List UInt8} (hw:w.length<=10) {l:List Int} (J:l.length<=60) (hk:∀k,k ∈ l->0<=k/\k<=1000000):Jm w l=some (txtL w l):=by
 unfold Jm txtL;refine QlE w l wK _ (fun i=>10+20 * i) (by omega) (fun i hi acc U=>?_) (fun acc=>?_)
 ·have I:=hk _ (aLl hi)
  have h1:=Qq I.1 I.2
  have h2:=Qnq I
  refine⟨?_,by rw[aLi];omega⟩
  simp only[dlt hi,Qb l i hi,Qa l i _ hi,aLB,wsucc hi (show l.length<BIG by unfold BIG;omega),YA (n:=l[i]) I.1 (by omega),aLc,aLo]
  rw[Qe,Qe]
  ·rfl
  all_goals ((try simp only[aLi,aLh,aLj]);unfold LIM;omega)
 ·simp only[dge,aLC]
theorem Qgg {w:List UInt8} (hw:w.length<=10) {l:List Int} (J:l.length<=60) (hk:∀k,k ∈ l->0<=k/\k<=1000000):YQ w l=some (txtL w l):=by
 unfold YQ txtL;refine QlE w l wK _ (fun i=>10+20 * i) (by omega) (fun i hi acc U=>?_) (fun acc=>?_)
 ·have I:=hk _ (aLl hi)
  have h1:=Qq I.1 I.2
  have h2:=Qnq I
  refine⟨?_,by rw[aLi];omega⟩
  simp only[dlt hi,Qb l i hi,Qa l i _ hi,aLB,wsucc hi (show l.length<BIG by unfold BIG;omega),Za (n:=l[i]) I.1 (by omega),aLc,aLo]
  rw[Qe,Qe]
  ·unfold wK;rw[List.append_assoc]
  all_goals ((try simp only[aLi,aLh,aLj]);unfold LIM;omega)
 ·simp only[dge,aLC]
theorem QqE (l:List TMb):l.foldl (fun (a:List Int) x=>a++[x.1]) []=l.map (·.1):=by
 have:∀(l:List TMb) (a:List Int),l.foldl (fun (a:List Int) x=>a++[x.1]) a=a++l.map (·.1):=by
  intro l;induction l with
  | nil=>intro a;simp
  | cons x r I=>intro a;rw[List.foldl_cons,I,List.append_assoc];rfl
 rw[this];rfl
theorem Qoc {l:List TMb} (J:l.length<=60):QdQ l=some (l.map (·.1)):=by
 unfold QdQ;rw[Zu l (fun (a:List Int) x=>a++[x.1]) (fun a i=>(a,i)) (fun a=>a) (fun a i=>a.length=i) _ (fun i hi a I=>?_) (fun a _=>by simp only[dge,aLC]) [] rfl,QqE];rfl
 simp only[dlt hi,Qb l i hi,Qa l i _ hi,aLB,wsucc hi (show l.length<BIG by unfold BIG;omega)]
 refine⟨by rw[Qe (by simp only[aLh,aLj];unfold LIM;omega)];rfl,by simp[I]⟩
theorem Qr8 {l:List TMb} (I:l.length<=60):Qfk l=some (l.map (·.1)):=Qoc I
def QfM (c:TC):List UInt8:=txtL [116,105,112] [c.2.2.2.1.1,c.2.2.2.1.2.1]++[10]++txtL [116,114,101,101] [(c.2.1.length:Int)]++[10]++txtL [108,111,99,107,115] c.2.2.1++[10]++txtL [109,101,109,98,101,114,115] (c.2.2.2.1.2.2.2.map (·.1))++[10]++QeO c.2.2.2.1.2.2.1
structure okCh (c:TC):Prop where
 l:mLF c.1=0
 t:ZN c.2.1=0
 k:c.2.2.1.length<=20
 n:code (fun _ n=>mNd c n) c.2.1=0
 kc:code (mLk c) c.2.2.1=0
 b:c.2.2.2.1.1=QdL c
 s:(Z0 c.1 (Jc c.2.1 c.2.2.2.1.1)).1.2.2.2=c.2.2.2.1
 u:(Z0 c.1 (Jc c.2.1 c.2.2.2.1.1)).2=c.2.2.2.2
theorem Qo2 {c:TC} (h:mChF c=0):okCh c:=by
 unfold mChF at h;split at h
 ·rename_i h1
  split at h
  ·rename_i I
   split at h
   ·cases h
   ·rename_i h3
    split at h
    ·rename_i J
     split at h
     ·rename_i U
      unfold mStC at h;split at h
      ·rename_i h6
       split at h
       ·rename_i h7
        split at h
        ·rename_i h8
         exact⟨h1,I,by omega,J,U,h6,h7,h8⟩
        ·cases h
       ·cases h
      ·cases h
     ·rename_i U;exact absurd h U
    ·rename_i J;exact absurd h J
  ·rename_i I;exact absurd h I
 ·rename_i h1;exact absurd h h1
theorem okCh.f {c:TC} (h:okCh c):(Z0 c.1 (Jc c.2.1 c.2.2.2.1.1)).1.1=0:=by rw[h.b];exact (QiG h.t h.n).1
theorem okCh.st {c:TC} (h:okCh c):okS c.2.2.2.1:=by
 have:=Qsd h.l h.f
 rw[h.s] at this;exact this
theorem okCh.lk {c:TC} (h:okCh c):∀k,k ∈ c.2.2.1->0<=k/\k<=1000000:=fun k hk=>by
 obtain⟨h1,I⟩:=Qg6 h.t (QjK h.kc k hk);have:=h1.id
 omega
theorem QqT {c:TC} (h:okCh c):(∀k,k ∈ [c.2.2.2.1.1,c.2.2.2.1.2.1]->0<=k/\k<=1000000)/\(∀k,k ∈ [(c.2.1.length:Int)]->0<=k/\k<=1000000)/\(∀k,k ∈ c.2.2.2.1.2.2.2.map (·.1)->0<=k/\k<=1000000):=by
 have I:=h.st
 have h1:=I.t
 have U:=I.h
 have h3:=(Yz h.t).len
 refine⟨fun k hk=>?_,fun k hk=>?_,fun k hk=>?_⟩
 ·rcases List.mem_cons.1 hk with rfl | hk
  ·omega
  ·rw[aLs.1 hk];omega
 ·rw[aLs.1 hk];omega
 ·obtain⟨x,J,rfl⟩:=List.mem_map.1 hk
  have:=(I.m.k x J).1
  omega
theorem Qju {c:TC} (h:okCh c):Qa9 c=some (QfM c):=by
 obtain⟨k1,k2,k3⟩:=QqT h;have hm:=h.st.m.r.2
 have I:=YK h.st.o.c
 have J:=Qcr (w:=[116,105,112]) (by simp) k1
 have U:=Qcr (w:=[116,114,101,101]) (by simp) k2
 have l3:=Qcr (w:=[108,111,99,107,115]) (by simp) h.lk
 have l4:=Qcr (w:=[109,101,109,98,101,114,115]) (by simp) k3
 have l5:=QlG I.2
 have hk:=h.k
 rw[List.length_map] at l4;simp only[aLh,aLj] at J U;unfold Qa9 QfM;rw[Qhs (by simp) (by simp) k1,Qhs (by simp) (by simp) k2,Qhs (by simp) (by omega) h.lk,Qoc (by omega),QjL _ I.1 I.2]
 simp only[aLc,aLo];rw[Qhs (by simp) (by rw[List.length_map];omega) k3]
 simp only[aLc];rw[Qe,Qe,Qe,Qe,Qe,Qe,Qe,Qe]
 ·simp only[List.append_assoc]
 all_goals ((try simp only[aLi,aLh,aLj]);unfold LIM;omega)
theorem Qks {c:TC} (h:okCh c):Qcf c=some (QfM c):=by
 obtain⟨k1,k2,k3⟩:=QqT h;have hm:=h.st.m.r.2
 have I:=YK h.st.o.c
 have J:=Qcr (w:=[116,105,112]) (by simp) k1
 have U:=Qcr (w:=[116,114,101,101]) (by simp) k2
 have l3:=Qcr (w:=[108,111,99,107,115]) (by simp) h.lk
 have l4:=Qcr (w:=[109,101,109,98,101,114,115]) (by simp) k3
 have l5:=QlG I.2
 have hk:=h.k
 rw[List.length_map] at l4;simp only[aLh,aLj] at J U;unfold Qcf QfM;rw[Qgg (by simp) (by simp) k1,Qgg (by simp) (by simp) k2,Qgg (by simp) (by omega) h.lk,Qr8 (by omega),QkE _ I.1 I.2]
 simp only[aLc,aLo];rw[Qgg (by simp) (by rw[List.length_map];omega) k3]
 simp only[aLc];rw[Qe,Qe,Qe,Qe,Qe,Qe,Qe,Qe];all_goals ((try simp only[aLi,aLh,aLj]);unfold LIM;omega)
noncomputable def mChT (c:TC):Int×List UInt8:=if mChF c=0 then (0,QfM c) else (mChF c,[])
theorem QjO {c:TC} (I:c.1.1.length<BIG) (J:c.1.2.length<BIG) (U:c.2.1.length<BIG) (b4:c.2.2.1.length<BIG):Qbf c=some (mChT c):=by
 unfold Qbf mChT;rw[Qi2 I J U b4,aLc,QK];split
 ·rename_i h
  rw[Qju (Qo2 h)];rfl
 ·rfl
theorem QjS {c:TC} (I:c.1.1.length<BIG) (J:c.1.2.length<BIG) (U:c.2.1.length<BIG) (b4:c.2.2.1.length<BIG) (hu:bL Qal c.2.2.2.2):Qbe c=some (mChT c):=by
 unfold Qbe mChT;rw[QpI I J U b4 hu,aLc,QK];split
 ·rename_i h
  rw[Qks (Qo2 h)];rfl
 ·rfl
theorem QhO (x:TC) (I:Qj6 x):J5 x=some true:=by
 unfold J5;rw[Qlk x I 1048576 (by omega) (by omega),aLc]
 cases hc:decide (szr (Qbg x) 1048576<0) with
 | true=>rfl
 | false=>
  have h1:0<=szr (Qbg x) 1048576:=by have:=aLH hc;omega
  have hl1:=Qeb h1
  obtain⟨J,U,b3,b4⟩:=Qta (c:=x) (by omega)
  rw[aLC,Qly x (by omega)]
  simp only[aLc,QjS J U b3 b4 I.2.2.2.2,QjO J U b3 b4,Qlx x x I,decide_true,Bool.not_true,aLC,QbN]
end GL
end Go.Dx
