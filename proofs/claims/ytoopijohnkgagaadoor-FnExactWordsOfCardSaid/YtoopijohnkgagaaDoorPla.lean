/- The plain law: no program in sight -/
import Derived.Test.YtoopijohnkgagaaDoorSca
set_option linter.unusedVariables false
set_option linter.unusedSimpArgs false
set_option maxHeartbeats 2000000
namespace Go.Dx
namespace DL
def cuts (c:UInt8):List UInt8→List (List UInt8)
 | []=>[[]]
 | b::l=>if b=c then []::cuts c l else match cuts c l with | []=>[[b]] | w::ws=>(b::w)::ws
def glue (p:List UInt8):List (List UInt8)→List (List UInt8)
 | []=>[p]
 | w::ws=>(p++w)::ws
theorem cuts_ne (c:UInt8):∀l,cuts c l ≠ []
 | []=>by simp[cuts]
 | b::l=>by
  unfold cuts
  split
  ·simp
  ·split<;>simp
theorem glue_nil {ws:List (List UInt8)} (h:ws ≠ []):glue [] ws=ws:=by
 cases ws with
 | nil=>exact absurd rfl h
 | cons w ws=>rfl
theorem cuts_cons (c b:UInt8) (l:List UInt8):cuts c (b::l)=if b=c then []::cuts c l else glue [b] (cuts c l):=by
 rw[cuts]
 split
 ·rfl
 ·split
  ·rename_i h;exact absurd h (cuts_ne c l)
  ·rename_i h;rw[h];rfl
theorem glue_glue (p q:List UInt8) {ws:List (List UInt8)} (h:ws ≠ []):glue p (glue q ws)=glue (p++q) ws:=by
 cases ws with
 | nil=>exact absurd rfl h
 | cons w ws=>simp[glue]
theorem cuts_len (c:UInt8):∀l,(cuts c l).length≤l.length+1
 | []=>by simp[cuts]
 | b::l=>by
  have:=cuts_len c l
  rw[cuts_cons]
  split
  ·simp;omega
  ·cases h:cuts c l with
   | nil=>simp[glue]
   | cons w ws=>rw[h] at this;simp[glue] at this ⊢;omega
theorem split_cuts (c:UInt8):∀l,Lib.split l [c]=cuts c l
 | []=>by
  unfold Lib.split
  rw[Lib.count_one];rfl
 | b::l=>by
  have ih:=split_cuts c l
  unfold Lib.split at ih ⊢
  rw[cuts_cons]
  by_cases hb:b=c
  ·subst hb
   rw[if_pos rfl,Lib.count_cons_eq,Nat.add_comm,Lib.splitK]
   have hix:Lib.index (b::l) [b]=0:=by rw[Lib.index];simp[List.isPrefixOf]
   rw[hix]
   simp[ih]
  ·rw[if_neg hb,Lib.count_cons_ne b c l hb]
   have hp:([c]:List UInt8).isPrefixOf (b::l)=false:=by simp[List.isPrefixOf,Ne.symm hb]
   have hix:Lib.index (b::l) [c]=if Lib.index l [c] == -1 then -1 else Lib.index l [c]+1:=by rw[Lib.index,hp];simp
   cases hk:Lib.count l [c] with
   | zero=>rw[hk] at ih;rw[←ih];rfl
   | succ k=>
    rw[hk] at ih
    have hm:¬Lib.index l [c] = -1:=fun h=>by rw[Lib.count_miss h] at hk;cases hk
    have hge:=Lib.index_ge l [c]
    obtain⟨j,hj⟩:∃j:Nat,Lib.index l [c]=j:=⟨(Lib.index l [c]).toNat,by omega⟩
    have hix':Lib.index (b::l) [c]=((j+1:Nat):Int):=by rw[hix,if_neg (fun e=>hm (beq_iff_eq.1 e)),hj];omega
    rw[Lib.splitK,if_neg (fun e=>hm (beq_iff_eq.1 e)),hj] at ih
    rw[Lib.splitK,if_neg (fun e=>by have:=beq_iff_eq.1 e;omega),hix',←ih]
    simp[glue]
theorem cut_loop (l:List UInt8) (c:UInt8) (f:List (List UInt8)×Int×Int→Option ((List (List UInt8)×Int×Int)⊕List (List UInt8)))
  (hs:∀(i fr:Nat) (h:i<l.length) (out:List (List UInt8)),fr≤i→out.length≤i→f (out,(fr:Int),(i:Int))=some (.inl (if l[i]=c then (out++[cut (fr:Int) (i:Int) l],((i+1:Nat):Int),((i+1:Nat):Int)) else (out,(fr:Int),((i+1:Nat):Int)))))
  (he:∀(fr:Nat) (out:List (List UInt8)),fr≤l.length→out.length≤l.length→loopO f (out,(fr:Int),(l.length:Int))=some (out++[cut (fr:Int) (l.length:Int) l])) :
  (loopO f ([],0,0)).bind (fun j=>some j)=some (cuts c l):=by
 have key:∀(k i fr:Nat) (out:List (List UInt8)),i+k=l.length→fr≤i→out.length≤i→loopO f (out,(fr:Int),(i:Int))=some (out++glue ((l.drop fr).take (i - fr)) (cuts c (l.drop i))):=by
  intro k
  induction k with
  | zero=>
   intro i fr out hi hf ho
   obtain rfl:i=l.length:=by omega
   rw[he fr out hf ho,List.drop_length]
   simp[cuts,glue,cut]
  | succ k ih=>
   intro i fr out hi hf ho
   have h:i<l.length:=by omega
   rw[loopO_next (hs i fr h out hf ho),List.drop_eq_getElem_cons h,cuts_cons]
   by_cases hb:l[i]=c
   ·rw[if_pos hb,if_pos hb,ih (i+1) (i+1) _ (by omega) (Nat.le_refl _) (by simp;omega),Nat.sub_self,List.take_zero,glue_nil (cuts_ne _ _)]
    simp[glue,cut]
   ·rw[if_neg hb,if_neg hb,ih (i+1) fr _ (by omega) (by omega) (by omega),glue_glue _ _ (cuts_ne _ _)]
    have e:i+1 - fr=(i - fr)+1:=by omega
    have h2:i - fr<(l.drop fr).length:=by rw[List.length_drop];omega
    rw[e,List.take_succ_eq_append_getElem h2]
    congr 3
    simp only[List.getElem_drop]
    congr 2
    simp only[show fr+(i - fr)=i by omega]
 have:=key l.length 0 0 [] (by omega) (Nat.le_refl _) (by simp)
 simp only[List.drop_zero,Nat.sub_zero,List.take_zero,List.nil_append,glue_nil (cuts_ne _ _)] at this
 rw[show ((0:Nat):Int)=0 from rfl] at this
 rw[this];rfl
theorem P_spec_l2Cut (l:List UInt8) (c:UInt8) (hl:l.length<LIM):F_spec_l2Cut l (c.toNat:Int)=some (cuts c l):=by
 have hB:l.length<BIG:=by unfold LIM at hl;unfold BIG;omega
 unfold F_spec_l2Cut
 refine cut_loop l c _ (fun i fr h out hf ho=>?_) (fun fr out hf ho=>?_)
 ·have e1:decide ((i:Int)≤(l.length:Int))=true:=decide_eq_true (by omega)
  have e2:decide ((i:Int)=(l.length:Int))=false:=decide_eq_false (by omega)
  have e3:cutOk (fr:Int) (i:Int) l=true:=by unfold cutOk;simp;omega
  have e4:decide (((l[i].toNat:Nat):Int)=(c.toNat:Int))=decide (l[i]=c):=by
   apply decide_eq_decide.2
   constructor
   ·intro h;exact UInt8.toNat_inj.1 (by omega)
   ·intro h;rw[h]
  simp only[e1,e2,cond_true,cond_false,inB_nat l i h,getD_toNat l i _ h,e4,Option.bind_some,wsucc h hB]
  by_cases hb:l[i]=c
  ·rw[decide_eq_true hb,if_pos hb,cond_true,e3,cond_true,decide_eq_true (p:=List.length out+_≤LIM) (by simp only[List.length_cons,List.length_nil];omega)]
   rfl
  ·rw[decide_eq_false hb,if_neg hb];rfl
 ·have e1:decide ((l.length:Int)≤(l.length:Int))=true:=by simp
  have e2:decide ((l.length:Int)=(l.length:Int))=true:=by simp
  have e3:cutOk (fr:Int) (l.length:Int) l=true:=by unfold cutOk;simp;omega
  have e5:IntKind.wrap .i64 ((l.length:Int)+1)=((l.length+1:Nat):Int):=by rw[wrap_id (by omega) (by unfold BIG at hB;omega)];omega
  rw[loopO_next (s':=(out++[cut (fr:Int) (l.length:Int) l],((l.length+1:Nat):Int),((l.length+1:Nat):Int))) (by
   simp only[e1,e2,cond_true,Option.bind_some,e3,e5]
   rw[decide_eq_true (p:=List.length out+_≤LIM) (by simp only[List.length_cons,List.length_nil];omega)];rfl)]
  refine loopO_out ?_
  have e6:decide (((l.length+1:Nat):Int)≤(l.length:Int))=false:=decide_eq_false (by omega)
  simp only[e6,cond_false]
end DL
end Go.Dx
set_option maxHeartbeats 2000000
namespace Go.Dx
theorem del_loop {α:Type} (l:List α) (d:α) (p:α→Bool) (f:List α×Int×Int→Option ((List α×Int×Int)⊕(List α×Int)))
  (hs:∀(X:List α) (j i:Nat) (h:i<X.length),X.length=l.length→j≤i→f (X,(j:Int),(i:Int))=some (.inl (if p X[i] then (X,(j:Int),((i+1:Nat):Int)) else (X.set j X[i],((j+1:Nat):Int),((i+1:Nat):Int)))))
  (he:∀(X:List α) (j:Nat),X.length=l.length→f (X,(j:Int),(l.length:Int))=some (.inr (X,(j:Int)))) :
  ∀(k j i:Nat) (X:List α),i+k=l.length→j≤i→X.length=l.length→X.take j=(l.take i).filter (fun a=>!p a)→X.drop i=l.drop i→
   ∃(X':List α) (j':Nat),loopO f (X,(j:Int),(i:Int))=some (X',(j':Int))∧X'.length=l.length∧j'≤l.length∧X'.take j'=l.filter (fun a=>!p a):=by
 intro k
 induction k with
 | zero=>
  intro j i X hi hj hX ht hd
  obtain rfl:i=l.length:=by omega
  exact⟨X,j,loopO_out (he X j hX),hX,hj,by rw[ht,List.take_length]⟩
 | succ k ih=>
  intro j i X hi hj hX ht hd
  have h:i<X.length:=by omega
  have h':i<l.length:=by omega
  have hx:X[i]=l[i]:=by
   rw[List.drop_eq_getElem_cons h,List.drop_eq_getElem_cons h'] at hd
   exact (List.cons.inj hd).1
  have hd':X.drop (i+1)=l.drop (i+1):=by
   rw[←List.drop_drop,←List.drop_drop,hd]
  have ht':(l.take (i+1)).filter (fun a=>!p a)=(l.take i).filter (fun a=>!p a)++[l[i]].filter (fun a=>!p a):=by
   rw[List.take_succ_eq_append_getElem h',List.filter_append]
  rw[loopO_next (hs X j i h hX hj)]
  rw[hx]
  cases hp:p l[i] with
  | true=>
   rw[if_pos rfl]
   refine ih j (i+1) X (by omega) (by omega) hX ?_ hd'
   rw[ht',ht];simp[hp]
  | false=>
   rw[if_neg (by simp)]
   refine ih (j+1) (i+1) (X.set j l[i]) (by omega) (by omega) (by simpa using hX) ?_ ?_
   ·rw[ht',←ht]
    have hj2:j<(X.set j l[i]).length:=by rw[List.length_set];omega
    rw[List.take_succ_eq_append_getElem hj2,List.take_set_of_le (Nat.le_refl _)]
    simp[hp]
   ·rw[List.drop_set_of_lt (by omega),hd']
theorem del_bind {α β:Type} (l:List α) (p:α→Bool) (k:Nat) (hk:k<l.length) (hpre:(l.take (k+1)).filter (fun a=>!p a)=l.take k) (f:List α×Int×Int→Option ((List α×Int×Int)⊕(List α×Int))) (G:List α×Int→Option β) (r:β)
  (hs:∀(X:List α) (j i:Nat) (h:i<X.length),X.length=l.length→j≤i→f (X,(j:Int),(i:Int))=some (.inl (if p X[i] then (X,(j:Int),((i+1:Nat):Int)) else (X.set j X[i],((j+1:Nat):Int),((i+1:Nat):Int)))))
  (he:∀(X:List α) (j:Nat),X.length=l.length→f (X,(j:Int),(l.length:Int))=some (.inr (X,(j:Int))))
  (hG:∀(X':List α) (j':Nat),X'.length=l.length→j'≤l.length→X'.take j'=l.filter (fun a=>!p a)→G (X',(j':Int))=some r) :
  (loopO f (l,(k:Int),((k+1:Nat):Int))).bind G=some r:=by
 obtain⟨X',j',e1,e2,e3,e4⟩:=del_loop l l[k] p f hs he (l.length - (k+1)) k (k+1) l (by omega) (by omega) rfl hpre.symm rfl
 rw[e1,Option.bind_some]
 exact hG X' j' e2 e3 e4
namespace DL
theorem P_IndexFunc_str (l:List (List UInt8)) (hl:l.length<BIG) (p:List UInt8→Bool) (f:List UInt8→Option Bool) (hf:∀a,a ∈ l→f a=some (p a)):F_slices_IndexFunc_Lstring_string l f=some (idxF p l):=by
 unfold F_slices_IndexFunc_Lstring_string
 refine loop_idx l p _ (fun i h=>?_) (by simp only[dge,cond_false])
 simp only[dlt h,inB_nat l i h,getD_toNat l i _ h,cond_true,hf _ (List.getElem_mem h),Option.bind_some,wsucc h hl]
 cases p l[i]<;>rfl
theorem P_DeleteFunc_str (l:List (List UInt8)) (hl:l.length<BIG) (p:List UInt8→Bool) (f:List UInt8→Option Bool) (hf:∀a,f a=some (p a)):F_slices_DeleteFunc_Lstring_string l f=some (l.filter (fun a=>!p a)):=by
 unfold F_slices_DeleteFunc_Lstring_string
 rw[P_IndexFunc_str l hl p f (fun a _=>hf a),Option.bind_some]
 cases hany:l.any p with
 | false=>
  have h1:idxF p l = -1:=(idxF_ge p l).1 ((idxF_neg p l).2 hany)
  rw[h1]
  simp only[decide_true,cond_true]
  congr 1
  refine (List.filter_eq_self.2 fun a ha=>?_).symm
  rw[List.any_eq_false] at hany
  simpa using hany a ha
 | true=>
  obtain⟨k,hk,h1,h2,h3⟩:=idxF_found hany
  rw[h1,decide_eq_false (by omega:¬(k:Int) = -1),cond_false,wsucc hk hl]
  have hpre:(l.take (k+1)).filter (fun a=>!p a)=l.take k:=by
   rw[List.take_succ_eq_append_getElem hk,List.filter_append]
   have e1:(l.take k).filter (fun a=>!p a)=l.take k:=List.filter_eq_self.2 fun a ha=>by
    obtain⟨j,hj,rfl⟩:=List.mem_iff_getElem.1 ha
    rw[List.length_take] at hj
    simp only[List.getElem_take]
    rw[h3 j (by omega)];rfl
   rw[e1]
   simp[h2]
  refine del_bind l p k hk hpre _ _ _ (fun X j i h hX hj=>?_) (fun X j hX=>by rw[←hX];simp only[dge,cond_false]) (fun X' j' e2 e3 e4=>?_)
  ·have e1:decide ((i:Int)<(X.length:Int))=true:=dlt h
   simp only[e1,inB_nat X i h,getD_toNat X i _ h,cond_true,hf,Option.bind_some,wsucc h (by omega:X.length<BIG),inB_nat X j (by omega),wsucc (by omega:j<X.length) (by omega:X.length<BIG)]
   cases p X[i] with
   | true=>rfl
   | false=>simp
  have c1:cutOk (j':Int) (X'.length:Int) X'=true:=by unfold cutOk;simp;omega
  have hcl:clr (s:=.str) (j':Int) (X'.length:Int) X'=X'.take j'++(List.replicate (X'.length - j') []++[]):=by
   unfold clr
   simp[Sh.dflt]
  have c2:cutOk 0 (j':Int) (clr (s:=.str) (j':Int) (X'.length:Int) X')=true:=by
   unfold cutOk
   rw[hcl]
   simp;omega
  rw[c1,c2,cond_true,cond_true,hcl]
  simp only[Int.sub_zero,Int.toNat_natCast,Int.toNat_zero,List.drop_zero]
  rw[List.take_append_of_le_length (by rw[List.length_take];omega),List.take_take,Nat.min_self,e4]
end DL
end Go.Dx
set_option maxHeartbeats 2000000
namespace Go.Dx
namespace DL
theorem LIM_BIG' {n:Nat} (h:n≤LIM):n<BIG:=by unfold LIM at h;unfold BIG;omega
def mWords (l:List UInt8):List (List UInt8):=(cuts 32 l).filter (fun w=>!decide (w=[]))
theorem P_spec_l16Words (l:List UInt8) (hl:l.length≤1048576):F_spec_l16Words l=some (mWords l):=by
 unfold F_spec_l16Words mWords
 rw[show (32:Int)=((32:UInt8).toNat:Int) from rfl,P_spec_l2Cut l 32 (by unfold LIM;omega),Option.bind_some]
 have hc:=cuts_len 32 l
 have hlim:(cuts 32 l).length≤LIM:=by unfold LIM;omega
 generalize cuts 32 l=y at *
 rw[loop_fold (σ:=List (List UInt8)) y (fun acc a=>if !decide (a=[]) then acc++[a] else acc) (fun t i=>(t,i)) (fun t=>t) (fun t i=>t.length≤i) _ (fun i h t ht=>by
  refine⟨?_,?_⟩
  ·simp only[dlt h,inB_nat y i h,getD_toNat y i _ h,cond_true,wsucc h (LIM_BIG' hlim)]
   cases hw:decide (y[i]=[]) with
   | true=>rfl
   | false=>
    simp only[Bool.not_false,cond_true,if_true]
    rw[append_one_lim t y[i] i ht (by omega)];rfl
  ·cases hw:decide (y[i]=[]) with
   | true=>simp;omega
   | false=>simp;omega) (fun t _=>by simp only[dge,cond_false]) [] (Nat.le_refl _),Option.bind_some,foldl_filter,List.nil_append]
theorem P_spec_WordsOf (l:List UInt8) (hl:l.length≤1048576):F_spec_WordsOf l=some (0,mWords l):=by
 unfold F_spec_WordsOf
 rw[P_spec_l16Words l hl];rfl
theorem P_impl_WordsOf (l:List UInt8) (hl:l.length≤1048576):F_impl_WordsOf l=some (0,mWords l):=by
 unfold F_impl_WordsOf F_impl_wordsOf F_strings_Split
 have hc:=cuts_len 32 l
 rw[splitS_eq (by simp) (by omega),Option.bind_some,split_cuts,P_DeleteFunc_str (cuts 32 l) (LIM_BIG' (by unfold LIM;omega)) (fun w=>decide (w=[])) (fun (a6:List UInt8)=>(F_impl_wordsOf_c1 a6).bind fun r7=>some r7) (fun a=>rfl)]
 rfl
theorem text_ok:∀(k:Nat) (v:Int) (acc:List UInt8) (f:Int×List UInt8→Option ((Int×List UInt8)⊕List UInt8))
  (hs:∀(v:Int) (acc:List UInt8),0<v→v<4611686018427387904→acc.length≤100→∃d,f (v,acc)=some (.inl (Int.tdiv v 10,d::acc))) (he:∀acc,f (0,acc)=some (.inr acc)),
  0≤v→v<10 ^ k→v<4611686018427387904→acc.length+k≤100→∃t,loopO f (v,acc)=some t∧t.length≤100
 | 0,v,acc,f,hs,he,h0,h1,h2,h3=>by
  have:v=0:=by simp at h1;omega
  subst this
  exact⟨acc,loopO_out (he acc),by omega⟩
 | k+1,v,acc,f,hs,he,h0,h1,h2,h3=>by
  by_cases hv:v=0
  ·subst hv;exact⟨acc,loopO_out (he acc),by omega⟩
  ·obtain⟨d,hd⟩:=hs v acc (by omega) h2 (by omega)
   rw[loopO_next hd]
   have e:Int.tdiv v 10=v / 10:=Int.tdiv_eq_ediv_of_nonneg h0
   rw[e]
   exact text_ok k (v / 10) (d::acc) f hs he (by omega) (by rw[Int.pow_succ] at h1;omega) (by omega) (by simp;omega)
theorem text_bind (v:Int) (h0:0≤v) (h2:v<4611686018427387904) (f:Int×List UInt8→Option ((Int×List UInt8)⊕List UInt8)) (G:List UInt8→Option (List UInt8))
  (hs:∀(v:Int) (acc:List UInt8),0<v→v<4611686018427387904→acc.length≤100→∃d,f (v,acc)=some (.inl (Int.tdiv v 10,d::acc))) (he:∀acc,f (0,acc)=some (.inr acc))
  (hG:∀t,t.length≤100→∃u,G t=some u):∃u,(loopO f (v,[])).bind G=some u:=by
 obtain⟨t,ht,hl⟩:=text_ok 19 v [] f hs he h0 (by omega) h2 (by simp)
 rw[ht];exact hG t hl
theorem P_markText (v:Int) (h0:0≤v) (h2:v<(BIG:Int)):∃u,F_laws_markText v=some u:=by
 have h2:v<4611686018427387904:=by unfold BIG at h2;omega
 unfold F_laws_markText
 by_cases hv:v≤0
 ·rw[decide_eq_true hv];exact⟨_,rfl⟩
 ·rw[decide_eq_false hv,cond_false]
  refine text_bind v h0 h2 _ _ (fun v acc h0 h2 ha=>?_) (fun acc=>by simp) (fun t ht=>?_)
  ·have e1:decide (0<v)=true:=decide_eq_true h0
   have e2:Int.tdiv v 10=v / 10:=Int.tdiv_eq_ediv_of_nonneg (by omega)
   have e3:IntKind.wrap .i64 (Int.tdiv v 10)=Int.tdiv v 10:=by rw[e2,wrap_id (by omega) (by omega)]
   simp only[e1,cond_true,e3]
   refine⟨UInt8.ofNat (IntKind.wrap .u8 (IntKind.wrap .i64 (48+(Int.tmod v 10)))).toNat,?_⟩
   rw[decide_eq_true (by simp only[List.length_map,List.length_cons,List.length_nil];unfold LIM;omega)]
   rfl
  ·rw[decide_eq_true (by simp only[List.length_cons,List.length_nil];unfold LIM;omega)]
   exact⟨_,rfl⟩
noncomputable def mkT (k:Int) (_:List UInt8):List UInt8:=(F_laws_markText k).getD []
theorem mkT_eq (k:Int) (h0:0≤k) (h2:k<(BIG:Int)) (a:List UInt8):F_laws_markText k=some (mkT k a):=by
 obtain⟨u,hu⟩:=P_markText k h0 h2
 unfold mkT
 rw[hu];rfl
theorem P_laws_markStringS (x:List (List UInt8)) (k:Int) (h0:0≤k) (hb:k+(x.length:Int)<(BIG:Int)):F_laws_markStringS x k=some (k+(x.length:Int),mkL (fun _=>1) mkT k x):=by
 unfold F_laws_markStringS
 have hcn:(cntL (fun _:List UInt8=>1) x:Nat)=x.length:=by rw[cntL_const];omega
 have hxB:x.length<BIG:=by omega
 rw[mark_loop (fun _=>1) mkT x k h0 (by rw[hcn];exact hb) _ (fun acc i k h ha hm h0 hb=>by
  have hB:acc.length<BIG:=by omega
  simp only[dlt h,inB_nat acc i h,cond_true,mkT_eq k h0 (by omega) acc[i],Option.bind_some,wsucc h hB,Int.toNat_natCast]
  rw[wrap_id (by omega) (by unfold BIG at hb;omega)];rfl) (fun acc k ha=>by rw[←ha];simp only[dge,cond_false]),Option.bind_some,hcn]
theorem P_laws_heldStringS (x:List (List UInt8)) (k:Int) (h0:0≤k) (hb:k+(x.length:Int)<(BIG:Int)):F_laws_heldStringS (mkL (fun _=>1) mkT k x) k=some (k+(x.length:Int)):=by
 unfold F_laws_heldStringS
 have hcn:(cntL (fun _:List UInt8=>1) x:Nat)=x.length:=by rw[cntL_const];omega
 have hlen:(mkL (fun _:List UInt8=>1) mkT k x).length=x.length:=mkL_len _ _ _ _
 have:=held_loop (fun _=>1) mkT x k h0 (by rw[hcn];exact hb)
 rw[hcn] at this
 refine this _ (fun i k' h h' h0 hb he=>?_) (fun k'=>?_)
 ·have hB:(mkL (fun _:List UInt8=>1) mkT k x).length<BIG:=by omega
  simp only[dlt h',inB_nat _ i h',getD_toNat _ i _ h',cond_true,mkT_eq k' h0 (by omega) x[i],Option.bind_some,wsucc h' hB,he]
  rw[wrap_id (by omega) (by unfold BIG at hb;omega)];simp
 ·rw[←hlen]
  simp only[dge,cond_false]
theorem P_laws_eqStringS (x:List (List UInt8)) (hx:x.length<BIG):F_laws_eqStringS x x=some true:=by
 unfold F_laws_eqStringS
 rw[decide_eq_true rfl,Bool.not_true,cond_false]
 rw[eq_loop x x rfl _ (fun i h h'=>by
  simp only[dlt h,inB_nat x i h,getD_toNat x i _ h,cond_true,wsucc h hx]
  simp) (by simp only[dge,cond_false])]
 simp
theorem law_FnExactWordsOf (l:List UInt8):F_laws_FnExactWordsOf l=some true:=by
 unfold F_laws_FnExactWordsOf
 by_cases hl:(1048576:Int)<(l.length:Int)
 ·rw[decide_eq_true hl];rfl
 ·rw[decide_eq_false hl,cond_false]
  have hl:l.length≤1048576:=by omega
  have hw:(mWords l).length≤1048577:=by
   have h1:=cuts_len 32 l
   have h2:=List.length_filter_le (fun w:List UInt8=>!decide (w=[])) (cuts 32 l)
   unfold mWords;omega
  have hB:(1:Int)+((mWords l).length:Int)<(BIG:Int):=by unfold BIG;omega
  rw[P_spec_WordsOf l hl,Option.bind_some,P_impl_WordsOf l hl,Option.bind_some]
  unfold F_laws_eqWordsResult F_laws_markWordsResult F_laws_heldWordsResult
  simp only[P_laws_eqStringS _ (by omega:(mWords l).length<BIG),P_laws_markStringS _ 1 (by omega) hB,Option.bind_some,decide_true,Bool.not_true,cond_false,P_laws_heldStringS _ 1 (by omega) hB]
  have e:decide ((1:Int)+((mWords l).length:Int)<0)=false:=decide_eq_false (by omega)
  simp[e]
end DL
end Go.Dx
