/- A LIBRARY: an executor over the code of a program, proved sound: what its letters say of a function is so (contract_of); how a row is closed by it (law_calls) -/
import Derived.Test.YtmklfdnhndakcaaGreatDoorDxb
import Derived.Below
import Derived.WideKeyArgs
import Derived.ChangeArms
import Derived.ProofKit
import Derived.KernelRfl
set_option linter.unusedVariables false
set_option linter.unusedSimpArgs false
namespace Go.Dx
variable {P:Program} {B:Base} {C:Ctx}
structure Ent where
 anc:Nat
 T:Msk
 W:Msk
 s:Env
def Ent.tr (E:Ent):Tr:=⟨E.anc,E.T,E.W⟩
def Zj (S:Nat->Bool):Nat->List Ent->Env->Env
 | _,[],e=>e
 | j,E::l,e=>Zj S (j+1) l (bif S j then mrgE E.W E.s e else e)
def Qjp (P:Program) (B:Base) (ops:Array Oper) (i:Nat) (I:Env) (E:Ent):Prop:=
 ∀(e:Env),I.sl.length=e.sl.length->I.bl.length=e.bl.length->(∀r,E.T.has r=true->I.root r=e.root r)->∀(g:Gh) (a:Act) (w:World) (Q:Exit->Act->World->Prop) (K:Act->World->Prop),Rel P B g e a w->
  (∀g' J w',Rel P B g' (mrgE E.W E.s e) J w'->(∃o v,ops[i]? = some o/\J=a.put o.dst v)->K J w')->wpOp P ops Q i K a w
structure Qiy (ops:Array Oper) (L0:List Ent) (e:Env) (E:Ent):Prop where
 sl:E.s.sl.length=e.sl.length
 bl:E.s.bl.length=e.bl.length
 sub:∀r,E.W.has r=true->E.T.has r=true
 op:∃o,ops[L0.length]? = some o/\E.anc=Qif (L0.map Ent.tr) o/\(∀d,d ∈ ZU o->d<L0.length)
 ap:QcV E.anc E.T E.W 0 (L0.map Ent.tr)=true
def Jn (P:Program) (B:Base) (ops:Array Oper) (ex:Nat->Bool):List Ent->List Ent->Env->Prop
 | _,[],_=>True
 | L0,E::l,e=>(ex L0.length=true\/Qjp P B ops L0.length e E)/\Qiy ops L0 e E/\Jn P B ops ex (L0++[E]) l (mrgE E.W E.s e)
theorem Qba (S:Nat->Bool):∀(l:List Ent) (j:Nat) (e:Env),(Zj S j l e).sl.length=e.sl.length/\(Zj S j l e).bl.length=e.bl.length
 | [],_,_=>⟨rfl,rfl⟩
 | E::l,j,e=>by
  simp[Zj];cases S j with
  | false=>exact Qba S l (j+1) e
  | true=>
   have:=Qba S l (j+1) (mrgE E.W E.s e)
   assumption
def Qj8 (e:Env) (L:List Ent):Prop:=∀E,E ∈ L->E.s.sl.length=e.sl.length/\E.s.bl.length=e.bl.length
theorem QeD {S S':Nat->Bool} {r:Root}:∀(l:List Ent) (j:Nat) (e e':Env),Qj8 e l->e'.sl.length=e.sl.length->e'.bl.length=e.bl.length->e.root r=e'.root r->
  (∀k E,l[k]? = some E->S (j+k) ≠ S' (j+k)->E.W.has r=false)->(Zj S j l e).root r=(Zj S' j l e').root r
 | [],j,e,e',_,_,_,h,_=>h
 | E::l,j,e,e',hl,l1,l2,h,hd=>by
  obtain⟨h1,h2⟩:=hl E aLm;have lens:∀(b:Bool) (x:Env),(bif b then mrgE E.W E.s x else x).sl.length=x.sl.length/\(bif b then mrgE E.W E.s x else x).bl.length=x.bl.length:=fun b x=>by cases b<;>simp[Qcp]
  refine QeD l (j+1) _ _ (fun I J=>?_) ?_ ?_ ?_ (fun k I hk U=>?_)
  ·rw[(lens _ _).1,(lens _ _).2];exact hl I (aLp _ J)
  ·rw[(lens _ _).1,(lens _ _).1];exact l1
  ·rw[(lens _ _).2,(lens _ _).2];exact l2
  ·have h0:=hd 0 E rfl
   have k1:(mrgE E.W E.s e).root r=if E.W.has r=true then E.s.root r else e.root r:=Qge h1 h2 r
   have k2:(mrgE E.W E.s e').root r=if E.W.has r=true then E.s.root r else e'.root r:=Qge (h1.trans l1.symm) (h2.trans l2.symm) r
   cases hS:S j<;>cases hS':S' j<;>simp
   ·grind
   ·simp_all
   ·simp_all
   simp_all
  ·exact hd (k+1) I (by simpa using hk) (by rw[show j+(k+1)=j+1+k by omega];exact U)
theorem QkE {S:Nat->Bool} {i:Nat} {Ei:Ent} {r:Root} (hr:Ei.W.has r=true):∀(l:List Ent) (j:Nat) (e:Env),Qj8 e l->j<=i->l[i - j]? = some Ei->
  (∀k E,l[k]? = some E->i<j+k->S (j+k)=true->E.W.has r=false)->(Zj (fun k=>S k || Nat.beq k i) j l e).root r=Ei.s.root r
 | [],j,e,_,_,hk,_=>by simp at hk
 | E::l,j,e,hl,hji,hk,hd=>by
  simp only[Zj];obtain⟨h1,h2⟩:=hl E aLm;have lens:∀(b:Bool) (x:Env),(bif b then mrgE E.W E.s x else x).sl.length=x.sl.length/\(bif b then mrgE E.W E.s x else x).bl.length=x.bl.length:=fun b x=>by cases b<;>simp[Qcp]
  by_cases hij:j=i
  ·subst hij
   rw[Nat.sub_self] at hk;simp at hk;subst hk;have hb:(S j || Nat.beq j j)=true:=by simp
   rw[hb];simp only[aLB];have:(Zj (fun k=>S k || Nat.beq k j) (j+1) l (mrgE E.W E.s e)).root r=(Zj (fun _=>false) (j+1) l (mrgE E.W E.s e)).root r:=by
    refine QeD l (j+1) _ _ (fun I J=>?_) rfl rfl rfl (fun k I hk U=>?_)
    ·rw[Qcp.1,Qcp.2];exact hl I (aLp _ J)
    ·refine hd (k+1) I (by simpa using hk) (by omega) ?_
     simp only[ne_eq,Bool.not_eq_false] at U;rcases aMC _ _ ▸ U with h | h
     ·rw[show j+(k+1)=j+1+k by omega];exact h
     ·have:=aLw h;omega
   rw[this];have hn:∀(l:List Ent) (j:Nat) (e:Env),Zj (fun _=>false) j l e=e:=by
    intro l;induction l with
    | nil=>intro j e;rfl
    | cons E l ih=>intro j e;simp only[Zj,aLC];exact ih _ _
   rw[hn,Qge h1 h2,if_pos hr]
  ·refine QkE hr l (j+1) _ (fun I J=>?_) (by omega) ?_ (fun k I hk' hik hS=>?_)
   ·rw[(lens _ _).1,(lens _ _).2];exact hl I (aLp _ J)
   ·grind
   ·exact hd (k+1) I (by simpa using hk') (by omega) (by rw[show j+(k+1)=j+1+k by omega];exact hS)
theorem Jn.get {ops:Array Oper} {ex:Nat->Bool}:∀(l L0:List Ent) (e:Env) (k:Nat) (E:Ent),Jn P B ops ex L0 l e->l[k]? = some E->
  (ex (L0.length+k)=true\/Qjp P B ops (L0.length+k) (Zj (fun j=>decide (j<L0.length+k)) L0.length l e) E)/\Qiy ops (L0++l.take k) e E
 | [],_,_,k,E,_,hk=>by simp at hk
 | I::l,L0,e,0,E,h,hk=>by
  simp at hk;subst hk;obtain⟨h1,h2,h3⟩:=h;have U:∀(l:List Ent) (j m:Nat) (e:Env),m<=j->Zj (fun j=>decide (j<m)) j l e=e:=by
   intro l;induction l with
   | nil=>intro j m e _;rfl
   | cons E l J=>intro j m e hm;simp[Zj,show decide (j<m)=false by simp;omega];exact J _ _ _ (by omega)
  simp_all
 | I::l,L0,e,k+1,E,h,hk=>by
  obtain⟨h1,h2,h3⟩:=h;obtain⟨h4,h5⟩:=Jn.get l (L0++[I]) _ k E h3 (by simpa using hk)
  have e1:L0.length+0+1+k=L0.length+(k+1):=by omega
  constructor
  ·simp[Zj]
   simp_all
  ·have:L0++List.take (k+1) (I::l)=L0++[I]++List.take k l:=by simp
   rw[this];exact⟨by rw[h5.sl,Qcp.1],by rw[h5.bl,Qcp.2],h5.sub,h5.op,h5.ap⟩
theorem Qk9 {anc:Nat} {T W:Msk}:∀(l:List Tr) (j k:Nat) (t:Tr),QcV anc T W j l=true->l[k]? = some t->bitN anc (j+k)=true\/(W.dj t.T/\t.W.dj T)
 | [],_,k,t,_,hk=>by simp at hk
 | t0::l,j,0,t,h,hk=>by
  simp at hk;subst hk;simp[QcV] at h;exact h.1.imp id fun hh=>⟨Qpt hh.1,Qpt hh.2⟩
 | t0::l,j,k+1,t,h,hk=>by
  simp[QcV] at h;have:=Qk9 l (j+1) k t h.2 (by simpa using hk)
  grind
theorem Qhh {ops:Array Oper} {ex:Nat->Bool} {L:List Ent} {I:Env} (hlen:L.length=ops.size) (U:Jn P B ops ex [] L I) {i:Nat} (hi:i<ops.size):∃E,L[i]? = some E/\(ex i=true\/Qjp P B ops i (Zj (fun j=>decide (j<i)) 0 L I) E)/\Qiy ops (L.take i) I E:=by
 have J:i<L.length:=by omega
 have h:=Jn.get L [] I i L[i] U (aLf J)
 simp_all
theorem Qua {ops:Array Oper} {ex:Nat->Bool} {L:List Ent} {e0:Env} (hlen:L.length=ops.size) (hT:Jn P B ops ex [] L e0) {S:Nat->Bool} (hS:∀i o,S i=true->ops[i]? = some o->∀d,d ∈ ZU o->S d=true):∀(i:Nat) (E:Ent) (o:Oper),L[i]? = some E->ops[i]? = some o->(∀d,d ∈ ZU o->S d=true)->∀j,bitN E.anc j=true->S j=true:=by
 intro i;induction i using Nat.strongRecOn with
 | _ i ih=>
  intro E o hE ho hd j hj;have hi:i<ops.size:=by
   grind
  obtain⟨E',J,_,U⟩:=Qhh hlen hT hi;rw[hE] at J;simp at J;subst J;have hlt:(L.take i).length=i:=by simp;omega
  obtain⟨o',I,hanc,hdl⟩:=U.op;rw[hlt] at I hdl;rw[ho] at I;simp at I;subst I;rw[hanc] at hj;obtain⟨d,hdd,hj⟩:=QvQ hj;have hdi:=hdl d hdd
  rcases hj with rfl | hj
  ·simp_all
  ·have hdL:((L.take i).map Ent.tr)[d]? = some (L[d]'(by omega)).tr:=by
    grind
   rw[hdL] at hj;have hod:ops[d]? = some (ops[d]'(by omega)):=Array.getElem?_eq_getElem (by omega)
   exact ih d hdi _ _ (aLf (by omega)) hod (fun d' hd'=>hS d _ (hd d hdd) hod d' hd') j hj
theorem QrG {ops:Array Oper} {ex:Nat->Bool} {L:List Ent} {e0:Env} (hlen:L.length=ops.size) (hT:Jn P B ops ex [] L e0) {i j:Nat} {U Ej:Ent} (hij:j<i) (hi:L[i]? = some U) (hj:L[j]? = some Ej):bitN U.anc j=true\/(U.W.dj Ej.T/\Ej.W.dj U.T):=by
 have hi':i<L.length:=(aLy.1 hi).1
 obtain⟨E',I,_,J⟩:=Qhh hlen hT (i:=i) (by omega)
 rw[hi] at I;simp at I;subst I;have:=Qk9 _ 0 j Ej.tr J.ap (by rw[List.getElem?_map,List.getElem?_take,if_pos hij,hj];rfl)
 rwa [aMf] at this
theorem Qg9 {ops:Array Oper} {ex:Nat->Bool} {L:List Ent} {U:Env} (hlen:L.length=ops.size) (hT:Jn P B ops ex [] L U):Qj8 U L:=by
 intro E hE;obtain⟨i,hi,rfl⟩:=List.getElem_of_mem hE;obtain⟨E',J,_,I⟩:=Qhh hlen hT (i:=i) (by omega)
 rw[aLf hi] at J;simp at J;subst J;exact⟨I.sl,I.bl⟩
theorem Qk1 {ops:Array Oper} {ex:Nat->Bool} {L:List Ent} {e0:Env} (hlen:L.length=ops.size) (hT:Jn P B ops ex [] L e0) {S:Nat->Bool} (hS:∀i o,S i=true->ops[i]? = some o->∀d,d ∈ ZU o->S d=true) {i:Nat} {Ei:Ent} {o:Oper} (hE:L[i]? = some Ei) (ho:ops[i]? = some o) (hni:S i=false) (hd:∀d,d ∈ ZU o->S d=true)
  {j:Nat} {Ej:Ent} (hj:L[j]? = some Ej) (hne:S j ≠ decide (j<i)) (hji:j ≠ i):Ej.W.dj Ei.T:=by
 rcases aMg j i with I | hge
 ·have J:S j=false:=by simpa [I] using hne
  rcases QrG hlen hT I hE hj with h | h
  ·have:=Qua hlen hT hS i Ei o hE ho hd j h
   simp_all
  simp_all
 ·have I:i<j:=by omega
  have J:S j=true:=by
   grind
  rcases QrG hlen hT I hj hE with h | h
  ·have U:j<ops.size:=by rw[<-hlen];exact (aLy.1 hj).1
   have hoj:ops[j]? = some (ops[j]'U):=Array.getElem?_eq_getElem U
   have:=Qua hlen hT hS j Ej _ hj hoj (hS j _ J hoj) i h
   simp_all
  simp_all
theorem Ql1 {ops:Array Oper} {ex:Nat->Bool} {L:List Ent} {I:Env} (hlen:L.length=ops.size) (hT:Jn P B ops ex [] L I) {S:Nat->Bool} (hS:∀i o,S i=true->ops[i]? = some o->∀d,d ∈ ZU o->S d=true) {i:Nat} {Ei:Ent} {o:Oper} (hE:L[i]? = some Ei) (ho:ops[i]? = some o) (U:S i=false) (hd:∀d,d ∈ ZU o->S d=true)
  {r:Root} (hr:Ei.T.has r=true):(Zj (fun j=>decide (j<i)) 0 L I).root r=(Zj S 0 L I).root r:=by
 refine QeD L 0 I I (Qg9 hlen hT) rfl rfl rfl (fun k E hk J=>?_)
 rw[aMf] at J;by_cases hki:k=i
 ·simp_all
 ·have:=Qk1 hlen hT hS hE ho U hd hk (Ne.symm J) hki
  cases hW:E.W.has r with
  | false=>rfl
  | true=>have:=this _ hW;rw[hr] at this;cases this
theorem QkX {ops:Array Oper} {ex:Nat->Bool} {L:List Ent} {I:Env} (hlen:L.length=ops.size) (hT:Jn P B ops ex [] L I) {S:Nat->Bool} (hS:∀i o,S i=true->ops[i]? = some o->∀d,d ∈ ZU o->S d=true) {i:Nat} {Ei:Ent} {o:Oper} (hE:L[i]? = some Ei) (ho:ops[i]? = some o) (hni:S i=false) (hd:∀d,d ∈ ZU o->S d=true) :
  Zj (fun k=>S k || Nat.beq k i) 0 L I=mrgE Ei.W Ei.s (Zj S 0 L I):=by
 have hl:=Qg9 hlen hT Ei (List.mem_of_getElem? hE)
 have hi:i<ops.size:=by rw[<-hlen];exact (aLy.1 hE).1
 obtain⟨E',J,_,U⟩:=Qhh hlen hT hi;rw[hE] at J;simp at J;subst J;have hf:=Qba S L 0 I
 have hf':=Qba (fun k=>S k || Nat.beq k i) L 0 I
 apply Qhe
 ·rw[Qcp.1,hf.1,hf'.1]
 ·rw[Qcp.2,hf.2,hf'.2]
 ·intro r
  rw[Qge (hl.1.trans hf.1.symm) (hl.2.trans hf.2.symm)];cases hW:Ei.W.has r with
  | true=>
   refine QkE hW L 0 I (Qg9 hlen hT) (Nat.zero_le _) (by simpa using hE) (fun k E hk hik hSk=>?_)
   rw[aMf] at hik hSk;have hap:=Qk1 hlen hT hS hE ho hni hd hk (by rw[hSk,show decide (k<i)=false from aLD (by omega)];simp) (by omega)
   cases hW':E.W.has r with
   | false=>rfl
   | true=>have h1:=hap _ hW';rw[U.sub _ hW] at h1;cases h1
  | false=>
   refine QeD L 0 I I (Qg9 hlen hT) rfl rfl rfl (fun k E hk hne=>?_)
   simp_all
theorem Qpp {ops:Array Oper} {ex:Nat->Bool} {L:List Ent} {U:Env} (hlen:L.length=ops.size) (hT:Jn P B ops ex [] L U) {Q:Exit->Act->World->Prop} {S:World->Prop} {R:Act->Prop} (hR:∀(i:Nat) (o:Oper) (a:Act) (v:Value),ex i=false->ops[i]? = some o->R a->R (a.put o.dst v)) (hSv:∀(listed:Nat->Bool) g a w,(∀i,ex i=true->listed i=true)->Rel P B g (Zj listed 0 L U) a w->R a->S w) (hQ:∀g a w,Rel P B g (Zj (fun _=>true) 0 L U) a w->R a->Q .normal a w) :
  ∀(fuel:Nat) (listed:Array Bool) (g:Gh) (a:Act) (w:World),listed.size=ops.size->((List.range ops.size).countP (fun j=>!listed.getD j false))<=fuel->
   (∀i o,listed.getD i false=true->ops[i]? = some o->∀d,d ∈ ZU o->listed.getD d false=true)->(∀i,ex i=true->listed.getD i false=true)->Rel P B g (Zj (fun j=>listed.getD j false) 0 L U) a w->R a->wpAnyH P .any ops Q S fuel listed a w:=by
 have key:∀(listed:Array Bool) (g:Gh) (a:Act) (w:World),listed.size=ops.size->Region.ready .any ops listed=[]->Rel P B g (Zj (fun j=>listed.getD j false) 0 L U) a w->R a->Q .normal a w:=by
  intro listed g a w hsz hr I hRa;have hall:∀i,i<ops.size->listed.getD i false=true:=by
   intro i;induction i using Nat.strongRecOn with
   | _ i ih=>
    intro hi;cases hl:listed.getD i false with
    | true=>rfl
    | false=>
     exfalso;have hmem:i ∈ Region.ready .any ops listed:=by
      rw[mem_ready];have hoi:ops[i]? = some (ops[i]'hi):=Array.getElem?_eq_getElem hi
      refine⟨?_,_,hoi,fun e he hb=>?_⟩
      ·have:i<listed.size:=by omega
       simp[Array.getD,this] at hl ⊢;exact hl
      ·obtain⟨E,hE,_,hside⟩:=Qhh hlen hT hi
       have hlt:(L.take i).length=i:=by simp;omega
       obtain⟨o',ho',_,hdl⟩:=hside.op;rw[hlt] at ho' hdl;rw[hoi] at ho';simp only[aLb] at ho';subst ho';have hd:e.on ∈ ZU (ops[i]'hi):=by
        simp only[ZU,List.mem_map,aMv];exact⟨e,⟨by simpa using he,hb⟩,rfl⟩
       have:=hdl _ hd
       exact ih _ this (by omega)
     rw[hr] at hmem;cases hmem
  refine hQ g a w ?_ hRa;have:Zj (fun _=>true) 0 L U=Zj (fun j=>listed.getD j false) 0 L U:=by
   have hf:=Qba (fun _=>true) L 0 U
   have hf':=Qba (fun j=>listed.getD j false) L 0 U
   refine Qhe (hf.1.trans hf'.1.symm) (hf.2.trans hf'.2.symm) (fun r=>?_)
   refine QeD L 0 U U (Qg9 hlen hT) rfl rfl rfl (fun k E hk hne=>?_)
   have hk':k<ops.size:=by rw[<-hlen];exact (aLy.1 hk).1
   rw[aMf,hall k hk'] at hne;exact absurd rfl hne
  rw[this];exact I
 intro fuel;induction fuel with
 | zero=>
  intro listed g a w hsz hc hS hex I hRa;have hr:Region.ready .any ops listed=[]:=by
   apply List.eq_nil_iff_forall_not_mem.2;intro i hi;rw[mem_ready] at hi;obtain⟨h1,o,ho,_⟩:=hi;have hio:i<ops.size:=by
    rcases aMg i ops.size with h | h
    ·exact h
    ·rw[Array.getElem?_eq_none h] at ho;cases ho
   have h0:(List.range ops.size).countP (fun j=>!listed.getD j false)=0:=by omega
   rw[List.countP_eq_zero] at h0;have:=h0 i (List.mem_range.2 hio)
   have hil:i<listed.size:=by omega
   simp[Array.getD,hil] at this h1;rw[h1] at this;cases this
  exact⟨hr,key listed g a w hsz hr I hRa⟩
 | succ fuel ih=>
  intro listed g a w hsz hc hS hex I hRa;refine⟨fun hr=>key listed g a w hsz hr I hRa,fun i hi=>?_⟩
  rw[mem_ready] at hi;obtain⟨h1,o,ho,hdeps⟩:=hi;have hio:i<ops.size:=by
   rcases aMg i ops.size with h | h
   ·exact h
   ·rw[Array.getElem?_eq_none h] at ho;cases ho
  have hil:i<listed.size:=by omega
  have hni:listed.getD i false=false:=by simp[Array.getD,hil] at h1 ⊢;exact h1
  have hd:∀d,d ∈ ZU o->listed.getD d false=true:=by
   intro d hd;simp only[ZU,List.mem_map,aMv] at hd;obtain⟨x,⟨hx,hb⟩,rfl⟩:=hd;exact hdeps x (by simpa using hx) hb
  obtain⟨E,hE,hok,hside⟩:=Qhh hlen hT hio;have hexi:ex i=false:=by
   cases hx:ex i with
   | false=>rfl
   | true=>have:=hex i hx;rw[hni] at this;cases this
  have hok:=hok.resolve_left (by rw[hexi];simp)
  have J:∀j,(listed.setIfInBounds i true).getD j false=(listed.getD j false || Nat.beq j i):=by
   intro j;by_cases hji:j=i
   ·subst hji
    simp[Array.getD,hil]
   ·rw[getD_set_ne false (Ne.symm hji)]
    have:Nat.beq j i=false:=by
     cases hb:Nat.beq j i with
     | false=>rfl
     | true=>exact absurd (aLw hb) hji
    rw[this,Bool.or_false]
  have hfl:=Qba (fun j=>decide (j<i)) L 0 U
  have hfl':=Qba (fun j=>listed.getD j false) L 0 U
  refine hok _ (hfl.1.trans hfl'.1.symm) (hfl.2.trans hfl'.2.symm) (fun r hr=>Ql1 hlen hT hS hE ho hni hd hr) g a w Q _ I (fun g' a' w' hrel' hput=>?_)
  obtain⟨o',v,ho',rfl⟩:=hput;have hfold:Rel P B g' (Zj (fun j=>(listed.setIfInBounds i true).getD j false) 0 L U) (a.put o'.dst v) w':=by
   have:(fun j=>(listed.setIfInBounds i true).getD j false)=(fun k=>listed.getD k false || Nat.beq k i):=funext J
   rw[this,QkX hlen hT hS hE ho hni hd];exact hrel'
  have hex':∀j,ex j=true->(listed.setIfInBounds i true).getD j false=true:=fun j hj=>by rw[J,hex j hj];rfl
  have hRa':=hR i o' a v hexi ho' hRa
  refine⟨hSv _ g' _ w' hex' hfold hRa',ih _ g' _ w' (by simpa using hsz) ?_ ?_ hex' hfold hRa'⟩
  ·have hlt:(List.range ops.size).countP (fun j=>!(listed.setIfInBounds i true).getD j false)<(List.range ops.size).countP (fun j=>!listed.getD j false):=by
    have gen:∀(l:List Nat),i ∈ l->l.countP (fun j=>!(listed.setIfInBounds i true).getD j false)<l.countP (fun j=>!listed.getD j false):=by
     intro l;have le:∀(l:List Nat),l.countP (fun j=>!(listed.setIfInBounds i true).getD j false)<=l.countP (fun j=>!listed.getD j false):=fun l=>List.countP_mono_left (fun j _ hj=>by
      simp only[J j,Bool.not_eq_true',Bool.or_eq_false_iff] at hj ⊢;exact hj.1)
     induction l with
     | nil=>intro h;cases h
     | cons x l ihl=>
      intro hx;simp only[List.countP_cons];by_cases hxi:x=i
      ·subst hxi
       have h2:=le l
       rw[if_neg (by rw[J x,hni];simp),if_pos (by rw[hni];rfl)];omega
      ·have hx':i ∈ l:=(List.mem_cons.1 hx).resolve_left (Ne.symm hxi)
       have h2:=ihl hx'
       have h3:(listed.setIfInBounds i true).getD x false=listed.getD x false:=getD_set_ne false (Ne.symm hxi)
       rw[h3];omega
    exact gen _ (List.mem_range.2 hio)
   omega
  ·intro j oj hj hoj d hdj
   rw[J] at hj ⊢;rcases aMC _ _ ▸ hj with hj | hj
   ·rw[hS j oj hj hoj d hdj];rfl
   ·have:=aLw hj
    subst this;rw[ho] at hoj;simp only[aLb] at hoj;subst hoj;rw[hd d hdj];rfl
end Go.Dx
namespace Go.Dx
variable {P:Program} {B:Base} {C:Ctx}
theorem Qnt {e:Env} {g:Tmp} {c:Bool} (h:(e.s g).d=.v .bool .z c):setG e g c=e:=by
 have I:(e.root (.s g)).d=.v .bool .z c:=h
 apply Qhe
 ·rfl
 ·rfl
 ·intro r
  unfold setG;rw[Zv I];split
  ·rename_i hh;subst hh;rw[<-I]
  rfl
theorem Qk0 {e:Env} {g:Tmp} {c:Bool} (h:Qme e g=some c):(e.s g).d=.v .bool .z c:=by
 unfold Qme at h
 grind
theorem Qos {ops:Array Oper} {g:Gh} {e:Env} {a:Act} {w:World} (h:Rel P B g e a w) {j:Nat} {t:Tmp} (J:(ops[j]?).bind (·.dst)=some t) {b:Bool} (hd:(e.s t).d=.v .bool .z b):yielded ops a.tmps j=some b:=by
 have h1:=h.sl t
 rw[hd] at h1;have hv:=Qfj rfl h1
 unfold yielded;rcases aMg t a.tmps.size with I | I
 ·simp_all
 ·rw[Array.getD_eq_getD_getElem?,Array.getElem?_eq_none I] at hv
  cases hv
theorem Qoc {ops:Array Oper} {g:Gh} {e:Env} {a:Act} {w:World} (h:Rel P B g e a w) {j:Nat} {t:Tmp} (J:(ops[j]?).bind (·.dst)=some t) (hd:(e.s t).d=.und):yielded ops a.tmps j=none:=by
 have h1:=h.sl t
 rw[hd] at h1;have hv:a.tmps.getD t undef=undef:=h1
 unfold yielded;rw[J,aLc];rcases aMg t a.tmps.size with I | I
 ·rw[Array.getD_eq_getD_getElem?,Array.getElem?_eq_getElem I] at hv
  simp at hv;rw[Array.getElem?_eq_getElem I,hv];rfl
 simp_all
theorem Qk3 {e:Env} {g:Tmp} (h:QiU e g=true):(e.s g).d=.und:=by
 unfold QiU at h
 grind
def Deci (ops:Array Oper) (e:Env) (T:Root->Prop) (o:Oper) (act:Bool):Prop:=
 (o.guard=none/\act=true)\/∃j want t,o.guard=some (j,want)/\(ops[j]?).bind (·.dst)=some t/\T (.s t)/\((e.s t).d=.v .bool .z (if act then want else !want)\/((e.s t).d=.und/\act=false))
theorem Qn7 {ops:Array Oper} {g:Gh} {I e:Env} {a:Act} {w:World} {T:Root->Prop} {o:Oper} {act:Bool} (h:Rel P B g e a w) (hd:Deci ops I T o act) (J:∀r,T r->I.root r=e.root r):Region.wanted o (yielded ops a.tmps)=act:=by
 rcases hd with ⟨h1,rfl⟩ | ⟨j,want,t,h1,h2,h3,h4⟩
 ·simp[Region.wanted,h1]
 ·have het:e.s t=I.s t:=(J _ h3).symm
  rcases h4 with h4 | ⟨h4,rfl⟩
  ·have h5:(e.s t).d=.v .bool .z (if act then want else !want):=by rw[het];exact h4
   have:=Qos h h2 h5
   simp[Region.wanted,h1]
   grind
  ·have:=Qoc h h2 (by rw[het];exact h4)
   simp only[Region.wanted,h1,this];rfl
theorem QtI (hT:QR P C) (hC:Qae P B.g0 B.dm C) {ops:Array Oper} {i:Nat} {o:Oper} {J:Env} {T:Msk} {anc:Nat} (ho:ops[i]? = some o) (hg:Deci ops J (fun r=>T.has r=true) o true) (hd:QbE T J o=true)
  {frz:Fz} {f:Eff} {s':Env} (hs:Qn C frz (QS T J) o=some f) (U:f.gives s'):Qjp P B ops i J ⟨anc,T,chgE T (QS T J) s',s'⟩:=by
 intro e h1 h2 ha g a w Q K I hK;obtain⟨f',hf',hg'⟩:=Qmi h1 h2 ha hd hs U;unfold wpOp;rw[ho];simp only;rw[Qn7 I hg ha];exact .inl (QiZ hT hC I hf' hg' K Q (fun g' a' w' hr ⟨v,hv⟩=>hK g' a' w' hr ⟨o,v,ho,hv⟩))
theorem Qr9 {ops:Array Oper} {i:Nat} {o:Oper} {J:Env} {T:Msk} {anc:Nat} (ho:ops[i]? = some o) (hg:Deci ops J (fun r=>T.has r=true) o false) (hd:QbE T J o=true) :
  Qjp P B ops i J ⟨anc,T,chgE T (QS T J) ((QS T J).dst o.dst .und),(QS T J).dst o.dst .und⟩:=by
 intro e h1 h2 U g a w Q K I hK;unfold wpOp;rw[ho];simp only;rw[Qn7 I hg U];obtain⟨g',_,_,hr⟩:=I.dst 0 o.dst (d:=.und) rfl;rw[Qmp h1 h2 U hd] at hr
 grind
theorem Qq1 {ops:List Oper} {i:Nat} {o:Oper} {I:List Tr} {T:Msk} {e s':Env} {q:Tr×Env} (h:commit ops i o I T e s'=some q) :
  QbE T e o=true/\(∀d,d ∈ ZU o->d<i)/\QcV (Qif I o) T (chgE T (QS T e) s') 0 I=true/\q=(⟨Qif I o,T,chgE T (QS T e) s'⟩,mrgE (chgE T (QS T e) s') s' e):=by
 simp[commit] at h;cases J:QbE T e o&&(ZU o).all (fun d=>Nat.blt d i)&&QcV (Qif I o) T (chgE T (QS T e) s') 0 I with
 | false=>simp_all
 | true=>
  simp_all
theorem Qvg {ops:List Oper} {e:Env} {o:Oper} {j:Nat} {want:Bool} {t:Tmp} (I:o.guard=some (j,want)) (J:Qfx ops j=some t):(touch ops e o).has (.s t)=true:=by
 simp[touch,I,J,Msk.has,Qhn]
theorem Qmd (hT:QR P C) (hC:Qae P B.g0 B.dm C) {ops:Array Oper} {L0:List Ent} {o:Oper} {e:Env} (ho:ops[L0.length]? = some o) {act:Bool} (U:Deci ops e (fun r=>(touch ops.toList e o).has r=true) o act) {s':Env} {q:Tr×Env}
  (h:commit ops.toList L0.length o (L0.map Ent.tr) (touch ops.toList e o) e s'=some q)
  (J:if act then ∃frz f,Qn C frz (QS (touch ops.toList e o) e) o=some f/\f.gives s' else s'=(QS (touch ops.toList e o) e).dst o.dst .und) :
  ∃E:Ent,E.tr=q.1/\E.s=s'/\q.2=mrgE E.W E.s e/\Qjp P B ops L0.length e E/\Qiy ops L0 e E/\Zi e q.2/\QbE E.T e o=true/\E.T=touch ops.toList e o/\E.W=q.1.W/\Zi (QS E.T e) s':=by
 obtain⟨hd,I,hap,rfl⟩:=Qq1 h;cases act with
 | true=>
  obtain⟨frz,f,J,hf⟩:=J;have hle:=Qfn J hf
  obtain⟨f',hf',hg'⟩:=Qmi rfl rfl (fun _ _=>rfl) hd J hf
  exact⟨⟨_,_,_,s'⟩,rfl,rfl,rfl,QtI hT hC ho U hd J hf,⟨hle.sl,hle.bl,Qrr,⟨o,ho,rfl,I⟩,hap⟩,Qfn hf' hg',hd,rfl,rfl,hle⟩
 | false=>
  subst J;have hle:=QhG (QS (touch ops.toList e o) e) o.dst .und
  exact⟨⟨_,_,_,_⟩,rfl,rfl,rfl,Qr9 ho U hd,⟨hle.sl,hle.bl,Qrr,⟨o,ho,rfl,I⟩,hap⟩,by rw[<-Qmp rfl rfl (fun _ _=>rfl) hd];exact QhG _ _ _,hd,rfl,rfl,hle⟩
theorem Qqt {ops:Array Oper} {o:Oper} {l:List Oper} {L0:List Ent} (E:Ent) (I:∀j,(o::l)[j]? = ops[L0.length+j]?) (j:Nat):l[j]? = ops[(L0++[E]).length+j]?:=by
 have:=I (j+1)
 grind
def Traced (P:Program) (B:Base) {R:Type} (ops:Array Oper) (k:Env->Option R) (r:R) (L0:List Ent) (l:List Oper) (e:Env):Prop:=
 ∃L,L.length=l.length/\Jn P B ops (fun _=>false) L0 L e/\Zi e (Zj (fun _=>true) L0.length L e)/\k (Zj (fun _=>true) L0.length L e)=some r
theorem QsK (hT:QR P C) (hC:Qae P B.g0 B.dm C) {R:Type} {id:Nat} {ops:Array Oper} {k:Env->Option R} {r:R}:∀(l:List Oper) (L0:List Ent) (e:Env),(∀j,l[j]? = ops[L0.length+j]?)->regD C id ops.toList L0.length l (L0.map Ent.tr) e k=some r->Traced P B ops k r L0 l e:=by
 intro l;induction l with
 | nil=>intro L0 e _ h;exact⟨[],rfl,trivial,.refl e,h⟩
 | cons o l ih=>
  intro L0 e hl h;have ho:ops[L0.length]? = some o:=by simpa using (hl 0).symm
  have go:∀{act:Bool} {s':Env} {q:Tr×Env},Deci ops e (fun r=>(touch ops.toList e o).has r=true) o act->commit ops.toList L0.length o (L0.map Ent.tr) (touch ops.toList e o) e s'=some q->
    (if act then ∃frz f,Qn C frz (QS (touch ops.toList e o) e) o=some f/\f.gives s' else s'=(QS (touch ops.toList e o) e).dst o.dst .und)->regD C id ops.toList (L0.length+1) l (L0.map Ent.tr++[q.1]) q.2 k=some r->Traced P B ops k r L0 (o::l) e:=by
   intro act s' q J hc hs h;obtain⟨E,h1,h2,h3,hok,hside,hle,_⟩:=Qmd (B:=B) hT hC ho J hc hs;rw[<-h1,h3] at h;obtain⟨L,hL,htr,hle2,hk⟩:=ih (L0++[E]) _ (Qqt E hl) (by simpa using h)
   rw[aLi,aMj] at hle2 hk;exact⟨E::L,by simp[hL],⟨.inr hok,hside,htr⟩,(h3 ▸ hle).trans hle2,hk⟩
  have act:Deci ops e (fun r=>(touch ops.toList e o).has r=true) o true->doD C id ops.toList L0.length o (L0.map Ent.tr) e (fun q=>regD C id ops.toList (L0.length+1) l (L0.map Ent.tr++[q.1]) q.2 k)=some r->Traced P B ops k r L0 (o::l) e:=fun J h=>by
   obtain⟨f,s',hs,hf,h⟩:=Qg0 h;obtain⟨q,hq,h⟩:=aLa.1 h;exact go J hq ⟨_,f,hs,hf⟩ h
  have skip:Deci ops e (fun r=>(touch ops.toList e o).has r=true) o false->undD ops.toList L0.length o (L0.map Ent.tr) e (fun q=>regD C id ops.toList (L0.length+1) l (L0.map Ent.tr++[q.1]) q.2 k)=some r->Traced P B ops k r L0 (o::l) e:=fun J h=>by
   obtain⟨q,hq,h⟩:=aLa.1 h;exact go J hq rfl h
  unfold regD at h;simp only at h;split at h
  ·rename_i I
   exact act (.inl ⟨I,rfl⟩) h
  ·rename_i j want I
   split at h
   ·cases h
   ·rename_i t ht
    have U:(ops[j]?).bind (·.dst)=some t:=by simpa [Qfx] using ht
    have hin:=Qvg (e:=e) I ht
    cases hu:QiU e t with
    | true=>rw[hu,aLB] at h;exact skip (.inr ⟨j,want,t,I,U,hin,.inr ⟨Qk3 hu,rfl⟩⟩) h
    | false=>
     rw[hu,aLC] at h;split at h
     ·cases h
     ·rename_i c hc
      have hcd:=Qk0 hc
      cases want<;>cases c<;>simp only[aLB,aLC,aMa,aMB,Qnt hcd] at h
      ·exact act (.inr ⟨j,_,t,I,U,hin,.inl hcd⟩) h
      ·exact skip (.inr ⟨j,_,t,I,U,hin,.inl hcd⟩) h
      ·exact skip (.inr ⟨j,_,t,I,U,hin,.inl hcd⟩) h
      ·exact act (.inr ⟨j,_,t,I,U,hin,.inl hcd⟩) h
theorem QuR {y:Operand} (h:isNil y=true):y=.const (.slice none 0 0):=by
 unfold isNil at h
 grind
theorem QwG (hT:QR P C) {g:Gh} {e:Env} {a:Act} {w:World} (h:Rel P B g e a w) {o:Oper} {em:Bool} (I:QsN C e o=some em):∃b,(em=false->b=false)/\QD P B a w o (e.dst o.dst (.v .bool .z b)):=by
 unfold QsN at I;split at I
 ·rename_i t x y ty ho
  cases U:isNil y with
  | false=>rw[U] at I;cases I
  | true=>
   rw[U,aLB] at I;obtain rfl:=QuR U;split at I
   ·rename_i ti hti
    split at I
    ·rename_i s l hrd
     cases hd:decide (ti.sh=.list s) with
     | false=>rw[hd] at I;cases I
     | true=>
      rw[hd,aLB] at I;simp only[aLb] at I;subst I;obtain⟨Tx,hx,_,_⟩:=QC h x;obtain⟨S1,f1,o1,r1,_⟩:=QbC h hx hrd;obtain⟨el,te,hu,_⟩:=QgJ hT hti (aLG hd);have J:∃A n cap,a.eval x=.slice A n cap/\List.length l=n/\(A=none->n=0):=by
       obtain⟨hf,hr⟩:=r1;have hc:(a.eval x).cells = #[a.eval x]:=hf
       cases f1 with
       | z=>
        obtain⟨A,n,cap,h1,h2,h3,h4⟩:=hr;simp only[Qg,hc] at h1;refine⟨A,n,cap,by simpa using h1,h2,fun hA=>?_⟩
        simp_all
       | o fo=>
        obtain⟨A,n,cap,h1,h2,h3,h4⟩:=hr;simp only[Qg,hc] at h1;refine⟨A,n,cap,by simpa using h1,h2,fun hA=>?_⟩
        simp_all
       | x=>simp[okS] at o1
       | p fa fb=>simp[okS] at o1
       | h f0 i0=>simp[okS] at o1
      obtain⟨A,n,cap,hv,hl,hA⟩:=J;refine⟨A.isNone,fun he=>?_,.plain (v:=.bool A.isNone) h (QiX ho ?_ ?_) ⟨rfl,fun _=>rfl⟩⟩
      ·cases A with
       | some ad=>rfl
       | none=>
        simp_all
      ·rw[hv]
       simp[eqGuard,Act.eval]
      ·rw[hv]
       have hq:(Op.equal t (.slice A n cap) (.slice none 0 0)).run P w=.ok A.isNone w:=by
        have key:∀d,(Op.equalIn (d+1) t (.slice A n cap) (.slice none 0 0)).run P w=.ok A.isNone w:=by
         intro d;unfold Op.equalIn;cases A<;>simp[run_underlying hu]
        exact key (Op.maxDepth - 1)
       simp[binOp,Act.eval,hq]
    ·cases I
   ·cases I
 ·cases I
theorem QsJ {R:Type} {a b:Option R} {r:R} (h:agree a b=some r):a=some r/\b=some r:=by
 unfold agree at h
 grind
theorem Qwh (hT:QR P C) (hC:Qae P B.g0 B.dm C) {R:Type} {id:Nat} {ops:Array Oper} {k:Env->Option R} {r:R} {Rk:Act->Prop} (hR:∀(i:Nat) (o:Oper) (a:Act) (v:Value),ops[i]? = some o->Rk a->Rk (a.put o.dst v)) {Q:Exit->Act->World->Prop} {e00:Env}
  (hQ:∀g e a w,Rel P B g e a w->Zi e00 e->Rk a->k e=some r->Q .normal a w):∀(l:List Oper) (i:Nat) (e:Env) (g:Gh) (a:Act) (w:World),(∀j,l[j]? = ops[i+j]?)->regK C id ops.toList i l e k=some r->Rel P B g e a w->Zi e00 e->Rk a->wpOps P ops Q (List.range' i l.length) a w:=by
 intro l;induction l with
 | nil=>intro i e g a w _ h U hle hk;exact hQ g e a w U hle hk h
 | cons o l ih=>
  intro i e g a w hl h U hle hk;have ho:ops[i]? = some o:=by simpa using (hl 0).symm
  have hl':∀j,l[j]? = ops[i+1+j]?:=fun j=>by have:=hl (j+1);rw[show i+1+j=i+(j+1) by omega];simpa using this
  rw[aLh,List.range'_succ,wpOps_cons];unfold wpOp;rw[ho];simp only;have act:∀(e:Env),Rel P B g e a w->Zi e00 e->Region.wanted o (yielded ops a.tmps)=true->runE (Qn C (modP id i C.frz) e o) (fun e=>regK C id ops.toList (i+1) l e k)=some r->
    (if Region.wanted o (yielded ops a.tmps)=true then o.wp P a w (wpOps P ops Q (List.range' (i+1) l.length)) Q\/(o.asks P a w/\LetsOut Q) else wpOps P ops Q (List.range' (i+1) l.length) (a.put o.dst undef) w):=by
   intro e U hle hw h;rw[if_pos hw];obtain⟨f,e',hs,hf,hk'⟩:=Qg0 h;exact .inl (QiZ hT hC U hs hf _ Q (fun g' a' w' I ⟨v,hv⟩=>ih (i+1) e' g' a' w' hl' hk' I (hle.trans (Qfn hs hf)) (by rw[hv];exact hR i o a v ho hk)))
  unfold regK at h;simp only at h;split at h
  ·rename_i J
   split at h
   ·rename_i em hn
    rw[if_pos (by simp[Region.wanted,J])]
    obtain⟨b,hb,hst⟩:=QwG hT U hn;have key:regK C id ops.toList (i+1) l (e.dst o.dst (.v .bool .z b)) k=some r:=by
     cases em with
     | false=>rw[hb rfl];exact h
     | true=>
      rw[aLB] at h;obtain⟨k1,k2⟩:=QsJ h;cases b with
      | true=>exact k1
      | false=>exact k2
    exact .inl (hst _ Q (fun g' a' w' I ⟨v,hv⟩=>ih (i+1) _ g' a' w' hl' key I (hle.trans (QhG e o.dst _)) (by rw[hv];exact hR i o a v ho hk)))
   ·exact act e U hle (by simp[Region.wanted,J]) h
  ·rename_i j want J
   split at h
   ·cases h
   ·rename_i t ht
    have ht':(ops[j]?).bind (·.dst)=some t:=by simpa [Qfx] using ht
    cases hu:QiU e t with
    | true=>
     rw[hu,aLB] at h;have hw:Region.wanted o (yielded ops a.tmps)=false:=by simp only[Region.wanted,J,Qoc U ht' (Qk3 hu)];rfl
     rw[hw,if_neg (by simp)]
     obtain⟨g',_,_,I⟩:=U.dst 0 o.dst (d:=.und) (v:=undef) rfl;exact ih (i+1) _ g' _ w hl' h I (hle.trans (QhG _ _ _)) (hR i o a undef ho hk)
    | false=>
    rw[hu,aLC] at h;split at h
    ·cases h
    ·rename_i c hc
     have hcd:=Qk0 hc
     have hy:=Qos U ht' hcd
     have no:c=(!want)->regK C id ops.toList (i+1) l ((setG e t (!want)).dst o.dst .und) k=some r->
       (if Region.wanted o (yielded ops a.tmps)=true then o.wp P a w (wpOps P ops Q (List.range' (i+1) l.length)) Q\/(o.asks P a w/\LetsOut Q) else wpOps P ops Q (List.range' (i+1) l.length) (a.put o.dst undef) w):=by
      intro hcw h;rw[<-hcw,Qnt hcd] at h;have hw:Region.wanted o (yielded ops a.tmps)=false:=by simp only[Region.wanted,J,hy,hcw];cases want<;>rfl
      rw[hw,if_neg (by simp)]
      obtain⟨g',_,_,I⟩:=U.dst 0 o.dst (d:=.und) (v:=undef) rfl;exact ih (i+1) _ g' _ w hl' h I (hle.trans (QhG _ _ _)) (hR i o a undef ho hk)
     have yes:c=want->runE (Qn C (modP id i C.frz) (setG e t want) o) (fun e=>regK C id ops.toList (i+1) l e k)=some r->
       (if Region.wanted o (yielded ops a.tmps)=true then o.wp P a w (wpOps P ops Q (List.range' (i+1) l.length)) Q\/(o.asks P a w/\LetsOut Q) else wpOps P ops Q (List.range' (i+1) l.length) (a.put o.dst undef) w):=by
      intro hcw h;subst hcw;rw[Qnt hcd] at h;exact act e U hle (by simp only[Region.wanted,J,hy];cases c<;>rfl) h
     cases want<;>cases c<;>simp only[aLB,aLC] at h
     ·exact yes rfl h
     ·exact no rfl h
     ·exact no rfl h
     ·exact yes rfl h
theorem Rel.drew {g:Gh} {e:Env} {a:Act} {w:World} (h:Rel P B g e a w):Rel P B g e a { w with drawn:=w.drawn+1 }:=
 h.fly rfl (fun _ _ _=>⟨rfl,rfl⟩) ⟨rfl,rfl,rfl,aMb _,Nat.le_succ _⟩ h.lt
theorem QsR (hT:QR P C) (hC:Qae P B.g0 B.dm C) (hm:P.follows .mixedOrders=true) {R:Type} {id:Nat} {ops:Array Oper} {draw:Bool} {k:Env->Option R} {r:R} {J:Act->Prop} (hR:∀(i:Nat) (o:Oper) (a:Act) (v:Value),ops[i]? = some o->J a->J (a.put o.dst v))
  {Q:Exit->Act->World->Prop} {e:Env} {g:Gh} {a:Act} {w:World} (h:(bif draw then regD C id ops.toList 0 ops.toList [] e k else regK C id ops.toList 0 ops.toList e k)=some r) (hr:Rel P B g e a w) (hk:J a)
  (hQ:∀g' e' I w',Rel P B g' e' I w'->Zi e e'->J I->k e'=some r->Q .normal I w'):(Code.region id ops draw).wp P Q a w:=by
 cases draw with
 | false=>
  refine wp_region ?_;rw[List.range_eq_range'];have:=Qwh hT hC hR (e00:=e) hQ ops.toList 0 e g a w (fun j=>by simp) h hr (.refl e) hk
  simpa using this
 | true=>
  obtain⟨L,hL,U,hle,hkk⟩:=QsK (B:=B) hT hC ops.toList [] e (fun j=>by simp) h
  refine wp_region_any hm ?_;refine wpAny_of_held (S:=fun _=>True) _ _ _ _ ?_
  refine Qpp (by simpa using hL) U (fun i o a v _=>hR i o a v) (fun _ _ _ _ _ _ _=>trivial) (fun g' I w' hr' hk'=>hQ g' _ I w' hr' hle hk' hkk) _ _ g a _ (by simp) (by
   have:=List.countP_le_length (p:=fun j=>!(Array.replicate ops.size false).getD j false) (l:=List.range ops.size)
   simpa using this) (fun i o hi=>?_) (fun i hi=>by cases hi) ?_ hk
  ·exfalso
   by_cases hio:i<ops.size
   ·simp_all
   simp_all
  ·have:Zj (fun j=>(Array.replicate ops.size false).getD j false) 0 L e=e:=by
    have hz:(fun j=>(Array.replicate ops.size false).getD j false)=fun _=>false:=by
     funext j
     by_cases hj:j<ops.size
     ·simp_all
     simp_all
    rw[hz];have hn:∀(l:List Ent) (j:Nat) (e:Env),Zj (fun _=>false) j l e=e:=by
     intro l;induction l with
     | nil=>intro j e;rfl
     | cons E l ih=>intro j e;simp only[Zj,aLC];exact ih _ _
    exact hn L 0 e
   rw[this];exact hr.drew
end Go.Dx
namespace Go.Dx
variable {P:Program} {B:Base} {C:Ctx}
theorem QD.rel {a:Act} {w w':World} {o:Oper} {e':Env} {v:Value} (h:QD P B a w o e') (I:(execOp a.eval o).run P w=.ok (.value v) w'):∃g',Rel P B g' e' (a.put o.dst v) w':=by
 have:=h (fun J w'=>∃g',Rel P B g' e' J w') (fun _ _ _=>False) (fun g' J w' I _=>⟨g',I⟩)
 unfold Oper.wp at this;rw[I] at this;exact this
theorem Qt5 (hT:QR P C) (hC:Qae P B.g0 B.dm C) {g:Gh} {e:Env} {a:Act} {w:World} (h:Rel P B g e a w) {o:Oper} (he:Qf5 e o=true) {f:Eff} {e':Env} (I:Qpj C e o=some f) (hf:f.gives e') :
  ∃v g',(execOp a.eval o).run P w=.ok (.value v) w/\Rel P B g' e' (a.put o.dst v) w/\Zi e e'/\((∀t x,o.op ≠ .load t x)->∀w',(execOp a.eval o).run P w'=.ok (.value v) w'):=by
 have hnl:(∀t x,o.op ≠ .load t x)->Qn C .no e o=some f:=fun hno=>by
  unfold Qpj at I;split at I
  ·rename_i t x J;exact absurd J (hno t x)
  ·exact I
 unfold Qf5 at he;simp only[aLg] at he;obtain⟨⟨_,_⟩,he⟩:=he;split at he
 ·rename_i x J
  have I:=hnl (fun t x=>by rw[J];exact fun hh=>by cases hh)
  have hst:=QiZ hT hC h I hf
  have hle:=Qfn I hf
  have U:∀w',(execOp a.eval o).run P w'=.ok (.value (a.eval x)) w':=fun w'=>by simp[execOp,J]
  obtain⟨g',h'⟩:=hst.rel (U w);exact⟨_,g',U w,h',hle,fun _=>U⟩
 ·rename_i t x n J
  have I:=hnl (fun t x=>by rw[J];exact fun hh=>by cases hh)
  have hst:=QiZ hT hC h I hf
  have hle:=Qfn I hf
  split at he
  ·rename_i r ver p hd
   obtain⟨Tx,hx,_,_⟩:=QC h x;simp only[Qn,J,aLa] at I;obtain⟨ti,hti,I⟩:=I;split at I
   ·rename_i fs htd
    cases hlt:Nat.blt n fs.length with
    | false=>simp[hlt] at I
    | true=>
     obtain⟨u,hu⟩:∃u,fs[n]? = some u:=⟨_,aLf (QdB hlt)⟩;rw[hd] at hx;obtain⟨⟨ad,hv⟩,_⟩:=hx;have U:∀w',(execOp a.eval o).run P w'=.ok (.value (.pointer (some (ad.add u.1)))) w':=fun w'=>by simp[execOp,J,hv,Qit hT hti htd hu]
     obtain⟨g',h'⟩:=hst.rel (U w);exact⟨_,g',U w,h',hle,fun _=>U⟩
   ·cases I
  ·cases he
 ·rename_i t x i J
  have I:=hnl (fun t x=>by rw[J];exact fun hh=>by cases hh)
  have hst:=QiZ hT hC h I hf
  have hle:=Qfn I hf
  obtain⟨Tx,hx,_,_⟩:=QC h x;obtain⟨Ti,hi,_,_⟩:=QC h i;simp only[Qn,J,aLa] at I;obtain⟨ti,hti,⟨k,n⟩,hn,y,hy,I⟩:=I;have hiv:=Qfo h hi hn
  split at I
  ·rename_i s fl xs
   cases hc:decide (ti.sh=.list s)&&fl.islh with
   | false=>simp[hc] at I
   | true=>
    rw[hc,aLB] at I;simp only[aLg,aLF] at hc;obtain⟨hsh,hnx⟩:=hc;obtain⟨d,hd,I⟩:=aLa.1 I;simp only[aLb] at I;subst I;obtain⟨hin,_⟩:=hf;simp only[inB,aLg,aLF] at hin;obtain⟨S1,r1,_⟩:=QgA h hx hy (Qrs hnx);simp only at r1;obtain⟨A,cap,hv,_,hA⟩:=Qn3 hnx r1;obtain⟨b,off,rfl⟩:=hA (by have h1:=hin.1;have h2:=hin.2;omega)
    have U:∀w',(execOp a.eval o).run P w'=.ok (.value (.pointer (some ⟨b,off+n.toNat * s.size,none⟩))) w':=fun w'=>by
     have hrun:=Qis (w:=w') hT hti hsh (b:=b) (off:=off) (cap:=cap) (k:=k) hin.1 hin.2
     simp[execOp,J,hv,hiv,hrun]
    obtain⟨g',h'⟩:=hst.rel (U w);exact⟨_,g',U w,h',hle,fun _=>U⟩
  ·cases I
 ·rename_i t x J
  split at he
  ·rename_i r ver p hd
   simp only[aLg] at he;obtain⟨_,he⟩:=he;split at he
   ·rename_i S0 F0 X0 hdr0
    obtain⟨Tx,hx,_,_⟩:=QC h x;simp only[Qpj,J,aLd] at I;obtain⟨e1,I,rfl⟩:=I;obtain rfl:e'=_:=hf;unfold Qrv at I;rw[hd] at I hx;simp only at I;obtain⟨ti,hti,I⟩:=aLa.1 I;rw[hdr0] at I;simp only at I;obtain⟨y,hl,I⟩:=aLa.1 I;cases hc:decide (y.sh=ti.sh)&&okS y.sh y.fl with
    | false=>simp[hc] at I
    | true=>
     rw[hc,aLB] at I;simp only[aLb] at I;subst I;simp only[aLg,aLF] at hc;obtain⟨hsh,hok⟩:=hc;obtain⟨b,off,hpt,hver,S,F,X,hdr,hg,hp,hA,hcl,hrep⟩:=Ql4 h hx hl (Yo hok);obtain⟨v,hrun,hform,hcv⟩:=QhZ (hT t ti hti) (w:=w) (b:=b) (o:=off) (by rw[<-hsh];exact Qfg hok hrep)
     have U:(execOp a.eval o).run P w=.ok (.value v) w:=by simp[execOp,J,hpt,hrun]
     have hb:Qs P g e a w Tx (.bor r ((e.root r).stampB p) p) v:=by
      refine⟨aMb _,fun _ S' F' X' hdr'=>?_⟩
      rw[hdr] at hdr';obtain⟨rfl,rfl,hX⟩:=ZR hdr';subst hX;refine⟨hp,fun _ s I=>?_⟩
      rw[ZE p hg] at I;simp only[aLb] at I;subst I;rw[hcl,hsh];exact⟨hform,fun k hk=>hcv k hk⟩
     obtain⟨g',h'⟩:=Q7 h o.dst rfl hb;exact⟨v,g',U,h',QhG e o.dst _,fun hno=>absurd J (hno t x)⟩
   ·cases he
  ·cases he
 ·cases he
def QgX (ops:Array Oper) (i:Nat):Option Tmp:=(ops[i]?).bind (·.dst)
def QcI (ops:Array Oper):List Nat->List Value->Act->Act
 | i::es,v::vs,a=>QcI ops es vs (a.put (QgX ops i) v)
 | _,_,a=>a
def SOf (P:Program) (ops:Array Oper):List Nat->List Value->Act->World->Prop
 | i::es,v::vs,a,w=>(∀o,ops[i]? = some o->(execOp a.eval o).run P w=.ok (.value v) w)/\SOf P ops es vs (a.put (QgX ops i) v) w
 | _,_,_,_=>True
def JM:List Nat->Array Bool->Array Bool
 | [],l=>l
 | i::es,l=>JM es (l.setIfInBounds i true)
def Qjk (ops:Array Oper):List Nat->Array Bool->Prop
 | [],_=>True
 | i::es,l=>i ∈ Region.ready .any ops l/\Qjk ops es (l.setIfInBounds i true)
def Again (P:Program) (ops:Array Oper) (es:List Nat) (I:Act) (w:World):Prop:=
 ∀i o t tx td,i ∈ es->ops[i]? = some o->o.op=.load t (.tmp tx)->o.dst=some td->∀J:Operand->Value,J (.tmp tx)=I.tmps.getD tx undef->(execOp J o).run P w=.ok (.value (I.tmps.getD td undef)) w
theorem Qpv {a:Act} {d t:Tmp} {v:Value} (h:d ≠ t):(a.put (some d) v).tmps.getD t undef=a.tmps.getD t undef:=by
 by_cases hd:d<a.tmps.size
 ·rw[Qhd a d t v hd,if_neg h]
 ·have:a.put (some d) v=a:=by
   cases a with
   | mk t I=>simp[Act.put];exact Array.setIfInBounds_eq_of_size_le (Nat.le_of_not_lt hd)
  grind
theorem Qut {a:Act} {d:Tmp} {v:Value} (h:d<a.tmps.size):(a.put (some d) v).tmps.getD d undef=v:=by
 rw[Qhd a d d v h,if_pos rfl]
theorem Qiw (ops:Array Oper):∀(es:List Nat) (vs:List Value) (a:Act) (t:Tmp),(∀j,j ∈ es->∀d,QgX ops j=some d->d ≠ t)->(QcI ops es vs a).tmps.getD t undef=a.tmps.getD t undef
 | [],_,_,_,_=>rfl
 | i::es,[],_,_,_=>rfl
 | i::es,v::vs,a,t,h=>by
  simp only[QcI];rw[Qiw ops es vs _ t (fun j hj=>h j (aLp _ hj))]
  cases hd:QgX ops i with
  | none=>rfl
  | some d=>exact Qpv (h i aLm d hd)
theorem Qs8 {ops:Array Oper} {i:Nat} {es:List Nat} {o:Oper} (h:Qcf ops.toList (i::es)=true) (ho:ops[i]? = some o):∃d,o.dst=some d/\memN d (Qg4 o.op.operands.toList)=false/\
  ∀j,j ∈ es->∀J,QgX ops j=some J->J ≠ d/\memN J (Qg4 o.op.operands.toList)=false:=by
 simp only[Qcf,aLg] at h;obtain⟨h,_⟩:=h;have ho':ops.toList[i]? = some o:=by simpa using ho
 rw[ho'] at h;simp only[aLg,List.all_eq_true] at h;obtain⟨h1,h2⟩:=h;cases hd:o.dst with
 | none=>simp_all
 | some d=>
  rw[hd] at h1;refine⟨d,rfl,by simpa using h1,fun j hj J I=>?_⟩
  have:=h2 j hj
  unfold QgX at I;cases U:ops[j]? with
  | none=>simp_all
  | some o'=>
   rw[U] at I;have hoj':ops.toList[j]? = some o':=by simpa using U
   rw[hoj'] at this;have hd'2:o'.dst=some J:=I
   simp[Qn4,hd,hd'2,aLg,Bool.not_eq_true'] at this;refine⟨fun e=>?_,this.2⟩
   simp_all
theorem Qtb (hT:QR P C) (hC:Qae P B.g0 B.dm C) {R:Type} {ops:Array Oper} {k:Env->Option R} {r:R} (hsel:Region.noSelect ops=true) {Q:Exit->Act->World->Prop} (hQ:∀c a a' w,Q (.panic c) a w->Q (.panic c) a' w) :
  ∀(es:List Nat) (J:Array Bool) (e:Env) (g:Gh) (a:Act) (w:World),QmG C ops es J e k=some r->Qcf ops.toList es=true->Rel P B g e a w->
  ∃vs g1 e1,vs.length=es.length/\Qjk ops es J/\Rel P B g1 e1 (QcI ops es vs a) w/\Zi e e1/\k e1=some r/\SOf P ops es vs a w/\(∀w',Again P ops es (QcI ops es vs a) w'->SOf P ops es vs a w')/\
   (∀(S:World->Prop) (fuel:Nat),(∀w',S w'->SOf P ops es vs a w')->S w->wpAnyH P .any ops Q S fuel (JM es J) (QcI ops es vs a) w->wpAnyH P .any ops Q S (fuel+es.length) J a w):=by
 intro es;induction es with
 | nil=>
  intro J e g a w h _ hr;exact⟨[],g,e,rfl,trivial,hr,.refl e,h,trivial,fun _ _=>trivial,fun S fuel _ _ h=>h⟩
 | cons i es ih=>
  intro J e g a w h hda hr;unfold QmG at h;obtain⟨o,ho,h⟩:=aLa.1 h;cases hc:Qf5 e o&&Region.free .any ops J i&&(Region.ready .any ops J).contains i with
  | false=>rw[hc] at h;cases h
  | true=>
   rw[hc,aLB] at h;simp only[aLg] at hc;obtain⟨⟨I,hfree⟩,U⟩:=hc;obtain⟨f,e',hs,hf,h⟩:=Qg0 h;obtain⟨v,g',hrun,hrel,hle1,hall⟩:=Qt5 hT hC hr I hs hf;have hdst:QgX ops i=o.dst:=by unfold QgX;rw[ho];rfl
   have hda2:Qcf ops.toList es=true:=by simp only[Qcf,aLg] at hda;exact hda.2
   rw[<-hdst] at hrel;obtain⟨vs,g1,e1,hl,hrdy,hrel1,hle,hk,hS,hag,hwp⟩:=ih _ e' g' _ w h hda2 hrel;obtain⟨d,hd,hdo,hdl⟩:=Qs8 hda ho;refine⟨v::vs,g1,e1,by simp[hl],⟨by simpa using U,hrdy⟩,hrel1,hle1.trans hle,hk,⟨fun o' ho'=>by rw[ho] at ho';cases ho';exact hrun,hS⟩,fun w' hA=>⟨fun o' ho'=>?_,hag w' (fun j o2 t tx td hj=>hA j o2 t tx td (aLp _ hj))⟩,fun S fuel hSS hSw hk2=>?_⟩
   ·rw[ho] at ho';cases ho'
    by_cases hld:∃t x,o.op=.load t x
    ·obtain⟨t,x,hop⟩:=hld
     have hx:∃tx,x=.tmp tx:=by
      unfold Qf5 at I;simp only[hop,aLg] at I;obtain⟨⟨_,_⟩,I⟩:=I;cases x with
      | tmp tx=>exact⟨tx,rfl⟩
      | const v=>simp only[Env.opd,QiY] at I;split at I<;>(first | cases I | (rename_i hh;split at hh<;>cases hh))
      | global gl=>simp[Env.opd] at I
      | func j=>simp[Env.opd] at I
     obtain⟨tx,rfl⟩:=hx;have hmem:memN tx (Qg4 o.op.operands.toList)=true:=by rw[hop];simp[Op.operands,Qg4,memN]
     have hne:d ≠ tx:=by rintro rfl;rw[hmem] at hdo;cases hdo
     have htx:(QcI ops (i::es) (v::vs) a).tmps.getD tx undef=a.tmps.getD tx undef:=by
      refine Qiw ops _ _ _ _ (fun j hj d' hd'=>?_)
      grind
     have hsz:d<a.tmps.size:=by
      have:=I
      unfold Qf5 at this;simp only[aLg] at this;have:=this.1.2
      unfold QvB at this;rw[hd] at this;rw[hr.len];exact QdB this
     have hA':=hA i o t tx d aLm ho hop hd a.eval (by rw[htx];rfl)
     rw[hA'];have:(QcI ops (i::es) (v::vs) a).tmps.getD d undef=v:=by
      simp only[QcI];rw[Qiw ops es vs _ d (fun j hj d' hd'=>(hdl j hj d' hd').1),hdst,hd,Qut hsz]
     rw[this]
    ·exact hall (fun t x hh=>hld ⟨t,x,hh⟩) w'
   ·have hlen:fuel+(i::es).length=(fuel+es.length)+1:=by simp;omega
    rw[hlen];have hy:YieldsIf P ops S o v a:=.inl ⟨by
     unfold Qf5 at I;simp only[aLg,Option.isNone_iff_eq_none] at I;simp[Region.wanted,I.1.1],fun w' hw'=>(hSS w' hw').1 o ho⟩
    refine wpAnyH_take (v:=v) ho hsel hfree U (fun c a' w' hh=>hQ c _ _ w' hh) hy hSw ?_
    have:=hwp S fuel (fun w' hw'=>(hSS w' hw').2) hSw (by exact hk2)
    rw[hdst] at this;exact this
def cntU (ops:Array Oper) (l:Array Bool):Nat:=(List.range ops.size).countP (fun j=>!l.getD j false)
theorem Ql3 {l:Array Bool} {i:Nat} (J:i<l.size) (j:Nat):(l.setIfInBounds i true).getD j false=(l.getD j false || Nat.beq j i):=by
 by_cases I:j=i
 ·simp_all
 ·rw[getD_set_ne false (Ne.symm I)]
  simp_all
theorem Qqc {ops:Array Oper} {l:Array Bool} (hsz:l.size=ops.size) {i:Nat} (h:i ∈ Region.ready .any ops l):i<ops.size/\l.getD i false=false/\∀o,ops[i]? = some o->∀d,d ∈ ZU o->l.getD d false=true:=by
 rw[mem_ready] at h;obtain⟨h1,o,ho,J⟩:=h;have U:i<ops.size:=by
  grind
 have hil:i<l.size:=by omega
 refine⟨U,by simp[ hil] at h1 ⊢;exact h1,fun o' I d hd=>?_⟩
 rw[ho] at I;cases I;simp[ZU] at hd
 grind
theorem Qvm {ops:Array Oper} {l:Array Bool} (hsz:l.size=ops.size) {i:Nat} (J:i<ops.size) (U:l.getD i false=false):cntU ops (l.setIfInBounds i true)+1<=cntU ops l:=by
 have I:=Ql3 (l:=l) (i:=i) (by omega)
 have gen:∀(m:List Nat),i ∈ m->m.countP (fun j=>!(l.setIfInBounds i true).getD j false)<m.countP (fun j=>!l.getD j false):=by
  intro m;have le:∀(m:List Nat),m.countP (fun j=>!(l.setIfInBounds i true).getD j false)<=m.countP (fun j=>!l.getD j false):=fun m=>List.countP_mono_left (fun j _ hj=>by
   simp[I j,Bool.not_eq_true',Bool.or_eq_false_iff] at hj ⊢;exact hj.1)
  induction m with
  | nil=>simp_all
  | cons x m ihl=>
   simp only[List.countP_cons];by_cases hxi:x=i
   ·subst hxi
    have h2:=le m
    rw[if_neg (by rw[I x];simp),if_pos (by rw[U];rfl)];omega
   grind
 exact gen _ (List.mem_range.2 J)
theorem Qou {ops:Array Oper}:∀(es:List Nat) (l:Array Bool),l.size=ops.size->Qjk ops es l->(∀i o,l.getD i false=true->ops[i]? = some o->∀d,d ∈ ZU o->l.getD d false=true)->
  (JM es l).size=ops.size/\cntU ops (JM es l)+es.length<=cntU ops l/\(∀i,l.getD i false=true->(JM es l).getD i false=true)/\(∀i,i ∈ es->(JM es l).getD i false=true)/\
  (∀i o,(JM es l).getD i false=true->ops[i]? = some o->∀d,d ∈ ZU o->(JM es l).getD d false=true)
 | [],l,I,_,U=>⟨I,by simp[JM],fun _ h=>h,(fun _ h=>nomatch h),U⟩
 | i::es,l,I,hr,U=>by
  obtain⟨h1,h2⟩:=hr;obtain⟨hio,hni,hdep⟩:=Qqc I h1;have J:=Ql3 (l:=l) (i:=i) (by omega)
  have hc:=Qvm I hio hni
  obtain⟨k1,k2,k3,k4,k5⟩:=Qou es (l.setIfInBounds i true) (by simpa using I) h2 (fun j o hj ho d hd=>by
   rw[J] at hj ⊢;rcases aMC _ _ ▸ hj with hj | hj
   ·grind
   ·have:=aLw hj
    subst this;rw[hdep o ho d hd];rfl)
  refine⟨k1,by simp[JM];omega,fun j hj=>k3 j (by rw[J,hj];rfl),fun j hj=>?_,k5⟩
  rcases List.mem_cons.1 hj with rfl | hj
  ·exact k3 j (by rw[J,Nat.beq_refl,Bool.or_true])
  ·exact k4 j hj
theorem Qla {ops:Array Oper}:∀(es:List Nat) (l:Array Bool),l.size=ops.size->Qjk ops es l->∀j,(JM es l).getD j false=true->l.getD j false=true\/j ∈ es
 | [],l,_,_,j,h=>.inl h
 | i::es,l,I,J,j,h=>by
  obtain⟨h1,h2⟩:=J;obtain⟨U,_,_⟩:=Qqc I h1;rcases Qla es (l.setIfInBounds i true) (by simpa using I) h2 j h with h | h
  ·rw[Ql3 (by omega)] at h
   rcases aMC _ _ ▸ h with h | h
   ·simp_all
   simp_all
  simp_all
theorem QkM (r:Root):Msk.emp.has r=false:=by cases r<;>rfl
theorem QnN (s e:Env):mrgE Msk.emp s e=e:=Qhe rfl rfl fun r=>by cases r<;>rfl
theorem QnP {anc:Nat}:∀(m:List Tr) (j:Nat),QcV anc Msk.emp Msk.emp j m=true
 | [],_=>rfl
 | t::m,j=>by
  have I:Qjn t.W Msk.emp=true:=by simp[Qjn,Msk.emp,Qdc]
  simp[QcV,QnP m];simp[Qjn,Msk.emp,Qdc]
def Qpd (q:KL) (E:Ent):Prop:=E.W.has (.s q.tx)=false/\E.W.has (.s q.td)=false/\(E.W.has q.r=true->(E.s.root q.r).id=q.id/\(E.s.root q.r).hv=q.hv/\isVS q.S (E.s.root q.r).d=true)
def HTr (P:Program) (B:Base) {R:Type} (ops:Array Oper) (es:List Nat) (I:List KL) (k:Env->Option R) (r:R) (L0:List Ent) (l:List Oper) (e:Env):Prop:=
 ∃L,L.length=l.length/\Jn P B ops (fun i=>memN i es) L0 L e/\Zi e (Zj (fun _=>true) L0.length L e)/\k (Zj (fun _=>true) L0.length L e)=some r/\(∀E,E ∈ L->∀q,q ∈ I->Qpd q E)/\
   (∀j o,l[j]? = some o->memN (L0.length+j) es=false->∀q,q ∈ I->Qev o q.tx=true/\Qev o q.td=true)/\
   (∀j E,L[j]? = some E->memN (L0.length+j) es=true->E.W=.emp)
theorem Qsd (hT:QR P C) (hC:Qae P B.g0 B.dm C) {R:Type} {id:Nat} {ops:Array Oper} {es:List Nat} {J:List KL} {k:Env->Option R} {r:R}:∀(l:List Oper) (L0:List Ent) (e:Env),(∀j,l[j]? = ops[L0.length+j]?)->regH C id ops.toList es J L0.length l (L0.map Ent.tr) e k=some r->HTr P B ops es J k r L0 l e:=by
 intro l;induction l with
 | nil=>intro L0 e _ h;exact⟨[],rfl,trivial,.refl e,h,(fun E hE=>nomatch hE),(fun j o hj=>by simp at hj),(fun j E hj=>by simp at hj)⟩
 | cons o l ih=>
  intro L0 e hl h;have ho:ops[L0.length]? = some o:=by simpa using (hl 0).symm
  have go:∀(E:Ent),(memN L0.length es=true\/Qjp P B ops L0.length e E)->Qiy ops L0 e E->Zi e (mrgE E.W E.s e)->(∀q,q ∈ J->Qpd q E)->(memN L0.length es=false->∀q,q ∈ J->Qev o q.tx=true/\Qev o q.td=true)->(memN L0.length es=true->E.W=.emp)->
    regH C id ops.toList es J (L0.length+1) l (L0.map Ent.tr++[E.tr]) (mrgE E.W E.s e) k=some r->HTr P B ops es J k r L0 (o::l) e:=fun E a1 a2 a3 a4 a5 a6 h=>by
   obtain⟨L,hL,htr,U,hk,hkp,hnd,hem⟩:=ih (L0++[E]) _ (Qqt E hl) (by simpa using h)
   rw[aLi,aMj] at U hk hnd hem;refine⟨E::L,by simp[hL],⟨a1,a2,htr⟩,a3.trans U,hk,fun E' hE'=>?_,fun j o' hj hmj=>?_,fun j E' hj hmj=>?_⟩
   ·grind
   ·grind
   ·grind
  unfold regH at h;simp only at h;cases hm:memN L0.length es with
  | true=>
   rw[hm,aLB] at h;cases I:(ZU o).all (fun d=>Nat.blt d L0.length) with
   | false=>rw[I] at h;cases h
   | true=>
    rw[I,aLB] at h;simp only[List.all_eq_true,Nat.blt_eq] at I;refine go ⟨Qif (L0.map Ent.tr) o,.emp,.emp,e⟩ (.inl hm) ⟨rfl,rfl,(fun r h=>by rw[QkM] at h;cases h),⟨o,ho,rfl,I⟩,QnP _ _⟩ (by rw[QnN];exact .refl e) (fun q hq=>⟨QkM _,QkM _,fun hh=>by rw[QkM] at hh;cases hh⟩) (fun hh=>by rw[hm] at hh;cases hh) (fun _=>rfl) ?_
    rw[QnN];exact h
  | false=>
   rw[hm,aLC] at h;split at h
   ·cases h
   ·rename_i hgd
    obtain⟨f,s',hs,hf,h⟩:=Qg0 h;obtain⟨q,hq,h⟩:=aLa.1 h;obtain⟨E,h1,h2,h3,hok,hside,hle,_,_,hW,_⟩:=Qmd (B:=B) hT hC ho (act:=true) (.inl ⟨hgd,rfl⟩) hq ⟨_,f,hs,hf⟩;cases I:J.all (Qsl q.1.W s' o) with
    | false=>rw[I] at h;cases h
    | true=>
     rw[I,aLB,<-h1,h3] at h;simp only[List.all_eq_true] at I;have hk1:∀q,q ∈ J->Qpd q E/\Qev o q.tx=true/\Qev o q.td=true:=fun q hq=>by
      have:=I q hq
      simp only[Qsl,<-hW,<-h2,aLg,Bool.not_eq_true',aMC] at this;obtain⟨⟨⟨⟨a1,a2⟩,a3⟩,a4⟩,a5⟩:=this;refine⟨⟨a1,a2,fun hh=>?_⟩,a3,a4⟩
      simp_all
     grind
def Qpf (e1:Env) (q:KL) (r:Root) (c:Cel):Prop:=(r=.s q.tx->c=e1.s q.tx)/\(r=.s q.td->c=e1.s q.td)/\(r=q.r->c.id=q.id/\c.hv=q.hv/\isVS q.S c.d=true)
theorem Qjd {e1:Env} {q:KL} (S:Nat->Bool):∀(L:List Ent) (j:Nat) (e:Env),Qj8 e L->(∀E,E ∈ L->Qpd q E)->(∀r,Qpf e1 q r (e.root r))->∀r,Qpf e1 q r ((Zj S j L e).root r)
 | [],_,_,_,_,h=>h
 | E::L,j,e,hl,hk,h=>by
  simp[Zj];obtain⟨l1,l2⟩:=hl E aLm;cases S j with
  | false=>exact Qjd S L (j+1) e (fun J I=>hl J (aLp _ I)) (fun J I=>hk J (aLp _ I)) h
  | true=>
   refine Qjd S L (j+1) _ (fun J I=>?_) (fun J I=>hk J (aLp _ I)) (fun r=>?_)
   ·simp;rw[Qcp.1];exact hl J (aLp _ I)
   ·simp
    rw[Qge l1 l2];obtain⟨k1,k2,k3⟩:=hk E aLm;split
    ·rename_i U
     exact⟨(fun hr=>by subst hr;rw[k1] at U;cases U),(fun hr=>by subst hr;rw[k2] at U;cases U),(fun hr=>by subst hr;exact k3 U)⟩
    simp_all
theorem Qj4:∀{p q:List Step},Y4 p q=true->p=q
 | [],[],_=>rfl
 | .fst::p,.fst::q,h=>by rw[Qj4 (q:=q) h]
 | .snd::p,.snd::q,h=>by rw[Qj4 (q:=q) h]
 | [],.fst::_,h=>by simp[Y4] at h
 | [],.snd::_,h=>by simp[Y4] at h
 | [],.idx _::_,h=>by simp[Y4] at h
 | [],.sub _ _::_,h=>by simp[Y4] at h
 | .fst::_,[],h=>by simp[Y4] at h
 | .snd::_,[],h=>by simp[Y4] at h
 | .idx _::_,q,h=>by simp[Y4] at h
 | .sub _ _::_,q,h=>by simp[Y4] at h
 | .fst::_,.snd::_,h=>by simp[Y4] at h
 | .snd::_,.fst::_,h=>by simp[Y4] at h
 | .fst::_,.idx _::_,h=>by simp[Y4] at h
 | .snd::_,.idx _::_,h=>by simp[Y4] at h
 | .fst::_,.sub _ _::_,h=>by simp[Y4] at h
 | .snd::_,.sub _ _::_,h=>by simp[Y4] at h
structure KLOk (C:Ctx) (e1:Env) (o:Oper) (q:KL):Prop where
 ex:∃t ti p hd,o.op=.load t (.tmp q.tx)/\o.dst=some q.td/\C.ty t=some ti/\QY ti.sh=false/\QK p=true/\getS q.S p=some ti.sh/\
  (e1.s q.tx).d=.loc q.r q.id p/\(e1.s q.td).d=.bor q.r hd p/\hd=q.hv
 rt:(e1.root q.r).id=q.id/\(e1.root q.r).hv=q.hv/\isVS q.S (e1.root q.r).d=true
theorem Qvo {e1:Env} {o:Oper} {m:List KL} (h:QsO C e1 o=some m):(∀q,q ∈ m->KLOk C e1 o q)/\(∀t tx td,o.op=.load t (.tmp tx)->o.dst=some td->∃q,q ∈ m/\q.tx=tx/\q.td=td):=by
 unfold QsO at h;split at h
 ·rename_i t tx I
  obtain⟨ti,U,h⟩:=aLa.1 h;split at h
  ·rename_i td r id p hd hx
   split at h
   ·rename_i r' hv p' S F X hb hr
    cases J:decide (r=r')&&QK p&&Y4 p p'&&Nat.beq (e1.root r).id id&&Nat.beq (e1.root r).hv hv&&!QY ti.sh&&decide (getS S p=some ti.sh) with
    | false=>rw[J] at h;cases h
    | true=>
     rw[J,aLB] at h;simp only[aLb] at h;subst h;simp only[aLg,Bool.not_eq_true',aLF] at J;obtain⟨⟨⟨⟨⟨⟨rfl,c2⟩,c3⟩,c4⟩,c5⟩,c6⟩,c7⟩:=J;obtain rfl:=Qj4 c3;have c4:=aLw c4
     have c5:=aLw c5
     refine⟨fun q hq=>?_,fun t' tx' td' h1 h2=>⟨_,aLs.2 rfl,?_,?_⟩⟩
     ·rw[aLs] at hq
      subst hq;exact⟨⟨t,ti,p,hv,I,hd,U,c6,c2,c7,hx,hb,rfl⟩,c4,c5,by rw[hr];simp[isVS]⟩
     ·rw[I] at h1;cases h1;rfl
     simp_all
   ·cases h
  ·cases h
 ·cases h
 simp_all
theorem QmX {e1:Env} {ops:Array Oper}:∀(es:List Nat) (I:List KL),klOf C e1 ops.toList es=some I->(∀q,q ∈ I->∃o,KLOk C e1 o q)/\(∀i o t tx td,i ∈ es->ops[i]? = some o->o.op=.load t (.tmp tx)->o.dst=some td->∃q,q ∈ I/\q.tx=tx/\q.td=td/\KLOk C e1 o q)
 | [],I,h=>by simp[klOf] at h;subst h;exact⟨fun q U=>(nomatch U),fun i o t tx td hi=>(nomatch hi)⟩
 | j::es,I,h=>by
  obtain⟨o,ho,h⟩:=aLa.1 h;obtain⟨m,hm,h⟩:=aLa.1 h;obtain⟨m2,J,rfl⟩:=aLd.1 h;obtain⟨h1,h2⟩:=Qvo hm;obtain⟨h3,h4⟩:=QmX es m2 J
  grind
theorem QuP (hT:QR P C) {es:List Nat} {ops:Array Oper} {e1:Env} {kl:List KL} (hkl:klOf C e1 ops.toList es=some kl) {g':Gh} {e':Env} {a' a1:Act} {w':World} (hr:Rel P B g' e' a' w')
  (hq:∀q,q ∈ kl->∀r,Qpf e1 q r (e'.root r)) (ha:∀q,q ∈ kl->a'.tmps.getD q.tx undef=a1.tmps.getD q.tx undef/\a'.tmps.getD q.td undef=a1.tmps.getD q.td undef):Again P ops es a1 w':=by
 intro i o t tx td hi ho hop hd ev hev;obtain⟨q,hqm,rfl,rfl,hk⟩:=(QmX es kl hkl).2 i o t tx td hi ho hop hd;obtain⟨t',ti,p,hdv,k1,k2,hti,I,hn,hS,hx,hb,rfl⟩:=hk.ex;rw[hop] at k1;obtain⟨rfl,_⟩:=k1;have kx:=(hq q hqm (.s q.tx)).1 rfl
 have kd:=(hq q hqm (.s q.td)).2.1 rfl
 obtain⟨kid,khv,kv⟩:=(hq q hqm q.r).2.2 rfl;obtain⟨S,F,X,hdr,rfl⟩:∃S F X,(e'.root q.r).d=.v S F X/\S=q.S:=by
  unfold isVS at kv
  grind
 have h1:=hr.sl q.tx
 have h2:=hr.sl q.td
 rw[show e'.s q.tx=e1.s q.tx from kx,hx] at h1
 rw[show e'.s q.td=e1.s q.td from kd,hb] at h2
 obtain⟨m1,m2⟩:=(h1.2.2 (by simp only[Cel.stamp,hn,aLB];exact kid)).2 q.S F X hdr
 obtain⟨b,off,hA,hpt⟩:=m2 (J3 p hn hS);obtain⟨n1,n2⟩:=h2.2 (by simp only[Cel.stampB,hn,aLB];exact khv) q.S F X hdr
 obtain⟨J,hcl⟩:=n2 (J3 p hn hS) _ hS;obtain⟨j1,j2,j3,j4⟩:=YO w' p hn hS;have U:∀k,k<ti.sh.size->Qd w' b off k=Qg (a'.tmps.getD q.td undef) k:=by
  intro k hk;rw[hcl k hk,j1];cases hra:QU g' q.r with
  | none=>simp_all
  | some u=>
   rw[hra,j2] at hA;obtain⟨rfl,rfl⟩:=hA;rw[Qet g' a' w' hra];simp[Qd,aMh]
 have hone:(a'.tmps.getD q.td undef).cells = #[a'.tmps.getD q.td undef]:=by revert I;revert J;cases ti.sh<;>intro J I<;>first | exact J | cases I
 have hsz:ti.sh.size=1:=by revert I;cases ti.sh<;>intro I<;>first | rfl | cases I
 obtain⟨v,hrun,hf2,hc2⟩:=QhZ (hT t ti hti) (w:=w') (b:=b) (o:=off) (fun k hk=>by
  obtain rfl:k=0:=by omega
  refine⟨a'.tmps.getD q.td undef,?_,hone⟩;rw[U 0 hk];show (a'.tmps.getD q.td undef).cells[0]? = some _
  rw[hone];rfl)
 have hv:v=a'.tmps.getD q.td undef:=by
  have h3:=hc2 0 (by omega)
  have hone2:v.cells = #[v]:=by revert I;revert hf2;cases ti.sh<;>intro hf2 I<;>first | exact hf2 | cases I
  rw[U 0 (by omega)] at h3
  simp only[Qg,hone,hone2] at h3;simpa using h3
 obtain⟨a1x,a1d⟩:=ha q hqm;rw[<-a1d,<-hv];have:ev (.tmp q.tx)=.pointer (some ⟨b,off,none⟩):=by rw[hev,<-a1x,hpt]
 simp[execOp,hop,this,hrun]
theorem QoC (hT:QR P C) (hC:Qae P B.g0 B.dm C) (hm:P.follows .mixedOrders=true) {R:Type} {id:Nat} {ops:Array Oper} {draw:Bool} {k:Env->Option R} {r:R} {U:Act->Prop} (hR:∀(i:Nat) (o:Oper) (a:Act) (v:Value),ops[i]? = some o->U a->U (a.put o.dst v))
  {Q:Exit->Act->World->Prop} {e:Env} {g:Gh} {a:Act} {w:World} (h:regX C id ops draw e k=some r) (hr:Rel P B g e a w) (hk:U a)
  (hQ:∀g' e' I w',Rel P B g' e' I w'->Zi e e'->U I->k e'=some r->Q .normal I w'):(Code.region id ops draw).wp P Q a w:=by
 unfold regX at h;split at h
 ·exact QsR hT hC hm hR h hr hk hQ
 ·rename_i es hes
  cases hc:draw&&Region.noSelect ops&&Qcf ops.toList es with
  | false=>rw[hc] at h;cases h
  | true=>
   rw[hc,aLB] at h;simp only[aLg] at hc;obtain⟨⟨rfl,hsel⟩,hda⟩:=hc;let Q':Exit->Act->World->Prop:=fun x a w=>match x with | .panic _=>False | x=>Q x a w
   have hQQ:∀x a w,Q' x a w->Q x a w:=fun x a w hh=>by cases x<;>first | exact hh.elim | exact hh
   refine Code.wp_mono hQQ ?_;obtain⟨vs,g1,e1,hl,hrdy,hrel1,hle1,hk1,hS0,hag,hwp⟩:=Qtb (Q:=Q') hT hC hsel (fun c a I w hh=>hh) es _ e g a _ h hda hr.drew
   obtain⟨kl,hkl,hreg⟩:=aLa.1 hk1;obtain⟨L,hL,htr,hle2,hkk,hkp,hnd,hem⟩:=Qsd (B:=B) hT hC ops.toList [] e1 (fun j=>by simp) hreg
   simp only[aLj,aMf] at hle2 hkk hnd hem;have hLl:L.length=ops.size:=by simpa using hL
   have hlens:Qj8 e1 L:=Qg9 hLl htr
   let a1:=QcI ops es vs a
   let S:World->Prop:=fun w'=>SOf P ops es vs a w'
   let R':Act->Prop:=fun I=>U I/\∀q,q ∈ kl->I.tmps.getD q.tx undef=a1.tmps.getD q.tx undef/\I.tmps.getD q.td undef=a1.tmps.getD q.td undef
   have hput:∀(o:Oper) (I:Act) (v:Value) (t:Tmp),Qev o t=true->(I.put o.dst v).tmps.getD t undef=I.tmps.getD t undef:=by
    intro o I v t ht;cases hd:o.dst with
    | none=>rfl
    | some d=>
     refine Qpv ?_;rintro rfl;simp[Qev,hd] at ht
   have hRk1:U a1:=by
    have:∀(es:List Nat) (vs:List Value) (a:Act),U a->U (QcI ops es vs a):=by
     intro es;induction es with
     | nil=>intro vs a h;exact h
     | cons i es ih=>
      intro vs a h;cases vs with
      | nil=>exact h
      | cons v vs=>
       refine ih vs _ ?_;unfold QgX;cases ho:ops[i]? with
       | none=>exact h
       | some o=>exact hR i o a v ho h
    exact this es vs a hk
   have hker:∀q,q ∈ kl->∀r,Qpf e1 q r (e1.root r):=fun q hq r=>by
    obtain⟨o,ho⟩:=(QmX es kl hkl).1 q hq;exact⟨(fun h=>by subst h;rfl),(fun h=>by subst h;rfl),(fun h=>by subst h;exact ho.rt)⟩
   have hsz0:(Array.replicate ops.size false).size=ops.size:=by simp
   have hrep:∀j,(Array.replicate ops.size false).getD j false=false:=fun j=>by
    by_cases hj:j<ops.size
    ·simp[Array.getD,hj]
    ·simp[Array.getD,hj]
   obtain⟨k1,k2,k3,k4,k5⟩:=Qou es _ hsz0 hrdy (fun i o hi=>by rw[hrep] at hi;cases hi)
   have hcnt:cntU ops (Array.replicate ops.size false)<=ops.size:=by
    have:=List.countP_le_length (p:=fun j=>!(Array.replicate ops.size false).getD j false) (l:=List.range ops.size)
    simpa [cntU] using this
   have hex:∀i,memN i es=true->(JM es (Array.replicate ops.size false)).getD i false=true:=fun i hi=>k4 i (Qhn.1 hi)
   have J:Zj (fun j=>(JM es (Array.replicate ops.size false)).getD j false) 0 L e1=e1:=by
    have hon:∀j,(JM es (Array.replicate ops.size false)).getD j false=true->memN j es=true:=fun j hj=>by
     rcases Qla es _ hsz0 hrdy j hj with h | h
     ·rw[hrep] at h;cases h
     ·exact Qhn.2 h
    have gen:∀(L:List Ent) (j:Nat) (e:Env),(∀k E,L[k]? = some E->memN (j+k) es=true->E.W=.emp)->Zj (fun j=>(JM es (Array.replicate ops.size false)).getD j false) j L e=e:=by
     intro L;induction L with
     | nil=>intro j e _;rfl
     | cons E L ih=>
      intro j e h;simp only[Zj];have ih':=fun e=>ih (j+1) e (fun k E' hk hm=>h (k+1) E' (by simpa using hk) (by rw[show j+(k+1)=j+1+k by omega];exact hm))
      cases hj:(JM es (Array.replicate ops.size false)).getD j false with
      | false=>simp only[aLC];exact ih' e
      | true=>
       simp only[aLB];rw[h 0 E rfl (hon j hj),QnN];exact ih' e
    exact gen L 0 e1 (fun k E hk hm=>hem k E hk (by rw[aMf] at hm;exact hm))
   refine wp_region_held (S:=S) hm ?_;have hfu:(ops.size - es.length)+es.length=ops.size:=by omega
   suffices hsuf:wpAnyH P .any ops Q' S (ops.size - es.length) (JM es (Array.replicate ops.size false)) (QcI ops es vs a) { w with drawn:=w.drawn+1 } by
    have:=hwp S (ops.size - es.length) (fun w' hw'=>hw') hS0 hsuf
    rw[hfu] at this;exact this
   refine Qpp (ex:=fun i=>memN i es) (R:=R') hLl htr (fun i o I v hxi ho ⟨h1,h2⟩=>⟨hR i o I v ho h1,fun q hq=>?_⟩) (fun listed g' I w' hex' hrel' hR'=>?_) (fun g' I w' hr' hk'=>?_) _ _ g1 a1 _ k1 (by unfold cntU at k2 hcnt;omega) k5 hex ?_ ⟨hRk1,fun q hq=>⟨rfl,rfl⟩⟩
   ·grind
   ·exact hag w' (QuP hT hkl hrel' (fun q hq=>Qjd listed L 0 e1 hlens (fun E hE=>hkp E hE q hq) (hker q hq)) hR'.2)
   ·exact hQ g' _ I w' hr' (hle1.trans hle2) hk'.1 hkk
   ·rw[J];exact hrel1
end Go.Dx
namespace Go.Dx
variable {P:Program} {B:Base} {C:Ctx} {g:Gh} {a:Act} {w:World}
theorem Ql7:∀(l:List Sh) (I:List ((s:Sh)×s.den)) {t:TupO l},gatO l I=some t->scat l t=I
 | [],[],t,h=>rfl
 | [],d::I,t,h=>by simp[gatO] at h
 | [s],[],t,h=>by simp[gatO] at h
 | [s],[d],t,h=>by
  have:=ZK h
  simp[scat,this]
 | [s],d::d'::I,t,h=>by simp[gatO] at h
 | s::s'::l,[],t,h=>by simp[gatO] at h
 | s::s'::l,d::I,t,h=>by
  simp[gatO,aLa] at h;obtain⟨x,J,r,U,rfl⟩:=h;have h1:=ZK J
  have h2:=Ql7 (s'::l) I U
  simp[scat,h2,h1]
inductive QdF (e':Env) (blk:Bool) (c0 c':Cel):Cel->Prop
 | dead:QdF e' blk c0 c' ⟨c0.ver+1,.dead,c0.id+1,c0.hv+1⟩
 | st (s:Sh) (f:Fl) (h:Bool) (x:s.den):stD e' blk s f c'.d=some ⟨s,x⟩->(blk=true->c'.id=c0.id)->(h=true->blk=true/\c'.hv=c0.hv)->QdF e' blk c0 c' ⟨c0.ver+1,.v s f x,bif blk then c0.id else c0.id+1,bif h then c0.hv else c0.hv+1⟩
 | keep:c'=c0->QdF e' blk c0 c' c0
theorem QwJ {e:Env} {blk:Bool} {s:Sh} {f:Fl} {d:Desc} {y:(s:Sh)×s.den} (h:stD e blk s f d=some y):y.1=s:=by
 unfold stD at h;split at h
 ·grind
 ·grind
 ·cases blk with
  | true=>grind
  | false=>
   obtain⟨u,hu,h⟩:=aLa.1 h
   grind
 grind
theorem QrN {e:Env} {s:Sh} {f:Fl} {d:Desc} {x:s.den} (h:stD e true s f d=some ⟨s,x⟩):∃f',d=.v s f' x:=by
 unfold stD at h;split at h
 ·rename_i s' f' I
  cases J:decide (s'=s)&&Qq s' f' f with
  | false=>simp_all
  | true=>
   simp_all
 ·grind
 ·grind
 grind
theorem Qrn {e':Env} {blk:Bool} {c0 c1:Cs} (hlen:c1.length=c0.length) (J:∀i,(c0.f i).ver=(c1.f i).ver->Qi4 (c0.f i).d (c1.f i).d/\(c1.f i).id=(c0.f i).id/\(c1.f i).hv=(c0.f i).hv) :
  ∀(L:List (Nat×LK)) (xs:List ((s:Sh)×s.den)) (acc:Cs),acc.length=c0.length->QfW e' blk c0 c1 L=some xs->(∀i,QdF e' blk (c0.f i) (c1.f i) (acc.f i))->
   (injL blk c0 L xs acc).length=c0.length/\∀i,QdF e' blk (c0.f i) (c1.f i) ((injL blk c0 L xs acc).f i):=by
 intro L;induction L with
 | nil=>intro xs acc hl I hc;exact⟨hl,hc⟩
 | cons q L ih=>
  obtain⟨i,lk⟩:=q;intro xs acc hl I hc;have put:∀(c:Cel),QdF e' blk (c0.f i) (c1.f i) c->∀j,QdF e' blk (c0.f j) (c1.f j) ((acc.set i c).f j):=by
   intro c hcc j;rw[ZY]
   grind
  cases lk with
  | st s f h=>
   simp only[QfW] at I;cases hid:(blk&&!(Nat.beq (c0.f i).id (c1.f i).id)) || (h&&!(blk&&Nat.beq (c0.f i).hv (c1.f i).hv)) with
   | true=>rw[hid] at I;cases I
   | false=>
    rw[hid] at I;simp only[aLC,aLa,aLd] at I;obtain⟨x,hx,xs',hxs,rfl⟩:=I;obtain⟨xsh,xx⟩:=x;have hs:=QwJ hx
    simp only at hs;subst hs;have U:blk=true->(c1.f i).id=(c0.f i).id:=fun hb=>by
     simp_all
    have hhv':h=true->blk=true/\(c1.f i).hv=(c0.f i).hv:=fun hb=>by
     simp_all
    exact ih xs' _ (by simpa using hl) hxs (put _ (.st xsh f h xx hx U hhv'))
  | keep=>
   simp only[QfW] at I;cases hk:Nat.beq (c0.f i).ver (c1.f i).ver&&QhA (c0.f i).d (c1.f i).d with
   | false=>rw[hk] at I;cases I
   | true=>
    rw[hk,aLB] at I;simp only[aLg] at hk;have hv:=aLw hk.1
    exact ih xs _ (by simpa using hl) I (put _ (.keep (QpD hv.symm (J i hv) hk.2)))
theorem QkC {e':Env} {blk:Bool} {c0 c1:Cs}:∀(L:List (Nat×LK)) {xs:List ((s:Sh)×s.den)},QfW e' blk c0 c1 L=some xs->xs.length=(Ly.shs L).length
 | [],xs,h=>by simp[QfW] at h;subst h;rfl
 | (i,.st s f hh)::L,xs,h=>by
  simp only[QfW] at h;cases hid:(blk&&!(Nat.beq (c0.f i).id (c1.f i).id)) || (hh&&!(blk&&Nat.beq (c0.f i).hv (c1.f i).hv)) with
  | true=>grind
  | false=>
   rw[hid] at h;simp[ aLa] at h;obtain⟨x,U,J,I,rfl⟩:=h;simp[Ly.shs,QkC L I]
 | (i,.keep)::L,xs,h=>by
  simp[QfW] at h;cases hk:Nat.beq (c0.f i).ver (c1.f i).ver&&QhA (c0.f i).d (c1.f i).d with
  | false=>simp_all
  | true=>rw[hk] at h;simpa [Ly.shs] using QkC L h
def isB:Root->Bool | .s _=>false | .b _=>true
theorem QtP (l:Cs) (i:Nat):(blank l).f i=if i<l.length then ⟨(l.f i).ver+1,.dead,(l.f i).id+1,(l.f i).hv+1⟩ else Cel.dead:=by
 show (bif Nat.blt i l.length then _ else _)=_
 simp_all
theorem QoD {I e':Env} {L:Lay} {t:TupO L.shs} (hle:Zi I e') (hp:I.proj e' L=some t) :
  (I.inj L t).sl.length=I.sl.length/\(I.inj L t).bl.length=I.bl.length/\∀r,QdF e' (isB r) (I.root r) (e'.root r) ((I.inj L t).root r):=by
 simp[Env.proj,aLa] at hp;obtain⟨xa,ha,xb,hb,ht⟩:=hp;have hs:=Ql7 _ _ ht
 have U:=QkC _ ha
 have J:∀(blk:Bool) (l l':Cs),l'.length=l.length->∀i,QdF e' blk (l.f i) (l'.f i) ((blank l).f i):=by
  intro blk l l' hl i;rw[QtP];split
  ·exact .dead
  ·rename_i h
   rw[Qfq (Nat.le_of_not_lt h),Qfq (by rw[hl];exact Nat.le_of_not_lt h)];exact .keep rfl
 have h1:=Qrn (e':=e') hle.sl (fun i hv=>(hle.le (.s i)).2 hv.symm) L.sl xa (blank I.sl) (by simp[blank]) ha (J false _ _ hle.sl)
 have h2:=Qrn (e':=e') hle.bl (fun i hv=>(hle.le (.b i)).2 hv.symm) L.bl xb (blank I.bl) (by simp[blank]) hb (J true _ _ hle.bl)
 have e1:(I.inj L t).sl=injL false I.sl L.sl xa (blank I.sl):=by simp[Env.inj,hs];rw[<-U,List.take_left'];rfl
 have e2:(I.inj L t).bl=injL true I.bl L.bl xb (blank I.bl):=by simp[Env.inj,hs];rw[<-U,List.drop_left'];rfl
 refine⟨by rw[e1];exact h1.1,by rw[e2];exact h2.1,fun r=>?_⟩
 cases r with
 | s i=>show QdF e' false _ _ ((I.inj L t).sl.f i);rw[e1];exact h1.2 i
 | b i=>show QdF e' true _ _ ((I.inj L t).bl.f i);rw[e2];exact h2.2 i
def Qhm (e:Env):Desc->Prop
 | .bor r v p=>v<=(e.root r).stampB p
 | .loc r v p=>v<=(e.root r).stamp p
 | .clos _ caps=>∀(i:Nat) (r:Root) (v:Nat) (p:List Step),caps[i]? = some (.loc r v p)->v<=(e.root r).stamp p
 | _=>True
theorem Qs.fresh {e:Env} {t:Tag} {d:Desc} {v:Value} (h:Qs P g e a w t d v):Qhm e d:=by
 cases d with
 | bor r ver p=>exact h.1
 | loc r ver p=>exact h.2.1
 | clos j caps=>
  obtain⟨vs,_,J,U⟩:=h;intro i r ver p hi;have I:i<vs.length:=by rw[J];exact (aLy.1 hi).1
  have:=(U i _ _ hi (aLf I)).2
  exact this.2.1
 | _=>trivial
theorem Rel.fresh {e:Env} (h:Rel P B g e a w) (r:Root):Qhm e (e.root r).d:=by
 cases r with
 | s i=>exact (h.sl i).fresh
 | b i=>
  have hb:=h.bl i
  show Qhm e (e.b i).d
  cases hd:(e.b i).d with
  | dead=>trivial
  | v S F X=>trivial
  | tup l=>trivial
  | _=>rw[hd] at hb;obtain⟨I,o,_,_,arr,ty,v,_,_,_,h6⟩:=hb;exact h6.fresh
theorem Zi.inj {I e':Env} {L:Lay} {t:TupO L.shs} (hle:Zi I e') (J:I.proj e' L=some t):Zi I (I.inj L t):=by
 obtain⟨h1,h2,h3⟩:=QoD hle J;refine⟨h1,h2,fun r=>?_⟩
 have:=h3 r
 generalize (I.inj L t).root r=c at this;cases this with
 | dead=>simp_all
 | st s f U x _ _ _=>simp_all
 | keep _=>exact⟨aMb _,fun _=>⟨.inl rfl,rfl,rfl⟩⟩
theorem Rel.inj {e0 e':Env} {L:Lay} {t:TupO L.shs} (h:Rel P B g e' a w) (hle:Zi e0 e') (hfr:∀r,Qhm e0 (e0.root r).d) (hp:e0.proj e' L=some t):∃g',Rel P B g' (e0.inj L t) a w:=by
 obtain⟨l1,l2,hcell⟩:=QoD hle hp;generalize e0.inj L t=e2 at l1 l2 hcell;have hT:∀r,∃T:Nat->Prop,(∀j,T j->g.ow j=tagR r)/\(e2.root r=e0.root r->∀j,¬T j)/\
   (e2.root r ≠ e0.root r->∀s f x,(e2.root r).d=.v s f x->RepC P s f (fun j=>g.Z j\/T j) w (fun j=>g.S (tagR r) j/\¬T j) (Ql g a w r) x/\
    ((∃f',(e'.root r).d=.v s f' x)\/(isB r=false/\∀i,r=.s i->Ys s (a.tmps.getD i undef)))):=by
  intro r;have hc:=hcell r
  generalize e2.root r=c at hc;cases hc with
  | dead=>exact⟨QP,fun _ h=>h.elim,fun _ _ h=>h,fun _ s f x hd=>by cases hd⟩
  | keep _=>exact⟨QP,fun _ h=>h.elim,fun _ _ h=>h,fun hn=>absurd rfl hn⟩
  | st s f hb' x I _ _=>
   have hne:(⟨(e0.root r).ver+1,.v s f x,bif isB r then (e0.root r).id else (e0.root r).id+1,bif hb' then (e0.root r).hv else (e0.root r).hv+1⟩:Cel) ≠ e0.root r:=fun hh=>by
    have:=congrArg Cel.ver hh;simp at this
   unfold stD at I;split at I
   ·rename_i s' f' x' hd
    cases U:decide (s'=s)&&Qq s' f' f with
    | false=>rw[U] at I;cases I
    | true=>
     rw[U,aLB] at I;simp only[aLg,aLF] at U;obtain⟨rfl,hw⟩:=U;simp only[aLb,aMy,heq_eq_eq,true_and] at I;subst I;have hroot:=h.root r hd
     have hroot:RepC P s' f' g.Z w (g.S (tagR r)) (Ql g a w r) x':=by cases r<;>exact hroot
     obtain⟨T,hT1,hrep⟩:=RepC.weak hw hroot;refine⟨T,fun j hj=>hT1 j hj,fun hh=>absurd hh hne,fun _ s2 f2 x2 hd2=>?_⟩
     simp only[Desc.v.injEq] at hd2;obtain⟨rfl,rfl,hx⟩:=hd2;obtain rfl:=eq_of_heq hx;exact⟨hrep,.inl ⟨f',hd⟩⟩
   ·rename_i hd
    cases hb:isB r with
    | true=>rw[hb] at I;cases I
    | false=>
     rw[hb] at I;simp only[aLC] at I;cases hfh:f.ish with
     | true=>rw[hfh] at I;cases I
     | false=>
     rw[hfh] at I;simp only[aLC] at I;split at I
     ·rename_i s'
      simp only[aLb,aMy,heq_eq_eq,true_and] at I;subst I;cases r with
      | b i=>cases hb
      | s i=>
       have hv:a.tmps.getD i undef=.slice none 0 0:=by have:=h.sl i;rw[show (e'.s i).d=.nil from hd] at this;exact this
       refine⟨QP,fun _ h=>h.elim,fun _ _ h=>h,fun _ s2 f2 x2 hd2=>?_⟩
       simp only[Desc.v.injEq] at hd2;obtain⟨rfl,rfl,hx⟩:=hd2;obtain rfl:=eq_of_heq hx;refine⟨?_,.inr ⟨rfl,fun i' hi'=>by simp only[Root.s.injEq] at hi';subst hi';rw[hv];rfl⟩⟩
       simp only[Ql,hv];cases f with
       | z=>exact⟨none,0,0,rfl,rfl,aMb _,fun hn=>by omega⟩
       | o f=>exact⟨none,0,0,rfl,rfl,aMb _,.inl ⟨rfl,rfl,rfl⟩⟩
       | x=>exact trivial
       | p a b=>exact trivial
       | h f0 i0=>simp[Fl.ish] at hfh
     ·cases I
   ·rename_i q v p hd
    cases hb:isB r with
    | true=>rw[hb] at I;cases I
    | false=>
     rw[hb] at I;simp only[aLC] at I;obtain⟨u,hu,I⟩:=aLa.1 I;cases U:decide (u.sh=s)&&u.fl.isz&&f.isz with
     | false=>rw[U] at I;cases I
     | true=>
      rw[U,aLB] at I;simp only[aLg,aLF] at U;obtain⟨⟨hs,hz1⟩,hz2⟩:=U;obtain rfl:=Qac hz2;obtain⟨us,uf,ux⟩:=u;simp only at hs hz1 I;subst hs;obtain rfl:=Qac hz1;simp only[aLb,aMy,heq_eq_eq,true_and] at I;subst I;cases r with
      | b i=>cases hb
      | s i=>
       have hdo:=h.sl i
       rw[show (e'.s i).d=.bor q v p from hd] at hdo
       have hrep:=h.bor hdo hu (by simp)
       refine⟨QP,fun _ h=>h.elim,fun _ _ h=>h,fun _ s2 f2 x2 hd2=>?_⟩
       simp only[Desc.v.injEq] at hd2;obtain⟨rfl,rfl,hx⟩:=hd2;obtain rfl:=eq_of_heq hx;exact⟨(RepC.shared hrep.2).mono (fun _ h=>.inl h) (fun _ h=>h.elim),.inr ⟨rfl,fun i' hi'=>by simp only[Root.s.injEq] at hi';subst hi';exact hrep.1⟩⟩
   ·cases I
 obtain⟨T,hT⟩:=Classical.axiomOfChoice hT;have T1:∀r j,T r j->g.ow j=tagR r:=fun r=>(hT r).1
 have T2:∀r,e2.root r=e0.root r->∀j,¬T r j:=fun r=>(hT r).2.1
 have T3:=fun r=>(hT r).2.2
 clear hT;let g':Gh:=⟨fun j=>@ite _ (∃r,T r j) (Classical.propDecidable _) .fz (g.ow j),g.pl⟩
 have gin:∀r j,T r j->g'.ow j=.fz:=fun r j hj=>by
  show @ite _ (∃r,T r j) (Classical.propDecidable _) Tag.fz (g.ow j)=.fz
  rw[if_pos ⟨r,hj⟩]
 have gout:∀j,(∀r,¬T r j)->g'.ow j=g.ow j:=fun j hj=>by
  show @ite _ (∃r,T r j) (Classical.propDecidable _) Tag.fz (g.ow j)=g.ow j
  rw[if_neg (fun ⟨r,hr⟩=>hj r hr)]
 have tag_inj:∀{r q:Root},tagR r=tagR q->r=q:=fun {r q} hh=>by cases r<;>cases q<;>simp_all [tagR]
 have keepT:∀j t,(∀r,t ≠ tagR r)->g.ow j=t->g'.ow j=t:=fun j t ht hj=>(gout j (fun r hr=>ht r (hj.symm.trans (T1 r j hr)))).trans hj
 have keepR:∀r j,g.ow j=tagR r->¬T r j->g'.ow j=tagR r:=fun r j hj hn=>(gout j (fun q hq=>by
  have:=tag_inj (hj.symm.trans (T1 q j hq));subst this;exact hn hq)).trans hj
 have hz:∀j,g.ow j=.fz->g'.ow j=.fz:=fun j hj=>keepT j .fz (fun r=>by cases r<;>simp[tagR]) hj
 have hc:∀i j,g.ow j=.c i->g'.ow j=.c i:=fun i j hj=>keepT j _ (fun r=>by cases r<;>simp[tagR]) hj
 have ver2:∀q,e2.root q ≠ e0.root q->(e2.root q).ver=(e0.root q).ver+1:=fun q hq=>by
  have hc:=hcell q
  generalize e2.root q=c at hc hq;cases hc with
  | dead=>rfl
  | st s f hb' x _ _ _=>rfl
  | keep _=>exact absurd rfl hq
 have kept:∀q,e2.root q=e0.root q->e'.root q=e2.root q\/e'.root q=e0.root q:=fun q hq=>by
  have hc:=hcell q
  generalize e2.root q=c at hc hq;cases hc with
  | dead=>have:=congrArg Cel.ver hq;simp at this
  | st s f hb' x _ _ _=>have:=congrArg Cel.ver hq;simp at this
  | keep hk=>exact .inr hk
 have kept':∀q,e2.root q=e0.root q->e'.root q=e2.root q:=fun q hq=>(kept q hq).elim id (fun hh=>hh.trans hq.symm)
 have bor2:∀{q:Root} {v:Nat} {p:List Step} {u:Value},v<=(e0.root q).stampB p->Qbq g e' a w q v p u->Qbq g' e2 a w q v p u:=by
  intro q v p u hv hb;by_cases hq:e2.root q=e0.root q
  ·have hk:=kept' q hq
   refine⟨by rw[hq];exact hv,fun he S F X hd=>?_⟩
   rw[<-hk] at he hd;have:=hb.2 he S F X hd
   rw[ZN (show g'.pl=g.pl from rfl)];exact this
  ·cases hn:QK p with
   | false=>
    have h2:=ver2 q hq
    have s0:(e0.root q).stampB p=(e0.root q).ver:=by simp only[Cel.stampB,hn,aLC]
    have s2:(e2.root q).stampB p=(e2.root q).ver:=by simp only[Cel.stampB,hn,aLC]
    rw[s0] at hv;exact⟨by rw[s2];omega,fun he=>by rw[s2] at he;omega⟩
   | true=>
    have st1:∀c:Cel,c.stampB p=c.hv:=fun c=>by simp only[Cel.stampB,hn,aLB]
    rw[st1] at hv;have U:=hcell q
    have hb2:=hb
    unfold Qbq at hb2;rw[st1] at hb2;generalize hc2:e2.root q=c at U hq;cases U with
    | keep _=>exact absurd rfl hq
    | dead=>exact⟨by rw[st1,hc2];exact Nat.le_succ_of_le hv,fun he=>by rw[st1,hc2] at he;simp only at he;omega⟩
    | st s f hb' x I hid hhv=>
     cases hh:hb' with
     | false=>exact⟨by rw[st1,hc2,hh];exact Nat.le_succ_of_le hv,fun he=>by rw[st1,hc2,hh] at he;simp only[aLC] at he;omega⟩
     | true=>
      obtain⟨hbq,hhv⟩:=hhv hh;rw[hbq] at I;obtain⟨f',hd'⟩:=QrN I;refine⟨by rw[st1,hc2,hh];exact hv,fun he=>?_⟩
      rw[st1,hc2,hh] at he;simp only[aLB] at he;obtain⟨k3,k4⟩:=hb2.2 (hhv.trans he) s f' x hd';obtain⟨sp,hsp⟩:=Qg2 p hn k3;rw[ZN (show g'.pl=g.pl from rfl),hc2]
      intro S F X hd2;obtain⟨rfl,_,hX⟩:=ZR hd2;subst hX;exact⟨k3,fun _=>k4 (J3 p hn hsp)⟩
 have loc2:∀{q:Root} {v:Nat} {p:List Step} {u:Value},v<=(e0.root q).stamp p->Qah g e' a w q v p u->Qah g' e2 a w q v p u:=by
  intro q v p u hv hb;by_cases hq:e2.root q=e0.root q
  ·have hk:=kept' q hq
   refine⟨hb.1,by rw[hq];exact hv,fun he=>?_⟩
   rw[<-hk] at he;have:=hb.2.2 he
   rw[ZN (show g'.pl=g.pl from rfl),Qi7 (show g'.pl=g.pl from rfl),<-hk];exact this
  ·cases hn:QK p with
   | false=>
    have h2:=ver2 q hq
    have s0:(e0.root q).stamp p=(e0.root q).ver:=by simp only[Cel.stamp,hn,aLC]
    have s2:(e2.root q).stamp p=(e2.root q).ver:=by simp only[Cel.stamp,hn,aLC]
    rw[s0] at hv;exact⟨hb.1,by rw[s2];omega,fun he=>by rw[s2] at he;omega⟩
   | true=>
    have st1:∀c:Cel,c.stamp p=c.id:=fun c=>by simp only[Cel.stamp,hn,aLB]
    rw[st1] at hv;have U:=hcell q
    have hb2:=hb.2
    rw[st1] at hb2;generalize hc2:e2.root q=c at U hq;cases U with
    | keep _=>exact absurd rfl hq
    | dead=>exact⟨hb.1,by rw[st1,hc2];exact Nat.le_succ_of_le hv,fun he=>by rw[st1,hc2] at he;simp only at he;omega⟩
    | st s f hb' x I hid _=>
     cases hbq:isB q with
     | false=>exact⟨hb.1,by rw[st1,hc2,hbq];exact Nat.le_succ_of_le hv,fun he=>by rw[st1,hc2,hbq] at he;simp only[aLC] at he;omega⟩
     | true=>
      rw[hbq] at I;obtain⟨f',hd'⟩:=QrN I;refine⟨hb.1,by rw[st1,hc2,hbq];exact hv,fun he=>?_⟩
      rw[st1,hc2,hbq] at he;simp only[aLB] at he;obtain⟨k1,k2⟩:=hb2.2 ((hid hbq).trans he);obtain⟨k3,k4⟩:=k2 s f' x hd';obtain⟨sp,hsp⟩:=Qg2 p hn k3;rw[ZN (show g'.pl=g.pl from rfl),Qi7 (show g'.pl=g.pl from rfl),hc2]
      refine⟨k1,fun S F X hd2=>?_⟩
      obtain⟨rfl,_,hX⟩:=ZR hd2;subst hX;exact⟨k3,fun _=>k4 (J3 p hn hsp)⟩
 have rpp2:∀{s:Sh} {x:s.den} {u:Value},Qg3 P g w s x u->Qg3 P g' w s x u:=fun hr=>hr.step (fun i hi=>⟨hz i hi,rfl⟩)
 have rp2:∀{s:Sh} {x:s.den} {u:Value},RpOk P g w s x u->RpOk P g' w s x u:=fun hr=>hr.step (fun i hi=>⟨hz i hi,rfl⟩)
 have cap2:∀{d:Desc} {u:Value},Z7 d=true->(∀r v p,d=.loc r v p->v<=(e0.root r).stamp p)->Yl P g e' a w .none d u->Yl P g' e2 a w .none d u:=by
  intro d u hs hf hd;cases d with
  | v s f x=>
   cases f with
   | z=>exact⟨hd.1,((RepC.shared hd.2).mono (fun i hi=>hz i hi) (fun _ h=>h.elim))⟩
   | _=>simp[Z7,Fl.isz] at hs
  | loc r v p=>exact loc2 (hf r v p rfl) hd
  | rp s x=>exact rp2 hd
  | rpp s x=>exact rpp2 hd
  | _=>simp[Z7] at hs
 have keepD:∀{t:Tag} {d:Desc} {u:Value},(∀j,g.ow j=t->g'.ow j=t)->Qhm e0 d->Qs P g e' a w t d u->Qs P g' e2 a w t d u:=by
  intro t d u ht hf hd;cases d with
  | dead=>exact trivial
  | und=>exact hd
  | nil=>exact hd
  | v s f x=>exact RepV.frame (fun i hi=>hz i hi) (fun i hi=>ht i hi) (fun _ _=>rfl) hd
  | bor r v p=>exact bor2 hf hd
  | loc r v p=>exact loc2 hf hd
  | rp s x=>exact rp2 hd
  | rpp s x=>exact rpp2 hd
  | clos j caps=>
   obtain⟨vs,h1,h2,h3⟩:=hd;exact⟨vs,h1,h2,fun i d u hd hu=>⟨(h3 i d u hd hu).1,cap2 (h3 i d u hd hu).1 (fun r v p hh=>hf i r v p (hh ▸ hd)) (h3 i d u hd hu).2⟩⟩
  | tup l=>
   obtain⟨vs,h1,h2,q,h3⟩:=hd;exact⟨vs,h1,h2,q,fun i y u hy hu=>(h3 i y u hy hu).frame (fun i hi=>hz i hi) (fun j hj=>⟨ht j hj.1,hj.2⟩) (fun _ _=>rfl)⟩
 refine⟨g',⟨h.lens.1.trans (hle.sl.trans l1.symm),l1.trans (hle.sl.symm.trans h.lens.2)⟩,h.defers,fun i=>?_,fun i=>?_,h.st,h.frame,fun i hi=>hz i (h.fz i hi),fun i h1 h2 h3=>?_,fun i hi=>?_,fun q hq=>⟨(h.ios q hq).1,?_⟩⟩
 ·by_cases hk:e2.root (.s i)=e0.root (.s i)
  ·have hk':=kept' _ hk
   have hsl:=h.sl i
   rw[show e2.s i=e'.s i from hk'.symm]
   refine keepD (fun j hj=>keepR (.s i) j hj (T2 _ hk j)) ?_ hsl
   rw[show e'.s i=e0.s i from hk'.trans hk];exact hfr (.s i)
  ·have h3:=T3 (.s i) hk
   have U:=hcell (.s i)
   show Qs P g' e2 a w (.s i) (e2.root (.s i)).d _
   generalize e2.root (.s i)=c at U hk h3;cases U with
   | dead=>exact trivial
   | keep _=>exact absurd rfl hk
   | st s f hb' x _ _ _=>
    obtain⟨hrep,hform⟩:=h3 s f x rfl;refine⟨?_,RepC.mono (fun j hj=>hj.elim (hz j) (gin _ j)) (fun j hj=>keepR (.s i) j hj.1 hj.2) hrep⟩
    rcases hform with ⟨f',hd⟩ | ⟨_,hform⟩
    ·have hsl:=h.sl i
     rw[show (e'.s i).d=.v s f' x from hd] at hsl
     exact hsl.1
    ·exact hform i rfl
 ·by_cases hk:e2.root (.b i)=e0.root (.b i)
  ·have hk':=kept' _ hk
   have J:=h.bl i
   rw[show e2.b i=e'.b i from hk'.symm]
   have hf:Qhm e0 (e'.b i).d:=by rw[show e'.b i=e0.b i from hk'.trans hk];exact hfr (.b i)
   have other:∀d,Qhm e0 d->(∃hb o,g.pl i=.cells hb o/\g.ow hb=.c i/\∃arr ty v,w.heap[hb]? = some (.cells arr ty (0,0))/\arr[o]? = some v/\v.cells = #[v]/\Qs P g e' a w .none d v)->
     ∃hb o,g'.pl i=.cells hb o/\g'.ow hb=.c i/\∃arr ty v,w.heap[hb]? = some (.cells arr ty (0,0))/\arr[o]? = some v/\v.cells = #[v]/\Qs P g' e2 a w .none d v:=by
    rintro d hfd ⟨hb',o,h1,h2,arr,ty,v,h3,h4,h5,h6⟩;exact⟨hb',o,h1,hc i hb' h2,arr,ty,v,h3,h4,h5,keepD (fun j hj=>keepT j _ (fun r=>by cases r<;>simp[tagR]) hj) hfd h6⟩
   cases hd:(e'.b i).d with
   | dead=>exact trivial
   | und=>rw[hd] at J hf;exact other _ hf J
   | v S F X=>
    rw[hd] at J;refine⟨?_,fun hb' o hpl=>⟨hc i hb' (J.2 hb' o hpl).1,(J.2 hb' o hpl).2⟩⟩
    rw[ZN (show g'.pl=g.pl from rfl)]
    exact J.1.mono (fun j hj=>hz j hj) (fun j hj=>keepR (.b i) j hj (T2 _ hk j))
   | tup l=>rw[hd] at J;exact J.elim
   | nil=>rw[hd] at J hf;exact other _ hf J
   | bor r ver p=>rw[hd] at J hf;exact other _ hf J
   | loc r ver p=>rw[hd] at J hf;exact other _ hf J
   | rp s x=>rw[hd] at J hf;exact other _ hf J
   | rpp s x=>rw[hd] at J hf;exact other _ hf J
   | clos j caps=>rw[hd] at J hf;exact other _ hf J
  ·have h3:=T3 (.b i) hk
   have U:=hcell (.b i)
   show Qmr P g' e2 a w i (e2.root (.b i)).d
   generalize e2.root (.b i)=c at U hk h3;cases U with
   | dead=>exact trivial
   | keep _=>exact absurd rfl hk
   | st s f hb' x _ _ _=>
    obtain⟨hrep,hform⟩:=h3 s f x rfl;rcases hform with ⟨f',hd⟩ | ⟨hb,_⟩
    ·have J:=h.bl i
     rw[show (e'.b i).d=.v s f' x from hd] at J
     refine⟨?_,fun hb' o hpl=>⟨hc i hb' (J.2 hb' o hpl).1,(J.2 hb' o hpl).2⟩⟩
     rw[ZN (show g'.pl=g.pl from rfl)]
     exact hrep.mono (fun j hj=>hj.elim (hz j) (gin _ j)) (fun j hj=>keepR (.b i) j hj.1 hj.2)
    ·cases hb
 ·exact keepT i _ (fun r=>by cases r<;>simp[tagR]) (h.nn i h1 h2 h3)
 ·refine h.lt i fun h0=>hi ?_
  exact keepT i _ (fun r=>by cases r<;>simp[tagR]) h0
 ·have hq':=(h.ios q hq).2
  refine⟨hq'.pl,hc _ _ hq'.ow,fun S F X hd=>?_,hq'.there⟩
  have U:=hcell (.b q.i)
  have hd:(e2.root (.b q.i)).d=.v S F X:=hd
  by_cases hk:e2.root (.b q.i)=e0.root (.b q.i)
  ·have hk':=kept' _ hk
   exact hq'.sz S F X (by show (e'.root (.b q.i)).d=_;rw[hk'];exact hd)
  ·obtain⟨_,hform⟩:=T3 (.b q.i) hk S F X hd
   rcases hform with ⟨f',hd'⟩ | ⟨hb,_⟩
   ·exact hq'.sz S f' X hd'
   ·cases hb
end Go.Dx
namespace Go.Dx
variable {P:Program} {B:Base} {C:Ctx}
def exOf:Ex->Exit | .normal=>.normal | .exit i=>.exit i | .ret=>.ret
def Kp (ms:List Nat) (a0 a:Act):Prop:=∀i,ms.any (Nat.beq i)=true->a.tmps.getD i undef=a0.tmps.getD i undef
theorem Kp.put {ms:List Nat} {a0 a:Act} {d:Option Tmp} {v:Value} (h:Kp ms a0 a) (hd:(match d with | none=>true | some d=>!(ms.any (Nat.beq d)))=true):Kp ms a0 (a.put d v):=by
 intro i hi;cases d with
 | none=>exact h i hi
 | some d=>
  have I:d ≠ i:=by rintro rfl;simp only[hi] at hd;cases hd
  rcases aMg d a.tmps.size with J | J
  ·rw[Qhd a d i v J,if_neg I];exact h i hi
  ·have:a.put (some d) v=a:=by
    cases a with
    | mk t U=>simp[Act.put,and_true];exact Array.setIfInBounds_eq_of_size_le J
   rw[this];exact h i hi
theorem Qjf {I e':Env} {x:Ex}:∀(outs:List (Ex×Lay)) {y:SumT (outs.map (·.2.shs))},Qgt I e' x outs=some y->∃L t,I.proj e' L=some t/\∀{R:Type} (k:Ex->Env->Option R),Qma I k outs y=k x (I.inj L t)
 | [],y,h=>by cases h
 | [(U,L)],y,h=>by
  simp only[Qgt] at h;by_cases J:U=x
  ·subst J
   rw[if_pos rfl] at h;exact⟨L,y,h,fun k=>rfl⟩
  simp_all
 | (U,L)::b::l,y,h=>by
  simp[Qgt] at h;by_cases J:U=x
  ·subst J
   rw[if_pos rfl] at h;obtain⟨t,ht,rfl⟩:=aLd.1 h;exact⟨L,t,ht,fun k=>rfl⟩
  ·rw[if_neg J] at h
   obtain⟨t,ht,rfl⟩:=aLd.1 h;obtain⟨L',t',h1,h2⟩:=Qjf (b::l) ht;exact⟨L',t',h1,fun k=>h2 k⟩
theorem QsC {S X:Type} {f:S->Option (S⊕X)} {s:S} {x:X} (h:Qc f s=some x):∃n,QbD f n s=some x:=by
 unfold Qc at h;split at h
 ·grind
 grind
theorem least {p:Nat->Prop} (h:∃n,p n):∃n,p n/\∀m,p m->n<=m:=by
 obtain⟨n,I⟩:=h;induction n using Nat.strongRecOn with
 | _ n J=>
  grind
open Classical in
noncomputable def leastOf (p:Nat->Prop):Nat:=if h:∃n,p n then (least h).choose else 0
theorem leastOf_spec {p:Nat->Prop} (h:∃n,p n):p (leastOf p)/\∀m,p m->leastOf p<=m:=by
 unfold leastOf;rw[dif_pos h];exact (least h).choose_spec
theorem Qwv (hT:QR P C) (hC:Qae P B.g0 B.dm C) (hm:P.follows .mixedOrders=true) {ms:List Nat} {a0:Act}:∀(c:Code) {R:Type} (e:Env) (k:Ex->Env->Option R) (r:R),QaE ms c=true->runK C c e k=some r->
  ∀(g:Gh) (a:Act) (w:World) (Q:Exit->Act->World->Prop),Rel P B g e a w->Kp ms a0 a->
   (∀x g' e' I w',Rel P B g' e' I w'->Zi e e'->Kp ms a0 I->k x e'=some r->Q (exOf x) I w')->c.wp P Q a w:=by
 intro c;induction c with
 | skip=>intro R e k r hf h g a w Q U hk hQ;exact wp_skip (hQ .normal g e a w U (.refl e) hk h)
 | label l=>intro R e k r hf h g a w Q U hk hQ;exact wp_label (hQ .normal g e a w U (.refl e) hk h)
 | exit i=>intro R e k r hf h g a w Q U hk hQ;exact wp_exit (hQ (.exit i) g e a w U (.refl e) hk h)
 | ret=>intro R e k r hf h g a w Q U hk hQ;exact wp_ret (hQ .ret g e a w U (.refl e) hk h)
 | region id ops draw=>
  intro R e k r hf h g a w Q U hk hQ;have hR:∀(i:Nat) (o:Oper) (a:Act) (v:Value),ops[i]? = some o->Kp ms a0 a->Kp ms a0 (a.put o.dst v):=fun i o a v ho ha=>by
   simp only[QaE,List.all_eq_true] at hf;exact ha.put (hf o (by simpa using Array.mem_of_getElem? ho))
  simp only[runK] at h;cases hj:assoc id C.rjs with
  | none=>rw[hj] at h;exact QoC hT hC hm hR h U hk (fun g' e' I w' h1 h2 h3 h4=>hQ .normal g' e' I w' h1 h2 h3 h4)
  | some L=>
   rw[hj] at h;obtain⟨y,hy,h⟩:=aLa.1 h;refine QoC hT hC hm hR hy U hk (fun g' e' I w' h1 h2 h3 h4=>?_)
   obtain⟨g2,h5⟩:=h1.inj h2 U.fresh h4;exact hQ .normal g2 _ I w' h5 (h2.inj h4) h3 h
 | seq x y ihx ihy=>
  intro R e k r hf h g a w Q U hk hQ;simp only[QaE,aLg] at hf;simp only[runK] at h;refine wp_seq (ihx e _ r hf.1 h g a w _ U hk (fun ex g' e' I w' h1 h2 h3 h4=>?_))
  cases ex with
  | normal=>exact ihy e' k r hf.2 h4 g' I w' Q h1 h3 (fun ex2 g2 e2 a2 w2 k1 k2 k3 k4=>hQ ex2 g2 e2 a2 w2 k1 (h2.trans k2) k3 k4)
  | exit i=>exact hQ (.exit i) g' e' I w' h1 h2 h3 h4
  | ret=>exact hQ .ret g' e' I w' h1 h2 h3 h4
 | cond c x y ihx ihy=>
  intro R e k r hf h g a w Q U hk hQ;simp only[QaE,aLg] at hf;simp only[runK] at h;cases hc:e.rdBool (e.opd c) with
  | none=>rw[hc] at h;cases h
  | some t=>
   rw[hc] at h;simp only at h;obtain⟨Tc,hco,_,_⟩:=QC U c;refine wp_cond (Qn5 U hco hc) ?_;cases hj:(Qbu (.seq x y)).bind fun i=>assoc i C.jns with
   | none=>
    rw[hj] at h;cases t with
    | true=>exact ihx e k r hf.1 h g a w Q U hk hQ
    | false=>exact ihy e k r hf.2 h g a w Q U hk hQ
   | some J=>
    rw[hj] at h;obtain⟨z,hz,h⟩:=aLa.1 h;have fin:∀ex g' e' I w',Rel P B g' e' I w'->Zi e e'->Kp ms a0 I->Qgt e e' ex J.outs=some z->Q (exOf ex) I w':=by
     intro ex g' e' I w' h1 h2 h3 h4;obtain⟨L,t,h5,h6⟩:=Qjf _ h4;obtain⟨g2,h7⟩:=h1.inj h2 U.fresh h5;rw[h6] at h;exact hQ ex g2 _ I w' h7 (h2.inj h5) h3 h
    cases t with
    | true=>exact ihx e _ z hf.1 hz g a w Q U hk fin
    | false=>exact ihy e _ z hf.2 hz g a w Q U hk fin
 | block id x ih=>
  intro R e k r hf h g a w Q U hk hQ;simp only[QaE] at hf;simp only[runK] at h;refine wp_block (ih e _ r hf h g a w _ U hk (fun ex g' e' I w' h1 h2 h3 h4=>?_))
  cases ex with
  | normal=>exact hQ .normal g' e' I w' h1 h2 h3 h4
  | ret=>exact hQ .ret g' e' I w' h1 h2 h3 h4
  | exit i=>
   simp only[exOf,Exit.inBlock];simp only at h4;cases hb:Nat.beq i id with
   | true=>
    rw[hb] at h4;rw[if_pos (aLw hb)];exact hQ .normal g' e' I w' h1 h2 h3 h4
   | false=>
    rw[hb] at h4;rw[if_neg (fun hh=>by rw[hh] at hb;simp at hb)]
    exact hQ (.exit i) g' e' I w' h1 h2 h3 h4
 | loop x ih=>
  intro R e k r hf h g a w Q U hk hQ;simp only[QaE] at hf;simp only[runK] at h;split at h
  ·cases h
  ·rename_i L J hj
   obtain⟨s0,hs0,h⟩:=aLa.1 h;obtain⟨y,hy,h⟩:=aLa.1 h;obtain⟨n0,hn0⟩:=QsC hy;generalize hF:(fun s=>runK (R:=TupO L.shs⊕SumT (J.outs.map (·.2.shs))) C x (e.inj L s) fun x e'=>match x with
     | .normal=>(e.proj e' L).map .inl
     | x=>(Qgt e e' x J.outs).map .inr)=F at hn0
   let Inv:Nat->Act->World->Prop:=fun n a w=>∃s g,Rel P B g (e.inj L s) a w/\Zi e (e.inj L s)/\Kp ms a0 a/\QbD F n s=some y
   have hfresh:=U.fresh
   refine wp_loop (fun a w=>∃n,Inv n a w) (fun a w=>leastOf (fun n=>Inv n a w)) ?_ (fun a w hI=>?_)
   ·obtain⟨g1,h1⟩:=U.inj (.refl e) hfresh hs0
    exact⟨n0,s0,g1,h1,(Zi.refl e).inj hs0,hk,hn0⟩
   ·obtain⟨hmin,_⟩:=leastOf_spec hI
    generalize leastOf (fun n=>Inv n a w)=n at hmin
    obtain⟨s,g1,h1,h2,h3,h4⟩:=hmin;cases n with
    | zero=>cases h4
    | succ n=>
     simp only[QbD] at h4;cases hz:F s with
     | none=>rw[hz] at h4;cases h4
     | some z=>
      rw[hz] at h4;have hz':=hz
      rw[<-hF] at hz';refine ih (e.inj L s) _ z hf hz' g1 a w _ h1 h3 (fun ex g' e' I w' k1 k2 k3 k4=>?_)
      have hle:=h2.trans k2
      have out:∀ex,(Qgt e e' ex J.outs).map Sum.inr=some z->Q (exOf ex) I w':=by
       intro ex hh;obtain⟨y',hy',rfl⟩:=aLd.1 hh;simp only[aLb] at h4;subst h4;obtain⟨L',t,h5,h6⟩:=Qjf _ hy';obtain⟨g2,h7⟩:=k1.inj hle hfresh h5;rw[h6] at h;exact hQ ex g2 _ I w' h7 (hle.inj h5) k3 h
      cases ex with
      | normal=>
       simp only at k4;obtain⟨s',hs',rfl⟩:=aLd.1 k4;simp only at h4;obtain⟨g2,h7⟩:=k1.inj hle hfresh hs';have hInv:Inv n I w':=⟨s',g2,h7,hle.inj hs',k3,h4⟩
       exact⟨⟨n,hInv⟩,Nat.lt_succ_of_le ((leastOf_spec (p:=fun n=>Inv n I w') ⟨n,hInv⟩).2 n hInv)⟩
      | exit i=>exact out (.exit i) k4
      | ret=>exact out .ret k4
 | _=>intro R e k r hf h;simp[runK] at h
end Go.Dx
namespace Go.Dx
variable {P:Program} {B:Base} {C:Ctx} {g:Gh} {e:Env} {a:Act} {w:World}
theorem Qq5 {t:TypeId} {ti:TI} (h:TyOk P C t ti) {w:World} {b o:Nat} (hc:∀k,k<ti.sh.size->∃v,Qd w b o k=some v/\v.cells = #[v]) :
  ∃v,(loadVar t ⟨b,o,none⟩).run P w=.ok v w/\Ys ti.sh v/\∀k,k<ti.sh.size->Qg v k=Qd w b o k:=by
 have I:=Qch h w
 have hsz:=run_sizeOf h w
 cases hp:QY ti.sh with
 | true=>
  let cs:List Value:=(List.range ti.sh.size).map fun k=>(Qd w b o k).getD undef
  have hlen:cs.length=ti.sh.size:=by simp[cs]
  have J:∀j v,cs[j]? = some v->Qd w b o j=some v:=by
   grind
  have hl:(loadCells ⟨b,o,none⟩ cs.length).run P w=.ok cs.toArray w:=
   run_loadCells_list (P:=P) w ⟨b,o,none⟩ cs (fun j v hv=>by rw[QbZ];exact J j v hv)
  refine⟨.agg cs.toArray,?_,?_,fun k hk=>?_⟩
  ·rw[hp] at I
   rw[hlen] at hl;simp[loadVar,I,hsz,hl]
  ·revert hp hlen
   cases ti.sh<;>simp[QY];rename_i x y;intro hlen;exact⟨_,rfl,by simpa [Sh.size] using hlen⟩
  ·have hk':k<cs.length:=by omega
   have h1:cs[k]? = some cs[k]:=aLf hk'
   rw[J k _ h1];simp only[Qg,Value.cells];simp
 | false=>
  obtain⟨v,hv,hv1⟩:=hc 0 (Sh.size_pos _);have U:w.cell? ⟨b,o,none⟩=some v:=by simpa [Qd] using hv
  have hs1:ti.sh.size=1:=by revert hp;cases ti.sh<;>simp[QY,Sh.size]
  refine⟨v,?_,?_,fun k hk=>?_⟩
  ·rw[hp] at I
   simp[loadVar,I,U]
  ·revert hp;cases ti.sh<;>simp[QY,Ys,hv1]
  ·obtain rfl:k=0:=by omega
   rw[hv];simp[Qg,hv1]
def resF (tmps:Array Value):ResultVar->Sem Value
 | .tmp t=>pure (tmps.getD t undef)
 | .cell a t=>do loadVar t (<-asAddr (tmps.getD a undef))
theorem Qs6 (hT:QR P C) (h:Rel P B g e a w) {k:Nat} (hk:∀j,g.ow j ≠ .fl k) {s:Sh} {v:ResultVar} {e1:Env} {y:Dv} (J:QmO C e s v=some (e1,y)) :
  ∃u g1,(resF a.tmps v).run P w=.ok u w/\Flight g g1 k/\Rel P B g1 e1 a w/\RepV P y.sh y.fl g1.Z w (g1.S (.fl k)) u y.x:=by
 cases v with
 | tmp t=>
  simp only[QmO] at J;obtain⟨g1,h1,h2,h3⟩:=Qee h k hk (h.sl t) (fun i hi=>by simp only[aLb] at hi;subst hi;exact⟨rfl,rfl,rfl⟩) J
  exact⟨_,g1,by simp[resF],h1,h2,h3⟩
 | cell t ty=>
  simp only[QmO] at J;split at J
  ·rename_i r ver hd
   cases hid:!(Nat.beq (e.root r).id ver) with
   | true=>rw[hid] at J;cases J
   | false=>
   rw[hid,aLC] at J;have hid:(e.root r).id=ver:=by simp only[Bool.not_eq_false'] at hid;exact aLw hid
   obtain⟨ti,hti,J⟩:=aLa.1 J;obtain⟨⟨e2,y'⟩,I,J⟩:=aLa.1 J;cases hc:decide (ti.sh=y'.sh)&&okS y'.sh y'.fl with
   | false=>simp_all
   | true=>
    simp only[hc,aLB,aLb,aLe] at J;obtain⟨rfl,rfl⟩:=J;simp only[aLg,aLF] at hc;obtain⟨hsh,hok⟩:=hc;have hsl:=h.sl t
    rw[hd] at hsl;have hlk:∃y0,e.look r (e.root r).hv []=some y0/\y0.sh=y'.sh/\y0.fl=y'.fl:=by
     simp only[Env.take,aLa] at I;obtain⟨y0,hl,I⟩:=I;refine⟨y0,hl,?_⟩;cases hz:y0.fl.isz with
     | true=>simp only[hz,aLB,aLb,aLe] at I;obtain⟨_,rfl⟩:=I;exact⟨rfl,rfl⟩
     | false=>
      rw[hz,aLC] at I;cases hx:y0.fl.isx with
      | true=>simp_all
      | false=>
       rw[hx,aLC] at I;split at I
       ·simp only[aLd,aLe] at I;obtain⟨_,_,_,rfl⟩:=I;exact⟨rfl,rfl⟩
       ·cases I
    obtain⟨y0,hl,hs1,hf1⟩:=hlk;obtain⟨hv,S,F,X,hdr,hg⟩:=h.look hl;simp only[getP,aLb] at hg;subst hg;simp only at hs1 hf1;have hsl:Qah g e a w r ver [] (a.tmps.getD t undef):=hsl
    obtain⟨b,o,hA,hpt⟩:=(hsl.2.2 hid).1 rfl;have hrc:=Qet g a w hA
    have U:=h.root r hdr
    rw[hrc] at U;have hokF:okS S F=true:=by rw[hs1,hf1];exact hok
    obtain⟨u,hrun,hform,hcv⟩:=Qq5 (hT ty ti hti) (w:=w) (b:=b) (o:=o) (by rw[hsh,<-hs1];exact Qfg hokF U)
    have hbor:Qs P g e a w .none (.bor r (e.root r).hv []) u:=by
     refine⟨aMb _,fun he S2 F2 X2 hd2=>⟨by simp only[QG],fun _ s2 hs2=>?_⟩⟩
     rw[hdr] at hd2;obtain⟨rfl,_,_⟩:=ZR hd2;simp only[getS,aLb] at hs2;subst hs2;rw[hsh,<-hs1] at hform hcv;refine⟨hform,fun k hk=>?_⟩
     rw[hcv k hk,<-hrc];simp only[Qm]
    obtain⟨g1,h1,h2,h3⟩:=Qee h k hk hbor (fun i hi=>by cases hi) I
    refine⟨u,g1,?_,h1,h2,h3⟩;simp[resF,hpt,asAddr,hrun]
  ·cases J
theorem QsF (hT:QR P C):∀(vars:List ResultVar) (outs:List (Sh×Fl)) (k:Nat) {e e':Env} {ys:List ((s:Sh)×s.den)} {g:Gh},Rel P B g e a w->(∀j m,k<=m->g.ow j ≠ .fl m)->Qfy C e vars outs=some (e',ys)->
  ∃(vs:List Value) (g':Gh),g'.pl=g.pl/\Rel P B g' e' a w/\(vars.mapM (resF a.tmps)).run P w=.ok vs w/\vs.length=outs.length/\ys.map (·.1)=outs.map (·.1)/\(∀j m,m<k->g.ow j=.fl m->g'.ow j=.fl m)/\(∀j,g.ow j=.fz->g'.ow j=.fz)/\
   ∀(i:Nat) (o:Sh×Fl) (y:(s:Sh)×s.den) (u:Value),outs[i]? = some o->ys[i]? = some y->vs[i]? = some u->RepV P y.1 o.2 g'.Z w (g'.S (.fl (k+i))) u y.2:=by
 intro vars;induction vars with
 | nil=>
  intro outs k e e' ys g h hno hq;cases outs with
  | nil=>
   simp only[Qfy,aLb,aLe] at hq;obtain⟨rfl,rfl⟩:=hq;exact⟨[],g,rfl,h,by simp,rfl,rfl,fun _ _ _ h=>h,fun _ h=>h,fun i o y u ho=>by simp at ho⟩
  | cons o outs=>simp[Qfy] at hq
 | cons v vars ih=>
  intro outs k e e' ys g h hno hq;cases outs with
  | nil=>simp[Qfy] at hq
  | cons o outs=>
   obtain⟨s,f⟩:=o;simp only[Qfy] at hq;obtain⟨⟨e1,y⟩,h1,J⟩:=aLa.1 hq;clear hq;cases hc:decide (y.sh=s)&&Qq y.sh y.fl f with
   | false=>simp only[hc,aLC] at J;cases J
   | true=>
    simp only[hc,aLB] at J;simp only[aLg,aLF] at hc;obtain⟨rfl,hw⟩:=hc;obtain⟨⟨e2,zs⟩,h2,hq2⟩:=aLd.1 J;simp only[aLe] at hq2;obtain⟨rfl,rfl⟩:=hq2;obtain⟨u,g1,hrun,U,hr1,hrep⟩:=Qs6 hT h (fun j=>hno j k (aMb _)) h1
    obtain⟨g2,hpl2,how2,hr2,I⟩:=Qhj hr1 hw hrep;have htag:∀j m,m ≠ k->g.ow j=.fl m->g2.ow j=.fl m:=fun j m hm hj=>by
     have h3:g1.ow j=.fl m:=by
      rcases U.ow j with h3 | ⟨_,h4⟩
      ·exact h3.trans hj
      ·rcases h4 with ⟨n,h4⟩ | ⟨n,h4⟩<;>rw[hj] at h4<;>cases h4
     grind
    have hz2:∀j,g.ow j=.fz->g2.ow j=.fz:=fun j hj=>by
     have h3:g1.ow j=.fz:=by
      rcases U.ow j with h3 | ⟨_,h4⟩
      ·exact h3.trans hj
      ·rcases h4 with ⟨n,h4⟩ | ⟨n,h4⟩<;>rw[hj] at h4<;>cases h4
     rcases how2 j with h5 | ⟨h5,_⟩
     ·exact h5.trans h3
     ·rw[h3] at h5;cases h5
    have hno2:∀j m,k+1<=m->g2.ow j ≠ .fl m:=fun j m hm hj=>by
     rcases how2 j with h5 | ⟨_,h5⟩
     ·rw[h5] at hj
      rcases U.ow j with h3 | ⟨h3,_⟩
      ·rw[h3] at hj;exact hno j m (by omega) hj
      ·rw[h3] at hj;simp only[Tag.fl.injEq] at hj;omega
     ·rw[h5] at hj;cases hj
    obtain⟨vs,g3,hpl3,hr3,hrun3,hlen,hsh,ht3,hz3,hall⟩:=ih outs (k+1) hr2 hno2 h2;refine⟨u::vs,g3,hpl3.trans (hpl2.trans U.pl),hr3,?_,by simp[hlen],by simp[hsh],fun j m hm hj=>ht3 j m (by omega) (htag j m (by omega) hj),fun j hj=>hz3 j (hz2 j hj),fun i o' y' u' ho hy hu=>?_⟩
    ·simp[List.mapM_cons,hrun,hrun3]
    ·cases i with
     | zero=>
      simp only[aLt,aLb] at ho hy hu;subst ho hy hu;exact⟨I.1,I.2.mono (fun j hj=>hz3 j hj) (fun j hj=>ht3 j k (by omega) hj)⟩
     | succ i=>
      grind
theorem Qq0 {fn:Func} {tmps:Array Value} {vs:List Value} (h:(fn.results.toList.mapM (resF tmps)).run P w=.ok vs w):(Go.results fn tmps).run P w=.ok (if h:vs.length=1 then vs[0] else .tuple vs.toArray) w:=by
 have h1:Go.results fn tmps=(do let vs <-fn.results.mapM (resF tmps);pure (if h:vs.size=1 then vs[0] else .tuple vs)):=by
  rfl
 rw[h1];have h2:fn.results.mapM (resF tmps)=List.toArray <$> fn.results.toList.mapM (resF tmps):=by
  exact List.mapM_toArray ..
 simp_all
end Go.Dx
namespace Go.Dx
variable {P:Program} {C:Ctx}
inductive PInit (P:Program) (ow:Nat->Tag) (w:World) (n j:Nat):PS->Value->Cel->Cel->Prop
 | v {s:Sh} {f:Fl} {v:Value} {x:s.den}:RepV P s f (Zo ow) w (So ow (.fl j)) v x->PInit P ow w n j (.v s f) v ⟨0,.v s f x,0,0⟩ Cel.dead
 | rp {s:Sh} {v:Value} {x:s.den} {b o:Nat}:v=.pointer (some ⟨b,o,none⟩)->ow b=.fz->RepC P s .z (Zo ow) w QP (Qd w b o) x->PInit P ow w n j (.rp s false) v ⟨0,.rp s x,0,0⟩ Cel.dead
 | rpp {s:Sh} {v:Value} {x:s.den} {hb ho b o:Nat}:v=.pointer (some ⟨hb,ho,none⟩)->ow hb=.fz->Qd w hb ho 0=some (.pointer (some ⟨b,o,none⟩))->ow b=.fz->RepC P s .z (Zo ow) w QP (Qd w b o) x->PInit P ow w n j (.rp s true) v ⟨0,.rpp s x,0,0⟩ Cel.dead
 | io {s:Sh} {f f':Fl} {v:Value} {x:s.den} {hb o:Nat} {arr:Array Value} {ty:TypeId}:v=.pointer (some ⟨hb,o,none⟩)->ow hb=.c j->w.heap[hb]? = some (.cells arr ty (0,0))->o+s.size<=arr.size->
   RepC P s f (Zo ow) w (So ow (.fl j)) (Qd w hb o) x->PInit P ow w n j (.io s f f') v ⟨0,.loc (.b (n+j)) 0 [],0,0⟩ ⟨0,.v s f x,0,0⟩
 | mu {s:Sh} {f f':Fl} {v:Value} {x:s.den}:RepV P s f (Zo ow) w (So ow (.fl j)) v x->PInit P ow w n j (.mu s f f') v ⟨0,.v s f x,0,0⟩ Cel.dead
theorem Qoq {l:List Cel} {i:Nat} (h:l.length<=i):l.getD i Cel.dead=Cel.dead:=by simp_all
theorem QlZ {ow:Nat->Tag} {w:World} {n:Nat}:∀(ps:List PS) (i:Nat) (vs:List Value) (t:TupI (ps.map PS.sh)),QaH P ow w i ps vs t->
  vs.length=ps.length/\(Yt n i ps t).1.length=ps.length/\(Yt n i ps t).2.length=ps.length/\
   ∀k p,ps[k]? = some p->PInit P ow w n (i+k) p (vs.getD k undef) ((Yt n i ps t).1.getD k Cel.dead) ((Yt n i ps t).2.getD k Cel.dead):=by
 intro ps;induction ps with
 | nil=>intro i vs t h;obtain rfl:vs=[]:=h;exact⟨rfl,rfl,rfl,fun k p hk=>by simp at hk⟩
 | cons p ps I=>
  intro i vs t h;cases vs with
  | nil=>exact h.elim
  | cons v vs=>
   obtain⟨h1,h2⟩:=h;have hd:∃c d,(Yt n i (p::ps) t).1=c::(Yt n (i+1) ps t.2).1/\(Yt n i (p::ps) t).2=d::(Yt n (i+1) ps t.2).2/\PInit P ow w n i p v c d:=by
    cases p with
    | v s f=>exact⟨_,_,rfl,rfl,.v h1⟩
    | rp s q=>
     cases q with
     | false=>obtain⟨b,o,k1,k2,k3⟩:=h1;exact⟨_,_,rfl,rfl,.rp k1 k2 k3⟩
     | true=>obtain⟨hb,ho,b,o,k1,k2,k3,k4,k5⟩:=h1;exact⟨_,_,rfl,rfl,.rpp k1 k2 k3 k4 k5⟩
    | io s f f'=>obtain⟨hb,o,arr,ty,k1,k2,k3,k4,k5⟩:=h1;exact⟨_,_,rfl,rfl,.io k1 k2 k3 k4 k5⟩
    | mu s f f'=>exact⟨_,_,rfl,rfl,.mu h1⟩
   grind
def isIo:PS->Bool | .io ..=>true | _=>false
def tag0 (ps:List PS) (n:Nat):Tag->Tag
 | .fz=>.fz
 | .fl j=>match ps[j]? with | some (.io ..)=>.b (n+j) | _=>.s j
 | .c j=>.c (n+j)
 | _=>.none
def pl0 (vs:List Value) (n m:Nat):Plc:=if m<n then .hdr undef else match vs.getD (m - n) undef with | .pointer (some I)=>.cells I.block I.off | _=>.hdr undef
def Qa1 (n:Nat) (w:World):Nat->List PS->List Value->List Io
 | j,.io s _ _::ps,.pointer (some I)::vs=>(match w.heap[I.block]? with | some (.cells arr ty _)=>[⟨n+j,I.block,I.off,s.size,arr,ty⟩] | _=>[])++Qa1 n w (j+1) ps vs
 | j,_::ps,_::vs=>Qa1 n w (j+1) ps vs
 | _,_,_=>[]
theorem QnV {n:Nat} {w:World}:∀(ps:List PS) (j:Nat) (vs:List Value) (q:Io),q ∈ Qa1 n w j ps vs->∃k s f f' I arr ty x,ps[k]? = some (.io s f f')/\vs[k]? = some (.pointer (some I))/\w.heap[I.block]? = some (.cells arr ty x)/\q=⟨n+(j+k),I.block,I.off,s.size,arr,ty⟩
 | [],j,vs,q,h=>by simp[Qa1] at h
 | p::ps,j,[],q,h=>by cases p<;>simp[Qa1] at h
 | p::ps,j,v::vs,q,h=>by
  have J:q ∈ Qa1 n w (j+1) ps vs->∃k s f f' I arr ty x,(p::ps)[k]? = some (.io s f f')/\(v::vs)[k]? = some (.pointer (some I))/\w.heap[I.block]? = some (.cells arr ty x)/\q=⟨n+(j+k),I.block,I.off,s.size,arr,ty⟩:=fun h=>by
   obtain⟨k,s,f,f',I,arr,ty,x,h1,h2,h3,h4⟩:=QnV ps (j+1) vs q h;exact⟨k+1,s,f,f',I,arr,ty,x,by simpa using h1,by simpa using h2,h3,by rw[h4,show j+1+k=j+(k+1) by omega]⟩
  cases p with
  | io s f f'=>
   cases v with
   | pointer U=>
    cases U with
    | some I=>
     simp[Qa1,aMi] at h;rcases h with h | h
     ·split at h
      ·rename_i arr ty x hw
       simp[aLs] at h;exact⟨0,s,f,f',I,arr,ty,x,rfl,rfl,hw,h⟩
      grind
     simp_all
    | none=>exact J (by simpa [Qa1] using h)
   | _=>exact J (by simpa [Qa1] using h)
  | _=>exact J (by simpa [Qa1] using h)
theorem QqD {n:Nat} {w:World}:∀(ps:List PS) (j:Nat) (vs:List Value) (k:Nat) {s:Sh} {f f':Fl} {I:Addr} {arr:Array Value} {ty:TypeId} {x:Nat×Nat},ps[k]? = some (.io s f f')->vs[k]? = some (.pointer (some I))->w.heap[I.block]? = some (.cells arr ty x)->
  (⟨n+(j+k),I.block,I.off,s.size,arr,ty⟩:Io) ∈ Qa1 n w j ps vs
 | [],j,vs,k,s,f,f',I,arr,ty,x,h,_,_=>by simp at h
 | p::ps,j,[],k,s,f,f',I,arr,ty,x,_,h,_=>by simp at h
 | p::ps,j,v::vs,0,s,f,f',I,arr,ty,x,h1,h2,h3=>by
  simp only[aLt,aLb] at h1 h2;subst h1 h2;simp[Qa1,h3]
 | p::ps,j,v::vs,k+1,s,f,f',I,arr,ty,x,h1,h2,h3=>by
  have:=QqD (n:=n) ps (j+1) vs k (by simpa using h1) (by simpa using h2) h3
  rw[show j+1+k=j+(k+1) by omega] at this
  cases p with
  | io s' g g'=>
   cases v with
   | pointer J=>
    cases J with
    | some U=>simp only[Qa1,aMi];exact .inr this
    | none=>simpa [Qa1] using this
   | _=>simpa [Qa1] using this
  | _=>simpa [Qa1] using this
def QpX (K:Callee) (n:Nat) (ow:Nat->Tag) (w:World) (vs:List Value) {W0:World} (I:GOk W0 ow w):Base:=
 { w0:=w,may:=fun j=>ow j ≠ .none/\ow j ≠ .fz,fz0:=fun j=>ow j=.fz,ios:=Qa1 n w 0 K.ins vs,n:=n,dm:=K.dm,g0:=W0,gk:=fun i hi=>⟨(I i hi).1,fun h=>h.2 (I i hi).1,by
   have h1:=(I i hi).2
   rw[Array.getElem?_eq_getElem hi] at h1;exact (Array.getElem?_eq_some_iff.1 h1).1,(I i hi).2⟩ }
theorem Env.initE_s {n:Nat} {ps:List PS} {t:TupI (ps.map PS.sh)} (i:Nat) (I:(Yt n 0 ps t).1.length=ps.length):(QmJ n ps t).s i=(Yt n 0 ps t).1.getD i Cel.dead:=by
 show ((Yt n 0 ps t).1++List.replicate (n - ps.length) Cel.dead).getD i Cel.dead=_
 simp only[aLk];rcases aMg i (Yt n 0 ps t).1.length with h | h
 ·rw[aLu h]
 ·rw[aLv h,List.getElem?_eq_none h]
  simp only[List.getElem?_replicate];split<;>rfl
theorem Env.initE_b {n:Nat} {ps:List PS} {t:TupI (ps.map PS.sh)} (i:Nat):(QmJ n ps t).b i=if i<n then Cel.dead else (Yt n 0 ps t).2.getD (i - n) Cel.dead:=by
 show (List.replicate n Cel.dead++(Yt n 0 ps t).2).getD i Cel.dead=_
 grind
theorem Qws {W0:World} {K:Callee} {n:Nat} {ow:Nat->Tag} {w:World} {vs:List Value} {xs:TupI (K.ins.map PS.sh)} (hn:K.ins.length<=n) (hlt:∀i,ow i ≠ .none->i<w.heap.size) (hG:GOk W0 ow w) (hp:QaH P ow w 0 K.ins vs xs) :
  Rel P (QpX K n ow w vs hG) ⟨fun j=>tag0 K.ins n (ow j),pl0 vs n⟩ (QmJ n K.ins xs) { tmps:=vs.toArray++Array.replicate (n - vs.toArray.size) undef,defers:=[] } w:=by
 obtain⟨l1,l2,l3,hall⟩:=QlZ (n:=n) K.ins 0 vs xs hp;have hsz:(QmJ n K.ins xs).sl.length=n:=by
  show ((Yt n 0 K.ins xs).1++List.replicate (n - K.ins.length) Cel.dead).length=n
  simp[l2];omega
 have tmp:∀i,(vs.toArray++Array.replicate (n - vs.toArray.size) undef).getD i undef=vs.getD i undef:=by
  intro i;rw[Array.getD_eq_getD_getElem?,aLk]
  grind
 have hz:∀j,ow j=.fz->tag0 K.ins n (ow j)=.fz:=fun j hj=>by rw[hj];rfl
 have hZ:∀j,Zo ow j->Gh.Z ⟨fun j=>tag0 K.ins n (ow j),pl0 vs n⟩ j:=fun j hj=>hz j hj
 have hown:∀i p,K.ins[i]? = some p->isIo p=false->∀j,So ow (.fl i) j->Gh.S ⟨fun j=>tag0 K.ins n (ow j),pl0 vs n⟩ (.s i) j:=fun i p hi hio j hj=>by
  show tag0 K.ins n (ow j)=.s i
  rw[show ow j=.fl i from hj]
  simp only[tag0,hi];cases p<;>first | rfl | cases hio
 have hownb:∀i s f f',K.ins[i]? = some (.io s f f')->∀j,So ow (.fl i) j->Gh.S ⟨fun j=>tag0 K.ins n (ow j),pl0 vs n⟩ (.b (n+i)) j:=fun i s f f' hi j hj=>by
  show tag0 K.ins n (ow j)=.b (n+i)
  rw[show ow j=.fl i from hj]
  simp only[tag0,hi]
 refine⟨⟨by simp[hsz,l1];omega,hsz⟩,rfl,fun i=>?_,fun i=>?_,(Streams.refl w).d,fun _ _ _=>rfl,fun i hi=>hz i hi,fun i _ h2 h3=>?_,fun i hi=>?_,fun q hq=>?_⟩
 ·rw[Env.initE_s i l2,tmp i]
  rcases aMg i K.ins.length with h | h
  ·have I:=hall i _ (aLf h)
   rw[aMf] at I;have U:=aLf h
   generalize K.ins[i]=p at I U;generalize (Yt n 0 K.ins xs).2.getD i Cel.dead=cb at I;have hcb:=Env.initE_b (n:=n) (t:=xs) (n+i)
   generalize hc:(Yt n 0 K.ins xs).1.getD i Cel.dead=c at I;generalize hv:vs.getD i undef=v at I;cases I with
   | v hrep=>exact hrep.frame hZ (hown i _ U rfl) (fun _ _=>rfl)
   | mu hrep=>exact hrep.frame hZ (hown i _ U rfl) (fun _ _=>rfl)
   | rp k1 k2 k3=>exact⟨_,_,k1,hz _ k2,k3.mono hZ (fun _ h=>h)⟩
   | rpp k1 k2 k3 k4 k5=>exact⟨_,_,_,_,k1,hz _ k2,k3,hz _ k4,k5.mono hZ (fun _ h=>h)⟩
   | @io s f f' v x hb o arr ty k1 k2 k3 k4 k5=>
    have hpl:pl0 vs n (n+i)=.cells hb o:=by
     simp only[pl0,show ¬(n+i<n) by omega,if_false,Nat.add_sub_cancel_left,hv,k1]
    have hrA:QU (⟨fun j=>tag0 K.ins n (ow j),pl0 vs n⟩:Gh) (.b (n+i))=some (hb,o):=by simp only[QU,hpl]
    refine⟨⟨_,k1⟩,Nat.zero_le _,fun _=>⟨fun _=>⟨hb,o,hrA,k1⟩,fun S F X _=>⟨by simp only[QG],fun _=>⟨hb,o,by simp only[Qi];exact hrA,k1⟩⟩⟩⟩
  ·rw[Qoq (by rw[l2];exact h)];exact trivial
 ·rw[Env.initE_b]
  split
  ·exact trivial
  ·rename_i hin
   rcases aMg (i - n) K.ins.length with h | h
   ·have U:=aLf h
    have I:=hall (i - n) _ U
    rw[aMf] at I;generalize K.ins[i - n]=p at I U;generalize (Yt n 0 K.ins xs).1.getD (i - n) Cel.dead=c at I;generalize hcb:(Yt n 0 K.ins xs).2.getD (i - n) Cel.dead=cb at I;generalize hv:vs.getD (i - n) undef=v at I;have hin':n+(i - n)=i:=by omega
    cases I with
    | v _=>exact trivial
    | mu _=>exact trivial
    | rp _ _ _=>exact trivial
    | rpp _ _ _ _ _=>exact trivial
    | @io s f f' v x hb o arr ty k1 k2 k3 k4 k5=>
     have hpl:pl0 vs n i=.cells hb o:=by
      simp only[pl0,show ¬(i<n) from hin,if_false,hv,k1]
     refine⟨?_,fun hb2 o2 J=>?_⟩
     ·show RepC P s f _ w _ (Ql _ _ w (.b i)) x
      simp only[Ql,hpl];refine k5.mono hZ (fun j hj=>?_)
      have:=hownb (i - n) s f f' U j hj
      rwa [hin'] at this
     ·have J:pl0 vs n i=.cells hb2 o2:=J
      rw[hpl] at J;simp only[Plc.cells.injEq] at J;obtain⟨rfl,rfl⟩:=J;refine⟨?_,arr,ty,k3,k4⟩;show tag0 K.ins n (ow hb)=.c i
      rw[k2];simp only[tag0,hin']
   ·rw[Qoq (by rw[l3];exact h)];exact trivial
 ·have h2:¬(ow i ≠ .none/\ow i ≠ .fz):=h2
  have h3:¬ow i=.fz:=h3
  have:ow i=.none:=by
   cases hq:ow i with
   | none=>rfl
   | fz=>exact absurd hq h3
   | _=>exact (h2 ⟨by rw[hq];simp,by rw[hq];simp⟩).elim
  show tag0 K.ins n (ow i)=.none
  rw[this];rfl
 ·refine hlt i fun h0=>hi ?_
  show tag0 K.ins n (ow i)=.none
  rw[h0];rfl
 ·obtain⟨k,s,f,f',ad,arr,ty,x,h1,h2,h3,rfl⟩:=QnV K.ins 0 vs q hq
  rw[aMf];have hk:k<K.ins.length:=(aLy.1 h1).1
  have I:=hall k _ h1
  rw[aMf] at I;have hvk:vs.getD k undef=.pointer (some ad):=by rw[aLk,h2];rfl
  rw[hvk] at I;have hb2:=Env.initE_b (n:=n) (ps:=K.ins) (t:=xs) (n+k)
  rw[if_neg (by omega),Nat.add_sub_cancel_left] at hb2
  generalize (Yt n 0 K.ins xs).1.getD k Cel.dead=c at I;generalize (Yt n 0 K.ins xs).2.getD k Cel.dead=cb at I hb2;cases I with
  | @io _ _ _ _ x hb o arr2 ty2 k1 k2 k3 k4 k5=>
   simp only[Value.pointer.injEq,aLb] at k1;subst k1;simp only at h3;rw[k3] at h3;simp only[aLb,Obj.cells.injEq] at h3;obtain⟨rfl,rfl,rfl⟩:=h3;refine⟨Nat.le_add_right _ _,?_,?_,fun S F X hd=>?_,arr2,k3,rfl,fun _ _=>rfl⟩
   ·simp only[pl0,show ¬(n+k<n) by omega,if_false,Nat.add_sub_cancel_left,hvk]
   ·show tag0 K.ins n (ow hb)=.c (n+k)
    rw[k2];rfl
   ·rw[hb2] at hd
    simp only[Desc.v.injEq] at hd;rw[hd.1]
end Go.Dx
namespace Go.Dx
variable {P:Program} {W0:World} {C:Ctx}
def tagF (I:List (Root×Nat)) (n:Nat):Tag->Tag
 | .fz=>.fz
 | .fl k=>.fl k
 | .c m=>if n<=m then .c (m - n) else .none
 | .b m=>match QhX (.b m) I with | some i=>.b i | none=>if n<=m then .b (m - n) else .none
 | .s m=>match QhX (.s m) I with | some i=>.b i | none=>.none
 | .none=>.none
theorem Qtj {I:List (Root×Nat)} {n:Nat} {r:Root} {i:Nat} (h:QhX r I=some i):tagF I n (tagR r)=.b i:=by
 cases r with
 | s m=>simp[tagR,tagF,h]
 | b m=>simp[tagR,tagF,h]
theorem Qlb:∀(ps:List PS) (i k:Nat) {s:Sh} {f f':Fl},ps[k]? = some (.mu s f f')->i+k ∈ Qhi i ps
 | [],i,k,s,f,f',h=>by simp at h
 | p::ps,i,0,s,f,f',h=>by simp at h;subst h;simp[Qhi]
 | p::ps,i,k+1,s,f,f',h=>by
  have:=Qlb ps (i+1) k (by simpa using h)
  rw[show i+1+k=i+(k+1) by omega] at this
  cases p<;>first | exact this | exact aLp _ this
theorem Qt7 {K:Callee} {n:Nat} {ow:Nat->Tag} {w w':World} {vs:List Value} {g:Gh} {e:Env} {a:Act} {xs:TupI (K.ins.map PS.sh)} {mr:List (Root×Nat)} {hG:GOk W0 ow w} (hp:QaH P ow w 0 K.ins vs xs) (h:Rel P (QpX K n ow w vs hG) g e a w')
  (hk:∀i s f f',K.ins[i]? = some (.mu s f f')->a.tmps.getD i undef=vs.getD i undef) :
  ∀(ps:List PS) (i:Nat) (us:List Value) (io:List ((s:Sh)×s.den)),(∀k,ps[k]? = K.ins[i+k]?)->(∀k,us[k]? = vs[i+k]?)->us.length=ps.length->Qdz e mr n i ps=some io->Zp P (fun j=>tagF mr n (g.ow j)) w w' i ps us io:=by
 obtain⟨l1,l2,l3,hall⟩:=QlZ (n:=n) K.ins 0 vs xs hp;intro ps;induction ps with
 | nil=>
  intro i us io _ _ hl I;simp only[Qdz,aLb] at I;subst I;simp only[Zp];exact⟨aMk hl,trivial⟩
 | cons p ps ih=>
  intro i us io hps hus hl I;cases us with
  | nil=>simp at hl
  | cons u us=>
   have J:∀k,ps[k]? = K.ins[i+1+k]?:=fun k=>by have:=hps (k+1);rw[show i+1+k=i+(k+1) by omega];simpa using this
   have U:∀k,us[k]? = vs[i+1+k]?:=fun k=>by have:=hus (k+1);rw[show i+1+k=i+(k+1) by omega];simpa using this
   have hl':us.length=ps.length:=by simpa using hl
   have hpi:K.ins[i]? = some p:=by have:=hps 0;simpa using this.symm
   have hui:vs[i]? = some u:=by have:=hus 0;simpa using this.symm
   have hug:vs.getD i undef=u:=by rw[aLk,hui];rfl
   have hz:∀j,g.ow j=.fz->tagF mr n (g.ow j)=.fz:=fun j hj=>by rw[hj];rfl
   cases p with
   | v s f=>simp only[Qdz] at I;simp only[Zp];exact ih (i+1) us io J U hl' I
   | rp s q=>simp only[Qdz] at I;simp only[Zp];exact ih (i+1) us io J U hl' I
   | mu s f f'=>
    simp only[Qdz] at I;split at I
    ·rename_i s' fl x hd
     cases hc:decide (s=s')&&decide (fl=f')&&!fl.isx&&decide (QhX (Qi2 e i) mr=some i) with
     | false=>simp only[hc,aLC] at I;cases I
     | true=>
      simp only[hc,aLB] at I;simp only[aLg,aLF,Bool.not_eq_true'] at hc;obtain⟨⟨⟨rfl,rfl⟩,hnx⟩,hfr⟩:=hc;obtain⟨l,hl2,rfl⟩:=aLd.1 I;simp only[Zp];refine⟨⟨trivial,?_⟩,ih (i+1) us l J U hl' hl2⟩;have hsl:=h.sl i
      rw[hk i s f fl hpi,hug] at hsl;have hrep:RepV P s fl g.Z w' (g.S (tagR (Qi2 e i))) u x:=by
       unfold Qi2;cases hdd:(e.s i).d with
       | v s2 f2 x2=>
        rw[hdd] at hd hsl;simp only[Env.val,aLb,Dv.mk.injEq] at hd;obtain⟨rfl,rfl,hx⟩:=hd;obtain rfl:=eq_of_heq hx;exact hsl
       | bor r ver p=>
        rw[hdd] at hd hsl;exact h.bor hsl hd (fun hx=>by rw[show fl=.x from hx] at hnx;cases hnx)
       | _=>rw[hdd] at hd;cases hd
      refine hrep.frame hz (fun j hj=>?_) (fun _ _=>rfl)
      show tagF mr n (g.ow j)=.b i
      rw[show g.ow j=tagR (Qi2 e i) from hj]
      exact Qtj hfr
    ·cases I
   | io s f f'=>
    simp only[Qdz] at I;split at I
    ·rename_i s' fl x hd
     cases hc:decide (s=s')&&decide (fl=f')&&(QhX (.b (n+i)) mr).isNone with
     | false=>simp only[hc,aLC] at I;cases I
     | true=>
      simp only[hc,aLB] at I;simp only[aLg,aLF,Option.isNone_iff_eq_none] at hc;obtain⟨⟨rfl,rfl⟩,hfr⟩:=hc;obtain⟨l,hl2,rfl⟩:=aLd.1 I;simp only[Zp];refine⟨?_,ih (i+1) us l J U hl' hl2⟩;have hpin:=hall i _ hpi
      rw[aMf,hug] at hpin;generalize (Yt n 0 K.ins xs).1.getD i Cel.dead=c1 at hpin;generalize (Yt n 0 K.ins xs).2.getD i Cel.dead=c2 at hpin;cases hpin with
      | @io _ _ _ _ x0 hb o arr ty k1 k2 k3 k4 k5=>
       subst k1;have hq:=QqD (n:=n) K.ins 0 vs i hpi hui k3
       rw[aMf] at hq;obtain⟨_,hio2⟩:=h.ios _ hq;obtain⟨arr',h1,h2,h3⟩:=hio2.there;have hbl:=h.bl (n+i)
       rw[hd] at hbl;have hpl:g.pl (n+i)=.cells hb o:=hio2.pl
       refine⟨hb,o,arr,arr',ty,rfl,k3,h1,h2,h3,?_,trivial,?_⟩
       ·show tagF mr n (g.ow hb)=.c i
        rw[hio2.ow];simp only[tagF,show n<=n+i by omega,if_true,Nat.add_sub_cancel_left]
       ·have hrep:=hbl.1
        simp only[Ql,hpl] at hrep;refine hrep.mono hz (fun j hj=>?_)
        show tagF mr n (g.ow j)=.b i
        rw[show g.ow j=.b (n+i) from hj]
        simp only[tagF,hfr,show n<=n+i by omega,if_true,Nat.add_sub_cancel_left]
    ·cases I
theorem Qvf {ow':Nat->Tag} {w':World} {outs:List (Sh×Fl)} {ys:List ((s:Sh)×s.den)} {us:List Value} (I:ys.map (·.1)=outs.map (·.1)) (J:us.length=outs.length)
  (one:∀(i:Nat) (o:Sh×Fl) (y:(s:Sh)×s.den) (u:Value),outs[i]? = some o->ys[i]? = some y->us[i]? = some u->RepV P y.1 o.2 (Zo ow') w' (So ow' (.fl i)) u y.2) :
  Qpm P ow' w' outs (if h:us.length=1 then us[0] else .tuple us.toArray) ys:=by
 refine⟨I,?_⟩;have tup:us.length ≠ 1->∃vs:Array Value,(if h:us.length=1 then us[0] else .tuple us.toArray)=.tuple vs/\vs.size=outs.length/\∀(k:Nat) (o:Sh×Fl) (y:(s:Sh)×s.den) (u:Value),outs[k]? = some o->ys[k]? = some y->vs[k]? = some u->RepV P y.1 o.2 (Zo ow') w' (So ow' (.fl k)) u y.2:=fun U=>by
  simp_all
 cases outs with
 | nil=>simp_all
 | cons o l=>
  cases l with
  | cons o2 l=>simp_all
  | nil=>
   cases ys with
   | nil=>simp_all
   | cons y rest=>
    grind
theorem QcZ {K:Callee} (hT:QR P C) (hC:Qae P W0 K.dm C) (hm:P.follows .mixedOrders=true) {j:FuncId} {fn:Func} (hf:P.funcs[j]? = some fn) (hb:fn.body.isSome=true) (hname:(fn.name == "runtime.NumGoroutine")=false)
  (hrun:∀xs ys,K.F xs=some ys->runF C fn K xs=some ys):Contract P W0 j K:=by
 refine⟨⟨fn,hf,hb,hname⟩,fun w ow vs xs ys hlt hG hp hF=>?_⟩
 have h:=hrun xs ys hF
 unfold runF at h;split at h
 ·cases h
 ·rename_i c hbody
  cases J:!QaE (Qhi 0 K.ins) c || !Nat.ble K.ins.length fn.ntmps || !Nat.ble K.outs.length PK with
  | true=>rw[J,aLB] at h;cases h
  | false=>
   rw[J,aLC] at h;simp only[Bool.or_eq_false_iff,Bool.not_eq_false'] at J;obtain⟨⟨hfree,hlen⟩,_⟩:=J;have hlen:K.ins.length<=fn.ntmps:=Nat.ble_eq.mp hlen
   have hinit:=Qws (n:=fn.ntmps) hlen hlt hG hp
   obtain⟨l1,l2,l3,hall⟩:=QlZ (n:=fn.ntmps) K.ins 0 vs xs hp;refine calls_of_wp hf hbody ?_;refine Qwv hT hC hm c _ _ ys hfree h _ _ w _ hinit (fun _ _=>rfl) (fun x g e a w' h1 h2 h3 h4=>?_)
   have fin:((Qfy C e fn.results.toList K.outs).bind fun (u:Env×List ((s:Sh)×s.den))=>(Qdz u.1 (Qej u.1 0 K.ins) fn.ntmps 0 K.ins).bind fun io=>gatO (K.outs.map (·.1)++QaO K.ins) (u.2++io))=some ys->
     a.defers=[]/\∃v,(Go.results fn a.tmps).run P w'=.ok v w'/\∃vr ow',Ending.returned v=.returned vr/\Qhu P K ow w vs ys ow' w' vr:=by
    intro h4;obtain⟨⟨e2,rs⟩,hres,h4⟩:=aLa.1 h4;obtain⟨io,hio,hg⟩:=aLa.1 h4;dsimp only at hio hg;obtain⟨g0,hpl0,hcl,hr0⟩:=h1.clean;obtain⟨us,g2,hpl2,I,hmap,hul,hsh,_,_,hall2⟩:=QsF hT _ _ 0 hr0 (fun j m _=>hcl j m) hres
    have hsc:=Ql7 _ _ hg
    have hrl:rs.length=K.outs.length:=by have:=congrArg List.length hsh;simpa using this
    have hkeep:∀i s f f',K.ins[i]? = some (.mu s f f')->a.tmps.getD i undef=vs.getD i undef:=by
     intro i s f f' hi;have U:=Qlb K.ins 0 i hi
     rw[aMf] at U;rw[h3 i (List.any_eq_true.2 ⟨i,U,by simp⟩)]
     have hil:i<vs.length:=by rw[l1];exact (aLy.1 hi).1
     rw[Array.getD_eq_getD_getElem?,Array.getElem?_append_left (by simpa using hil),aLk];simp
    refine⟨h1.defers,_,Qq0 hmap,_,fun j=>tagF (Qej e2 0 K.ins) fn.ntmps (g2.ow j),rfl,?_⟩
    have hzz:∀j,g2.Z j->Zo (fun j=>tagF (Qej e2 0 K.ins) fn.ntmps (g2.ow j)) j:=fun j hj=>by show tagF _ _ (g2.ow j)=.fz;rw[show g2.ow j=.fz from hj];rfl
    have hff:∀k j,g2.S (.fl k) j->So (fun j=>tagF (Qej e2 0 K.ins) fn.ntmps (g2.ow j)) (.fl k) j:=fun k j hj=>by show tagF _ _ (g2.ow j)=.fl k;rw[show g2.ow j=.fl k from hj];rfl
    refine⟨I.st,fun j hj ho=>?_,fun j hj=>?_,?_,?_⟩
    ·have hmay:¬(QpX K fn.ntmps ow w vs hG).may j:=fun hm=>ho.elim hm.1 hm.2
     refine⟨I.frame j hj hmay,?_⟩;rcases ho with ho | ho
     ·have:=I.nn j hj hmay (fun hz=>by rw[show ow j=.fz from hz] at ho;cases ho)
      rw[ho];show tagF _ _ (g2.ow j)=.none;rw[this];rfl
     ·have:=I.fz j ho
      rw[ho];show tagF _ _ (g2.ow j)=.fz;rw[this];rfl
    ·refine I.lt j fun h0=>hj ?_
     show tagF _ _ (g2.ow j)=.none
     rw[h0];rfl
    ·rw[hsc,<-hrl,List.take_left']
     ·have one:∀(i:Nat) (o:Sh×Fl) (y:(s:Sh)×s.den) (u:Value),K.outs[i]? = some o->rs[i]? = some y->us[i]? = some u->RepV P y.1 o.2 (Zo fun j=>tagF (Qej e2 0 K.ins) fn.ntmps (g2.ow j)) w' (So (fun j=>tagF (Qej e2 0 K.ins) fn.ntmps (g2.ow j)) (.fl i)) u y.2:=fun i o y u h5 h6 h7=>by
       have:=hall2 i o y u h5 h6 h7
       rw[aMf] at this;exact this.frame hzz (hff i) (fun _ _=>rfl)
      exact Qvf hsh hul one
     ·rfl
    ·rw[hsc,<-hrl,List.drop_left']
     ·exact Qt7 hp I hkeep K.ins 0 vs io (fun k=>by simp) (fun k=>by simp) l1 hio
     ·rfl
   cases x with
   | exit i=>cases h4
   | normal=>exact fin h4
   | ret=>exact fin h4
end Go.Dx
namespace Go.Dx
variable {P:Program} {W0:World} {C:Ctx}
def TysL (P:Program) (C:Ctx):List (TypeId×TI)->Prop
 | []=>True
 | (t,ti)::l=>TyOk P C t ti/\TysL P C l
theorem TysL.get:∀(l:List (TypeId×TI)),TysL P C l->∀t ti,assoc t l=some ti->TyOk P C t ti
 | [],_,t,ti,h=>by cases h
 | (m,a)::l,I,t,ti,h=>by
  unfold assoc at h;cases hb:Nat.beq m t with
  | true=>
   rw[hb] at h;obtain rfl:=aLw hb;cases h;exact I.1
  | false=>rw[hb] at h;exact TysL.get l I.2 t ti h
theorem Qu9 (h:TysL P C C.tys):QR P C:=fun t ti hh=>TysL.get C.tys h t ti hh
theorem Qqj {C C':Ctx} (U:C'.tys=C.tys) (h:QR P C):QR P C':=by
 have I:∀t,C'.ty t=C.ty t:=fun t=>by unfold Ctx.ty;rw[U]
 have hst:∀(fs:List (Nat×TypeId)) (off:Nat) (s:Sh),ZX C off fs s->ZX C' off fs s:=by
  intro fs;induction fs with
  | nil=>intro off s h;exact h
  | cons f fs ih=>
   intro off s h;cases fs with
   | nil=>obtain⟨o,t⟩:=f;simp[ZX] at h ⊢;rw[I];exact h
   | cons f2 fs=>obtain⟨o,t⟩:=f;simp[ZX] at h ⊢;rw[I];obtain⟨a,b,h1,h2,h3,h4⟩:=h;exact⟨a,b,h1,h2,h3,ih _ _ h4⟩
 intro t ti J;rw[I] at J;have h0:=h t ti J
 refine⟨h0.info,?_⟩;have hu:=h0.und
 grind
def FnsL (P:Program) (W0:World):List (FuncId×Callee)->Prop
 | []=>True
 | (j,K)::l=>Contract P W0 j K/\FnsL P W0 l
theorem FnsL.get:∀(l:List (FuncId×Callee)),FnsL P W0 l->∀j K,assoc j l=some K->Contract P W0 j K
 | [],_,t,ti,h=>by cases h
 | (m,a)::l,I,t,ti,h=>by
  unfold assoc at h;cases hb:Nat.beq m t with
  | true=>
   rw[hb] at h;obtain rfl:=aLw hb;cases h;exact I.1
  | false=>rw[hb] at h;exact FnsL.get l I.2 t ti h
def NpsL (P:Program) (W0:World):List (FuncId×NewP)->Prop
 | []=>True
 | (j,N)::l=>Qsg P W0 j N/\NpsL P W0 l
theorem NpsL.get:∀(l:List (FuncId×NewP)),NpsL P W0 l->∀j N,assoc j l=some N->Qsg P W0 j N
 | [],_,t,ti,h=>by cases h
 | (m,a)::l,I,t,ti,h=>by
  unfold assoc at h;cases hb:Nat.beq m t with
  | true=>
   rw[hb] at h;obtain rfl:=aLw hb;cases h;exact I.1
  | false=>rw[hb] at h;exact NpsL.get l I.2 t ti h
theorem Qox {α:Type} {p:α->Bool}:∀(l:List (Nat×α)),l.all (fun q=>p q.2)=true->∀j K,assoc j l=some K->p K=true
 | [],_,j,K,h=>by cases h
 | (m,a)::l,I,j,K,h=>by
  simp only[List.all_cons,aLg] at I;unfold assoc at h;cases hb:Nat.beq m j with
  | true=>simp_all
  | false=>rw[hb] at h;exact Qox l I.2 j K h
theorem QpE {d:Bool} (h:FnsL P W0 C.fns) (I:NpsL P W0 C.nps) (hd:(!d || C.fns.all (fun q=>q.2.dm))=true:=by rfl):Qae P W0 d C:=⟨fun j K hh=>FnsL.get C.fns h j K hh,fun j N hh=>NpsL.get C.nps I j N hh,fun J j K hh=>by
 rw[J] at hd;exact Qox C.fns (by simpa using hd) j K hh⟩
theorem QuD {d:Bool} (h:FnsL P W0 C.fns) (I:C.nps=[]:=by rfl) (hd:(!d || C.fns.all (fun q=>q.2.dm))=true:=by rfl):Qae P W0 d C:=QpE h (by rw[I];trivial) hd
end Go.Dx
namespace Go.Dx
variable {P:Program} {C:Ctx} {w:World}
def Sh.plain:Sh->Bool
 | .list s=>s.plain
 | .prod a b=>a.plain&&b.plain
 | .fn1 ..=>false
 | .fn2 ..=>false
 | _=>true
def Bnd:(s:Sh)->s.den->Prop
 | .int k,n=>(Lit.int k n).wf=true
 | .bool,_=>True
 | .str,x=>List.length x<=maxLen
 | .list s,x=>List.length x<=maxLen/\∀y,y ∈ (show List s.den from x)->Bnd s y
 | .prod a b,x=>Bnd a x.1/\Bnd b x.2
 | .fn1 ..,_=>True
 | .fn2 ..,_=>True
theorem TyOk.cells {t:TypeId} {ti:TI} (h:TyOk P C t ti):P.cellsOf t=ti.sh.size:=by
 obtain⟨i,h1,h2,_⟩:=h.info;simp[Program.cellsOf,h1,h2]
theorem Qpq {α β:Type} {f:α->Option β}:∀(l:List α) {r:List β},l.mapM f=some r->r.length=l.length/\∀(i:Nat) (x:α),l[i]? = some x->f x=r[i]?
 | [],r,h=>by simp at h;subst h;simp
 | x::l,r,h=>by
  simp[ aLa] at h;obtain⟨y,J,U,I,rfl⟩:=h;obtain⟨h1,h2⟩:=Qpq l I
  grind
theorem cells?_get {a:Addr} {n:Nat} {cs:List Value} (h:w.cells? 0 a n=some cs):cs.length=n/\∀k,k<n->cs[k]? = w.cell? (a.add k):=by
 obtain⟨h1,h2⟩:=Qpq _ h
 grind
theorem cell?_some {a:Addr} {v:Value} (h:w.cell? a=some v):a.spot=none/\a.block<w.heap.size:=by
 simp[World.cell?] at h;split at h
 ·split at h
  ·grind
  ·rename_i I
   refine⟨by simpa using I,?_⟩
   grind
 grind
theorem Qum {H:Type} {enc:TypeId×Value->H} {sp:Nat->Bool} {held:Bool} {Z:Nat->Prop} (hZ:∀b,b<w.heap.size->Z b) (hT:QR P C):∀(fuel:Nat) (t:TypeId) (ti:TI) (cs:List Value) (x:DataW H×List MemPlace),
  C.ty t=some ti->ti.sh.plain=true->DataW.trod enc P w 0 sp held fuel t cs=some x->cs.length=ti.sh.size/\∃y:ti.sh.den,RepC P ti.sh .z Z w QP (fun k=>cs[k]?) y/\Bnd ti.sh y:=by
 intro fuel;induction fuel with
 | zero=>intro t ti cs x _ _ h;simp[DataW.trod] at h
 | succ fuel ih=>
  intro t ti cs x ht hp h;have hok:=hT t ti ht
  have hu:=hok.und
  obtain⟨sh,bytes,td⟩:=ti;simp only at hu hp ⊢;cases td with
  | int k=>
   obtain⟨hu,rfl⟩:=hu;obtain⟨n,rfl,_,hw⟩:=DataW.trod_int hu h;exact⟨rfl,n,fun _=>rfl,hw⟩
  | bool=>
   obtain⟨hu,rfl⟩:=hu;obtain⟨b,rfl,_⟩:=DataW.trod_bool hu h;exact⟨rfl,b,fun _=>rfl,trivial⟩
  | str=>
   obtain⟨hu,rfl⟩:=hu;obtain⟨s,rfl,_,hl⟩:=DataW.trod_string hu h;exact⟨rfl,s.data.toList,fun _=>by simp,by show s.data.toList.length<=maxLen;simpa using hl⟩
  | ptr e=>obtain⟨_,rfl⟩:=hu;cases hp
  | func=>obtain⟨_,⟨_,_,_,rfl⟩ | ⟨_,_,_,rfl⟩⟩:=hu<;>cases hp
  | other=>exact hu.elim
  | slice e=>
   obtain⟨hu,te,hte,rfl⟩:=hu;have hce:=(hT e te hte).cells
   simp only[Sh.plain] at hp;rcases DataW.trod_slice hu h with ⟨rfl,_⟩ | ⟨a,len,cap,elems,rest,n,hn,rfl,_,_,hl,hm,hlen,hel,_⟩
   ·exact⟨rfl,[],⟨none,0,0,rfl,rfl,aMb _,fun h=>by omega⟩,by show List.length []<=maxLen;simp,fun y hy=>by cases hy⟩
   ·obtain rfl:fuel=n:=by omega
    have hcell:∀i,i<len->∃I,w.cells? 0 (a.add (i * te.sh.size)) te.sh.size=some I/\∃y:te.sh.den,RepC P te.sh .z Z w QP (fun k=>I[k]?) y/\Bnd te.sh y:=by
     intro i hi;have h1:=hel i hi
     rw[aLf (by omega)] at h1
     obtain⟨I,h2,h3⟩:=aLa.1 h1;rw[hce] at h2;exact⟨I,h2,(ih e te I _ hte hp h3).2⟩
    have hpos:=Sh.size_pos te.sh
    have first:0<len->a.spot=none/\a.block<w.heap.size:=by
     intro h0;obtain⟨I,h1,_⟩:=hcell 0 h0;obtain⟨h2,h3⟩:=cells?_get h1;have h4:=h3 0 hpos
     rw[aLf (by omega)] at h4
     have h5:=cell?_some h4.symm
     simpa [Addr.add] using h5
    have one:∀i,∃y:te.sh.den,i<len->RepC P te.sh .z Z w QP (Qd w a.block (a.off+i * te.sh.size)) y/\Bnd te.sh y:=by
     intro i;by_cases hi:i<len
     ·obtain⟨I,h1,y,h2,h3⟩:=hcell i hi
      refine⟨y,fun _=>⟨RepC.congr (fun k hk=>?_) h2,h3⟩⟩
      obtain⟨_,h4⟩:=cells?_get h1;have hsp:=(first (by omega)).1
      show Qd w a.block (a.off+i * te.sh.size) k=I[k]?
      rw[h4 k hk];obtain⟨ab,ao,asp⟩:=a;simp only at hsp;subst hsp;simp only[Qd,Addr.add];congr 1;split<;>split<;>simp_all<;>omega
     ·exact⟨te.sh.dflt,fun h=>absurd h hi⟩
    obtain⟨f,hf⟩:=Classical.axiomOfChoice one;refine⟨rfl,(List.range len).map f,⟨some a,len,cap,rfl,by simp,hl,fun h0=>?_⟩,?_,fun y hy=>?_⟩
    ·obtain⟨h1,h2⟩:=first h0
     refine⟨a.block,a.off,by rw[<-h1],hZ _ h2,fun j hj=>?_⟩
     have hj':j<len:=by simpa using hj
     have:=(hf j hj').1
     simpa using this
    ·show ((List.range len).map f).length<=maxLen
     simp;omega
    grind
  | struct fs=>
   obtain⟨⟨fields,hu,rfl,_⟩,hso,_⟩:=hu;have hc0:=hok.cells
   simp only at hc0;obtain⟨xs,n,hn,_,hlen,hxl,hel⟩:=DataW.trod_struct hu h;obtain rfl:fuel=n:=by omega
   rw[hc0] at hlen;refine⟨hlen,?_⟩;have hall:∀f,f ∈ fields.toList->∃y,DataW.trod enc P w 0 sp held fuel f.type ((cs.drop f.offset).take (P.cellsOf f.type))=some y:=by
    intro f hf;obtain⟨i,hi,rfl⟩:=List.getElem_of_mem hf;have hi':i<fields.size:=by simpa using hi
    have:=hel i (fields.toList[i]) (by simp[Array.getElem?_eq_getElem hi'])
    rw[aLf (by omega)] at this
    exact⟨_,this⟩
   have key:∀(l:List Field) (off:Nat) (s:Sh),ZX C off (l.map fun f=>(f.offset,f.type)) s->s.plain=true->(∀f,f ∈ l->f ∈ fields.toList)->∃y:s.den,RepC P s .z Z w QP (fun k=>cs[off+k]?) y/\Bnd s y:=by
    have field:∀(f:Field) (ti:TI),C.ty f.type=some ti->ti.sh.plain=true->f ∈ fields.toList->∃y:ti.sh.den,RepC P ti.sh .z Z w QP (fun k=>cs[f.offset+k]?) y/\Bnd ti.sh y:=by
     intro f ti J U hf;obtain⟨x',hx'⟩:=hall f hf;obtain⟨_,y,h2,h3⟩:=ih f.type ti _ _ J U hx';refine⟨y,RepC.congr (fun k hk=>?_) h2,h3⟩
     rw[(hT _ _ J).cells,List.getElem?_take,if_pos hk,List.getElem?_drop]
    intro l;induction l with
    | nil=>intro off s h;exact h.elim
    | cons f l ihl=>
     intro off s h U hsub;cases l with
     | nil=>
      simp only[aMJ,List.map_nil,ZX] at h;obtain⟨ho,ti,J,rfl⟩:=h;obtain⟨y,h1,h2⟩:=field f ti J U (hsub f (by simp))
      rw[ho] at h1;exact⟨y,h1,h2⟩
     | cons f2 l=>
      simp only[aMJ,ZX] at h;obtain⟨a,b,rfl,ho,⟨ti,J,rfl⟩,hrest⟩:=h;simp only[Sh.plain,aLg] at U;obtain⟨y,h1,h2⟩:=field f ti J U.1 (hsub f (by simp))
      obtain⟨z,h3,h4⟩:=ihl (off+ti.sh.size) b hrest U.2 (fun g hg=>hsub g (by simp[hg]))
      rw[ho] at h1;refine⟨(y,z),⟨fun _=>true,h1.mono (fun _ h=>h) (fun _ h=>h.elim),?_⟩,h2,h4⟩
      refine RepC.mono (fun _ h=>h) (fun _ h=>h.elim) (RepC.congr (fun k hk=>?_) h3)
      show cs[off+(ti.sh.size+k)]? = _
      rw[aMh]
   grind
end Go.Dx
namespace Go.Dx
open Go.ChangeShapes Go.WideShapes Go.ChangeAt Go.RowKit
variable {P:Program} {C:Ctx} {H:Type} {enc:TypeId×Value->H}
noncomputable def QhR (w:World):Nat->Tag:=fun i=>if i<w.heap.size then .fz else .none
def PsOf (C:Ctx):List TypeId->List PS->Prop
 | [],[]=>True
 | t::I,.v s f::ps=>(∃ti,C.ty t=some ti/\ti.sh=s/\s.plain=true)/\f=.z/\PsOf C I ps
 | _,_=>False
def BndI:(ps:List PS)->TupI (ps.map PS.sh)->Prop
 | [],_=>True
 | p::ps,t=>Bnd p.sh t.1/\BndI ps t.2
theorem QuL {W:World} {sp:Nat->Bool} {held:Bool} {r:Reach} {b0:Nat} (hT:QR P C) {t:TypeId} {ti:TI} (ht:C.ty t=some ti) (U:ti.sh.plain=true) {v:Value} {d:DataW H} {ps:List MemPlace} (I:Value.okWide P W r b0 t v)
  (hd:DataW.Trod enc P W 0 sp held t v d ps) (i:Nat):∃y:ti.sh.den,Qnh P (QhR W) W i (.v ti.sh .z) v y/\Bnd ti.sh y:=by
 obtain⟨fuel,hd⟩:=hd;obtain⟨hlen,y,h1,h2⟩:=Qum (fun b hb=>by show QhR W b=.fz;simp[QhR,hb]) hT fuel t ti _ _ ht U hd
 refine⟨y,⟨?_,RepC.mono (fun _ h=>h) (fun _ h=>h.elim) (RepC.congr (fun k hk=>?_) h1)⟩,h2⟩
 ·have J:=hT t ti ht
  have hu:=J.und
  have hce:=J.cells
  obtain⟨sh,bytes,td⟩:=ti;cases td with
  | int k=>obtain⟨hu,rfl⟩:=hu;cases v<;>first | rfl | (simp[Value.okWide,Cell.okWide,Cell.ok,hu] at I)
  | bool=>obtain⟨hu,rfl⟩:=hu;cases v<;>first | rfl | (simp[Value.okWide,Cell.okWide,Cell.ok,hu] at I)
  | str=>obtain⟨hu,rfl⟩:=hu;cases v<;>first | rfl | (simp[Value.okWide,Cell.okWide,Cell.ok,hu] at I)
  | ptr e=>obtain⟨_,rfl⟩:=hu;cases U
  | func=>obtain⟨_,⟨_,_,_,rfl⟩ | ⟨_,_,_,rfl⟩⟩:=hu<;>cases U
  | other=>simp_all
  | slice e=>obtain⟨hu,te,_,rfl⟩:=hu;cases v<;>first | rfl | (simp[Value.okWide,Cell.okWide,Cell.ok,hu] at I)
  | struct fs=>
   obtain⟨⟨fields,hu,rfl,_⟩,hso,h2,_⟩:=hu;simp[Value.okWide,hu] at I;obtain⟨cs,rfl,hcs,_⟩:=I;have:=ZX.prod hso h2
   cases sh with
   | prod a b=>exact⟨cs,rfl,by rw[hcs,hce];rfl⟩
   | _=>cases this
 ·simp[Qg]
theorem Qqe {W:World} {sp:Nat->Bool} {held:Bool} {r:Reach} {b0:Nat} (hT:QR P C):∀(U:List TypeId) (ps:List PS) (vs:List Value) (ds:List (DataW H)) (pl:List MemPlace) (i:Nat),PsOf C U ps->DataW.TrodAll enc P W 0 sp held U vs ds pl->
  (∀(j:Nat) t v,U[j]? = some t->vs[j]? = some v->Value.okWide P W r b0 t v)->ds.length=U.length/\∃xs:TupI (ps.map PS.sh),QaH P (QhR W) W i ps vs xs/\BndI ps xs
 | [],[],vs,ds,pl,i,_,h,_=>by
  obtain⟨rfl,rfl,rfl⟩:=trodAll_nil h;exact⟨rfl,(),rfl,trivial⟩
 | [],_::_,_,_,_,_,I,_,_=>I.elim
 | _::_,[],_,_,_,_,I,_,_=>I.elim
 | t::U,.v s f::ps,vs,ds,pl,i,I,h,J=>by
  obtain⟨⟨ti,ht,rfl,hp⟩,rfl,I⟩:=I;obtain⟨v,vs',d,ds',p,q,rfl,rfl,rfl,h1,h2⟩:=trodAll_cons h;obtain⟨y,h3,h4⟩:=QuL hT ht hp (J 0 t v rfl rfl) h1 i;obtain⟨hl,xs,h5,h6⟩:=Qqe hT U ps vs' ds' q (i+1) I h2 (fun j t v ht hv=>J (j+1) t v (by simpa using ht) (by simpa using hv))
  exact⟨by simp[hl],(y,xs),⟨h3,h5⟩,h4,h6⟩
 | _::_,.rp _ _::_,_,_,_,_,I,_,_=>I.elim
 | _::_,.io .. :: _,_,_,_,_,I,_,_=>I.elim
 | _::_,.mu .. :: _,_,_,_,_,I,_,_=>I.elim
theorem Qoh (hl:laidOutB P=true) {W W':World} {J:Nat->Bool}:∀(U:List TypeId) (vs:List Value) (ds:List (DataW H)) (pl:List MemPlace),(∀t,t ∈ U->P.readableRec t=true/\t<P.types.size)->DataW.TrodAll enc P W 0 (fun _=>true) true U vs ds pl->
  (∀p,p ∈ pl->W.sameAt W' p)->(∀p,p ∈ pl->J p.block=true)->DataW.TrodAll enc P W' 0 J true U vs ds pl
 | [],vs,ds,pl,_,h,_,_=>by
  obtain⟨rfl,rfl,rfl⟩:=trodAll_nil h;rfl
 | t::U,vs,ds,pl,hr,h,hs,hsp=>by
  obtain⟨v,vs',d,ds',p,q,rfl,rfl,rfl,h1,h2⟩:=trodAll_cons h;obtain⟨h3,h4⟩:=hr t (by simp)
  exact⟨p,q,WideElems.Trod_stays hl h3 h4 h1 (fun x I=>hs x (by simp[I])) (fun x I=>hsp x (by simp[I])),Qoh hl U vs' ds' q (fun t ht=>hr t (by simp[ht])) h2 (fun x I=>hs x (by simp[I])) (fun x I=>hsp x (by simp[I])),rfl⟩
theorem QoS {f:Func} {s:ChangeSpec} {apart fresh handsOn again:Bool} {W W':World} {args:Array Value} {v:Value} {ds:List (DataW H)} {before:List MemPlace} (hvs:s.vars=[]) (hl:laidOutB P=true)
  (hr:∀t,t ∈ f.params.toList->P.readableRec t=true/\t<P.types.size)
  (hW:DataW.Whole enc P f.params.toList s.vars apart W args.toList ds [] before) (hb:Below W.heap.size W W') {rs:List (DataW H)} (hspec:s.fn H ds = { results:=rs,args:=ds })
  (U:∀(b:Nat) (sp:Nat->Bool) (hd:Bool),DataW.TrodAll enc P W' b sp hd f.resultTypes.toList (v.resultList f.resultTypes.size) rs [])
  (hok:∀(j:Nat) (t:TypeId) (r:Value),f.resultTypes[j]? = some t->(v.resultList f.resultTypes.size)[j]? = some r->Value.okWide P W' .any 0 t r) :
  s.post enc P f apart fresh handsOn again W args v W':=by
 have hlt:∀p ∈ before,p.block<W.heap.size:=fun p hp=>by simpa using hW.lt p hp
 have hold:∀p ∈ before,(fun b=>decide (b<W.heap.size)) p.block=true:=fun p hp=>by simpa using hW.lt p hp
 obtain⟨p,q,hA,hV,rfl,hz,hn⟩:=id hW;have hV':DataW.TrodVars enc P W (fun _=>true) [] [] q:=by rw[hvs] at hV;exact hV
 obtain rfl:q=[]:=hV';have I:∀sp:Nat->Bool,(∀x ∈ p++[],sp x.block=true)->DataW.TrodAll enc P W' 0 sp true f.params.toList args.toList ds p:=fun sp hsp=>
  Qoh hl _ _ _ _ hr hA (fun x hx=>hb.same (hlt x (by simp[hx]))) (fun x hx=>hsp x (by simp[hx]))
 have hfn:s.fn H (ds++[]) = { results:=rs,args:=ds }:=by rw[List.append_nil];exact hspec
 have J:∀sp:Nat->Bool,DataW.TrodVars enc P W' sp s.vars [] []:=fun sp=>by rw[hvs];exact rfl
 refine⟨ds,[],p++[],[],p,[],hW,by rw[hfn];exact U _ _ _,by rw[hfn];exact I _ hold,by rw[hfn];exact J _,hb.frame _,fun _=>?_⟩
 refine⟨hok,_,_,([]++p)++[],⟨[]++p,[],trodAll_append (I _ (fun _ _=>rfl)) (U _ _ _),J _,rfl,?_,?_⟩,?_⟩
 ·intro b off hp
  have hlo:b<W.heap.size:=hlt (.cell b off) (by simpa using hp)
  rw[hb.frozen hlo];exact hz b off (by simpa using hp)
 ·simp_all
 simp_all
theorem QgH (hT:QR P C) {j:FuncId} {fn:Func} {K:Callee} {W:World} (hK:Contract P W j K) (hps:PsOf C fn.params.toList K.ins) (U:fn.resultTypes = #[4]) (J:P.underlying 4=some .bool)
  {s:ChangeSpec} {apart fresh handsOn again:Bool} (hvs:s.vars=[]) (hl:laidOutB P=true) (hr:∀t,t ∈ fn.params.toList->P.readableRec t=true/\t<P.types.size)
  (hspec:∀ds:List (DataW H),ds.length=fn.params.toList.length->s.fn H ds = { results:=[.lit (.bool true)],args:=ds })
  {base:Nat} {args:Array Value} {ds gs:List (DataW H)} {before:List MemPlace} (hval:∀(j:Nat) t v,fn.params[j]? = some t->args[j]? = some v->Value.okWide P W .any base t v)
  (hW:DataW.Whole enc P fn.params.toList s.vars apart W args.toList ds gs before)
  (hF:∀xs,BndI K.ins xs->∃ys,K.F xs=some ys/\K.outs=[(.bool,.z)]/\(scat _ ys).take K.outs.length=[⟨.bool,true⟩]) :
  Calls P j args W fun e W'=>∃v,e=.returned v/\s.post enc P fn apart fresh handsOn again W args v W':=by
 obtain⟨p,q,hA,hV,hb,hz,hn⟩:=id hW;have hV':DataW.TrodVars enc P W (fun _=>true) [] gs q:=by rw[hvs] at hV;exact hV
 have hgs:gs=[]:=by cases gs with | nil=>rfl | cons g gs=>exact hV'.elim
 subst hgs;obtain⟨hlen,xs,hpar,hbnd⟩:=Qqe hT fn.params.toList K.ins args.toList ds p 0 hps hA (fun j t v ht hv=>hval j t v (by simpa using ht) (by simpa using hv))
 obtain⟨ys,hys,houts,hy⟩:=hF xs hbnd;have hc:=hK.2 W (QhR W) args.toList xs ys (fun i hi=>by
  rcases aMg i W.heap.size with h | h
  ·grind
  ·exact absurd (by simp[QhR,Nat.not_lt.2 h]) hi) (fun i hi=>⟨by simp[QhR,hi],rfl⟩) hpar hys
 refine hc.mono fun e W' ⟨vr,ow',he,I⟩=>⟨vr,he,?_⟩
 have hbel:Below W.heap.size W W':=⟨I.st.os,I.st.tape,I.st.output,I.st.size,fun k hk=>(I.frame k hk (.inr (by simp[QhR,hk]))).1⟩
 have hvr:vr=.bool true:=by
  have h1:=I.res
  rw[hy] at h1;rw[houts] at h1;obtain⟨_,h2⟩:=h1;have h3:Qg vr 0=some (.bool true):=h2.2 (by simp)
  have h4:vr.cells = #[vr]:=h2.1
  simp[Qg] at h3
  simp_all
 subst hvr;refine QoS hvs hl hr hW hbel (hspec ds hlen) (fun b sp hd=>?_) (ok_one U rfl (okWide_bool_mk J _))
 rw[U];exact trodAll_mk1 (shut_bool J _)
end Go.Dx
namespace Go.Dx
abbrev Tb:=List (FuncId×Callee)
structure Hi where
 frz:List (Nat×Nat):=[]
 lps:List (Nat×(Lay×Scope)):=[]
 jns:List (Nat×Scope):=[]
 rjs:List (Nat×Lay):=[]
 erl:List (Nat×List Nat):=[]
def fl (d:Bool) (T:Tb):Tb:=T.filter fun q=>!d || q.2.dm
def mkX (tys:List (TypeId×TI)) (np:List (FuncId×NewP)) (T:Tb) (d:Bool) (H:Hi):Ctx:=⟨tys,fl d T,H.frz,H.lps,H.jns,H.rjs,H.erl,np⟩
abbrev EQ (X:Ctx) (f:Func) (K:Callee):Prop:=∀t:TupI (K.ins.map PS.sh),runF X f K t=K.F t
def entB (f:Func):Bool:=f.body.isSome&&!(f.name == "runtime.NumGoroutine")
theorem QkN {f:Func} (h:entB f=true):f.body.isSome=true/\(f.name == "runtime.NumGoroutine")=false:=by
 simpa only [entB,aLg,Bool.not_eq_true'] using h
theorem ents {P:Program} {j:FuncId} {fn:Func} (I:P.funcs[j]? = some fn) (h:entB fn=true:=by kernel_rfl):Enters P j:=⟨fn,I,(QkN h).1,(QkN h).2⟩
theorem FnsL.cons {P:Program} {W0:World} {T:Tb} {j:FuncId} {K:Callee} (h:Contract P W0 j K) (k:FnsL P W0 T):FnsL P W0 ((j,K)::T):=⟨h,k⟩
theorem FnsL.head {P:Program} {W0:World} {T:Tb} {j:FuncId} {K:Callee} (h:FnsL P W0 ((j,K)::T)):Contract P W0 j K:=h.1
theorem FnsL.fl {P:Program} {W0:World} {d:Bool}:∀{T:Tb},FnsL P W0 T->FnsL P W0 (fl d T)
 | [],_=>trivial
 | (j,K)::T,h=>by
  unfold Dx.fl;rw[List.filter_cons];split
  ·exact⟨h.1,FnsL.fl h.2⟩
  ·exact FnsL.fl h.2
theorem Qw1 {d:Bool} (T:Tb):(!d || (fl d T).all (fun q=>q.2.dm))=true:=by
 cases d with
 | false=>rfl
 | true=>simp[fl]
theorem stpT {P:Program} {H:World->Prop} {X0:Ctx} {np:List (FuncId×NewP)} (J:QR P X0) (U:∀W0,NpsL P W0 np) (hm:P.follows .mixedOrders=true) {T:Tb} {K:Callee} {j:FuncId} {fn:Func} (o:∀W0,H W0->FnsL P W0 T)
  (hf:P.funcs[j]? = some fn) (h:Hi) (he:EQ (mkX X0.tys np T K.dm h) fn K) (hb:entB fn=true):∀W0,H W0->FnsL P W0 ((j,K)::T):=fun W0 I=>
 .cons (QcZ (C:=mkX X0.tys np T K.dm h) (Qqj (C:=X0) rfl J) (QpE (o W0 I).fl (U W0) (Qw1 T)) hm hf (QkN hb).1 (QkN hb).2 fun t ys e=>(he t).trans e) (o W0 I)
theorem tyN {P:Program} {C:Ctx} {t:TypeId} {ti:TI} {i:TypeInfo} (h:P.info? t=some i) (u:(match ti.td with
  | .int k=>P.underlying t=some (.int k)/\ti.sh=.int k
  | .bool=>P.underlying t=some .bool/\ti.sh=.bool
  | .str=>P.underlying t=some .string/\ti.sh=.str
  | .slice e=>P.underlying t=some (.slice e)/\∃te,C.ty e=some te/\ti.sh=.list te.sh
  | _=>False)) (a:i.size=ti.sh.size/\i.bytes<=131072/\0<i.bytes/\i.zero=some (zeroV ti.sh):=by exact⟨rfl,by decide,by decide,rfl⟩):TyOk P C t ti:=by
 obtain⟨s,b,td⟩:=ti;refine⟨⟨i,h,a.1,a.2.1,a.2.2.1,?_⟩,?_⟩
 ·grind
 grind
def ks:List Nat->List (Nat×LK)->List (Nat×LK) | [],l=>l | i::k,l=>(i,.keep)::ks k l
def kI (i:Nat):Nat×LK:=(i,.st (.int .i64) .z false)
def kB (i:Nat):Nat×LK:=(i,.st .bool .z false)
def kS (i:Nat) (s:Sh):Nat×LK:=(i,.st s .z false)
abbrev vI:PS:=.v (.int .i64) .z
abbrev v0 (s:Sh):PS:=.v s .z
abbrev oI:Sh×Fl:=(.int .i64,.z)
abbrev oB:Sh×Fl:=(.bool,.z)
abbrev o0 (s:Sh):Sh×Fl:=(s,.z)
def u1 {a r:Type} (f:a->r) (t:a×Unit):r:=f t.1
def u2 {a b r:Type} (f:a->b->r) (t:a×b×Unit):r:=f t.1 t.2.1
def u3 {a b c r:Type} (f:a->b->c->r) (t:a×b×c×Unit):r:=f t.1 t.2.1 t.2.2.1
def u4 {a b c d r:Type} (f:a->b->c->d->r) (t:a×b×c×d×Unit):r:=f t.1 t.2.1 t.2.2.1 t.2.2.2.1
def u5 {a b c d e r:Type} (f:a->b->c->d->e->r) (t:a×b×c×d×e×Unit):r:=f t.1 t.2.1 t.2.2.1 t.2.2.2.1 t.2.2.2.2.1
end Go.Dx
namespace Go.Dx
theorem Qi8 {S X:Type} {f:S->Option (S⊕X)}:∀(n:Nat) {s:S} {x:X} (m:Nat),QbD f n s=some x->n<=m->QbD f m s=some x
 | 0,s,x,m,h,_=>by simp[QbD] at h
 | n+1,s,x,0,h,hm=>by omega
 | n+1,s,x,m+1,h,hm=>by
  unfold QbD at h ⊢;split at h
  ·cases h
  ·exact Qi8 n m h (by omega)
  ·exact h
theorem QlY {S X:Type} {f:S->Option (S⊕X)} {n:Nat} {s:S} {x:X} (h:QbD f n s=some x):Qc f s=some x:=by
 unfold Qc;have hex:∃n x,QbD f n s=some x:=⟨n,x,h⟩
 rw[dif_pos hex];have h2:=hex.choose_spec.choose_spec
 have a:=Qi8 _ (max n hex.choose) h (Nat.le_max_left _ _)
 have b:=Qi8 _ (max n hex.choose) h2 (Nat.le_max_right _ _)
 rw[a] at b;exact b.symm
theorem Qn1 {S X:Type} {f:S->Option (S⊕X)} {s:S} {x:X} (h:Qc f s=some x):∃n,QbD f n s=some x:=by
 unfold Qc at h;split at h
 ·rename_i hex
  have h2:=hex.choose_spec.choose_spec
  simp only[aLb] at h;exact⟨hex.choose,by rw[<-h];exact h2⟩
 ·cases h
theorem Qhr {S X:Type} {f:S->Option (S⊕X)} {s s':S} {x:X} (h:f s=some (.inl s')) (h2:Qc f s'=some x):Qc f s=some x:=by
 obtain⟨n,I⟩:=Qn1 h2;exact QlY (n:=n+1) (by unfold QbD;rw[h];exact I)
theorem Qe {S X:Type} {f:S->Option (S⊕X)} {s:S} {x:X} (h:f s=some (.inr x)):Qc f s=some x:=QlY (n:=1) (by unfold QbD;rw[h])
theorem Qy {n:Int} (h1:-9223372036854775808<=n) (h2:n<9223372036854775808):IntKind.wrap .i64 n=n:=by
 simp[IntKind.wrap,IntKind.signed,IntKind.bits];omega
theorem Qa {α:Type} (l:List α) (i:Nat) (d:α) (h:i<l.length):List.getD l (Int.toNat (i:Int)) d=l[i]:=by
 simp[aLk,aLf h]
theorem Qb {α:Type} (l:List α) (i:Nat) (h:i<l.length):inB (i:Int) l=true:=by
 simp[inB];omega
theorem Qwu {α:Type} (l:List α) (d:α) (f:List α×Int->Option ((List α×Int)⊕List α)) (J:∀(i:Nat) (acc:List α) (h:i<l.length),acc.length=l.length->f (acc,(i:Int))=some (.inl (acc.set i l[i],((i+1:Nat):Int))))
  (I:∀acc,f (acc,(l.length:Int))=some (.inr acc)):Qc f (List.replicate l.length d,0)=some l:=by
 have key:∀(k i:Nat) (acc:List α),i+k=l.length->acc.length=l.length->(∀j (h:j<l.length),j<i->acc[j]? = some l[j])->Qc f (acc,(i:Int))=some l:=by
  intro k;induction k with
  | zero=>
   intro i acc hi U hj;obtain rfl:i=l.length:=by omega
   have:acc=l:=List.ext_getElem U (fun j h1 h2=>by
    have:=hj j h2 h2
    rw[aLf h1] at this;simpa using this)
   rw[<-this] at I ⊢;exact Qe (I acc)
  | succ k ih=>
   intro i acc hi U hj;refine Qhr (J i acc (by omega) U) (ih (i+1) _ (by omega) (by simpa using U) fun j h1 h2=>?_)
   rw[List.getElem?_set];by_cases hij:i=j
   ·subst hij;simp[U];omega
   ·rw[if_neg hij];exact hj j h1 (by omega)
 exact key l.length 0 _ (by omega) (by simp) (fun j _ h=>by omega)
theorem YH {α:Type} [DecidableEq α] (l r:List α) (hl:l.length=r.length) (f:Int->Option (Int⊕(Unit⊕Bool)))
  (J:∀(i:Nat) (h:i<l.length) (h':i<r.length),f (i:Int)=if l[i]=r[i] then some (.inl ((i+1:Nat):Int)) else some (.inr (.inr false))) (U:f (l.length:Int)=some (.inr (.inl ()))) :
  (Qc f 0).bind (fun j=>Sum.elim (fun _=>some true) (fun b=>some b) j)=some (decide (l=r)):=by
 have key:∀(k i:Nat),i+k=l.length->Qc f (i:Int)=some (if l.drop i=r.drop i then .inl () else .inr false):=by
  intro k;induction k with
  | zero=>
   intro i hi;obtain rfl:i=l.length:=by omega
   rw[Qe U,aMr,hl,aMr,if_pos rfl]
  | succ k ih=>
   intro i hi;have h1:i<l.length:=by omega
   have h2:i<r.length:=by omega
   have hs:=J i h1 h2
   rw[aLr h1,aLr h2];by_cases he:l[i]=r[i]
   ·rw[if_pos he] at hs
    rw[Qhr hs (ih (i+1) (by omega)),he]
    by_cases I:List.drop (i+1) l=List.drop (i+1) r
    ·rw[if_pos I,if_pos (by rw[I])]
    ·rw[if_neg I,if_neg (fun h=>I (List.cons.inj h).2)]
   ·rw[if_neg he] at hs
    rw[Qe hs,if_neg (fun h=>he (List.cons.inj h).1)]
 have:=key l.length 0 (by omega)
 simp only[aMt] at this;rw[show ((0:Nat):Int)=0 from rfl] at this
 rw[this];by_cases h:l=r<;>simp[h]
def szr (t:Nat) (left:Int):Int:=if (t:Int)<=left then left - t else -1
theorem Qjw (a b:Nat) (left:Int) {k:Int->Option Int} (h0:0<=left) (hk:0<=szr a left->k (szr a left)=some (szr b (szr a left))):(bif decide (szr a left<0) then some (-1) else k (szr a left))=some (szr (a+b) left):=by
 by_cases h:(a:Int)<=left
 ·have e:szr a left=left - a:=by simp[szr,h]
  have I:¬szr a left<0:=by omega
  simp only[I,aMD,aLC];rw[hk (by omega),e]
  simp only[szr];congr 1;split<;>split<;>omega
 ·have e:szr a left = -1:=by simp[szr,h]
  simp only[e];have:szr (a+b) left = -1:=by simp only[szr];split<;>omega
  simp[this]
theorem Qfe (a:Nat) (left:Int) (h0:0<=left):(bif decide (szr a left<0) then some (-1) else some (szr a left))=some (szr a left):=by
 by_cases h:(a:Int)<=left
 ·have e:szr a left=left - a:=by simp[szr,h]
  have I:¬szr a left<0:=by omega
  simp[I]
 ·have e:szr a left = -1:=by simp[szr,h]
  simp[e]
theorem QfJ {a:Nat} {left:Int} (h:0<=szr a left):(a:Int)<=left/\szr a left=left - a:=by
 unfold szr at h ⊢;split at h<;>simp_all<;>omega
theorem QdG {n:Nat} {left:Int} {k:Int->Option Int} {b:Nat} (h0:0<=left) (h1:left<=1048576) (I:n<=9223372036854775807) (hk:(n:Int)<=left->k (left - n)=some (szr b (left - n))) :
  (bif decide (IntKind.wrap .i64 (left - (n:Int))<0) then some (-1) else k (IntKind.wrap .i64 (left - (n:Int))))=some (szr (n+b) left):=by
 rw[Qy (by omega) (by omega)]
 by_cases h:(n:Int)<=left
 ·have I:¬(left - (n:Int))<0:=by omega
  simp only[I,aMD,aLC];rw[hk h];simp only[szr];congr 1;split<;>split<;>omega
 ·have I:(left - (n:Int))<0:=by omega
  have:szr (n+b) left = -1:=by simp only[szr];split<;>omega
  simp[I,this]
theorem QkQ {α:Type} (l:List α) (m:α->Nat) (f:Int×Int->Option ((Int×Int)⊕(Int⊕Int)))
  (I:∀(i:Nat) (left:Int) (h:i<l.length),0<=left->left<=1048576->f (left,(i:Int))=if (m l[i]:Int)<=left then some (.inl (left - m l[i],((i+1:Nat):Int))) else some (.inr (.inr (-1))))
  (J:∀left,f (left,(l.length:Int))=some (.inr (.inl left))) (left:Int) (h0:0<=left) (h1:left<=1048576) :
  (Qc f (left,0)).bind (fun j=>Sum.elim (fun a=>some a) (fun b=>some b) j)=some (szr (l.map m).sum left):=by
 have key:∀(k i:Nat) (left:Int),i+k=l.length->0<=left->left<=1048576->(Qc f (left,(i:Int))).bind (fun j=>Sum.elim (fun a=>some a) (fun b=>some b) j)=some (szr ((l.drop i).map m).sum left):=by
  intro k;induction k with
  | zero=>
   intro i left hi h0 h1;obtain rfl:i=l.length:=by omega
   rw[Qe (J left),aMr];simp[szr,h0]
  | succ k ih=>
   intro i left hi h0 h1;have U:i<l.length:=by omega
   have hs:=I i left U h0 h1
   rw[aLr U,aMJ,List.sum_cons];by_cases he:(m l[i]:Int)<=left
   ·rw[if_pos he] at hs
    have hr:=ih (i+1) (left - m l[i]) (by omega) (by omega) (by omega)
    cases hx:Qc f (left - (m l[i]:Int),((i+1:Nat):Int)) with
    | none=>rw[hx] at hr;cases hr
    | some y=>
     rw[hx] at hr;rw[Qhr hs hx];refine hr.trans ?_;simp only[szr];congr 1;split<;>split<;>omega
   ·rw[if_neg he] at hs
    rw[Qe hs];have:szr (m l[i]+((l.drop (i+1)).map m).sum) left = -1:=by simp only[szr];split<;>omega
    rw[this];rfl
 have:=key l.length 0 left (by omega) h0 h1
 simpa using this
end Go.Dx
namespace Go.Dx
theorem Qo {S X:Type} {f:S->Option (S⊕X)} {s s':S} (h:f s=some (.inl s')):Qc f s=Qc f s':=by
 cases J:Qc f s' with
 | some x=>exact Qhr h J
 | none=>
  cases U:Qc f s with
  | none=>rfl
  | some x=>
   obtain⟨n,I⟩:=Qn1 U;cases n with
   | zero=>simp[QbD] at I
   | succ n=>
    unfold QbD at I;rw[h] at I;rw[QlY I] at J;cases J
def BIG:Nat:=4611686018427387904
theorem dlt {i n:Nat} (h:i<n):decide ((i:Int)<(n:Int))=true:=by simpa using h
theorem dge (n:Nat):decide ((n:Int)<(n:Int))=false:=by simp
theorem wsucc {i n:Nat} (h:i<n) (hb:n<BIG):IntKind.wrap .i64 ((i:Int)+1)=((i+1:Nat):Int):=by
 rw[Qy (by omega) (by unfold BIG at hb;omega)];rfl
theorem wpred {i n:Nat} (h:i<n) (hb:n<BIG):IntKind.wrap .i64 ((i+1:Nat) - 1:Int)=(i:Int):=by
 rw[Qy (by omega) (by unfold BIG at hb;omega)];omega
theorem ZI {α:Type} (l:List α) (i:Nat) (h:i<=l.length):QA 0 (i:Int) l=true:=by
 simp[QA];omega
theorem Jq {α:Type} (l:List α) (i:Nat):cut 0 (i:Int) l=l.take i:=by
 simp[cut]
def first {α β:Type} (g:Nat->α->Option β):Nat->List α->Option β
 | _,[]=>none
 | i,a::l=>match g i a with | some r=>some r | none=>first g (i+1) l
theorem JA {α β:Type} (l:List α) (g:Nat->α->Option β) (f:Int->Option (Int⊕(Unit⊕β)))
  (I:∀(i:Nat) (h:i<l.length),f (i:Int)=some (match g i l[i] with | none=>.inl ((i+1:Nat):Int) | some r=>.inr (.inr r))) (he:f (l.length:Int)=some (.inr (.inl ()))) :
  Qc f 0=some (match first g 0 l with | none=>.inl () | some r=>.inr r):=by
 have key:∀(k i:Nat),i+k=l.length->Qc f (i:Int)=some (match first g i (l.drop i) with | none=>.inl () | some r=>.inr r):=by
  intro k;induction k with
  | zero=>
   intro i hi;obtain rfl:i=l.length:=by omega
   rw[Qe he,aMr];rfl
  | succ k U=>
   intro i hi;have h1:i<l.length:=by omega
   have I:=I i h1
   rw[aLr h1];simp only[first]
   cases J:g i l[i] with
   | none=>rw[J] at I;rw[Qo I,U (i+1) (by omega)]
   | some r=>rw[J] at I;rw[Qe I]
 have:=key l.length 0 (by omega)
 simpa using this
theorem Qei {α β:Type} {g:Nat->α->Option β}:∀(l:List α) (i:Nat),first g i l=none↔∀j a,l[j]? = some a->g (i+j) a=none
 | [],i=>by simp[first]
 | a::l,i=>by
  simp only[first]
  constructor
  ·intro h j b hb
   cases I:g i a with
   | some r=>rw[I] at h;cases h
   | none=>
    rw[I] at h;cases j with
    | zero=>simp only[aLt,aLb] at hb;subst hb;exact I
    | succ j=>rw[show i+(j+1)=i+1+j by omega];exact (Qei l (i+1)).1 h j b (by simpa using hb)
  ·intro h
   rw[show g i a=none from h 0 a (by simp)]
   exact (Qei l (i+1)).2 (fun j b hb=>by rw[show i+1+j=i+(j+1) by omega];exact h (j+1) b (by simpa using hb))
theorem Qfw {α β:Type} (p:α->Bool) (r:β):∀(l:List α) (i:Nat),first (fun _ a=>if p a then some r else none) i l=if l.any p then some r else none
 | [],_=>rfl
 | a::l,i=>by
  simp only[first,List.any_cons]
  by_cases I:p a=true
  ·simp[I]
  ·simp[I,Qfw p r l (i+1)]
def idxF {α:Type} (p:α->Bool) (l:List α):Int:=match first (fun i a=>if p a then some (i:Int) else none) 0 l with | some i=>i | none=>-1
theorem Qoa {α:Type} (p:α->Bool):∀(l:List α) (i:Nat),first (fun i a=>if p a then some (i:Int) else none) i l=(List.findIdx? p l).map (fun k=>((i+k:Nat):Int))
 | [],_=>by simp[first]
 | a::l,i=>by
  simp only[first,List.findIdx?_cons]
  by_cases I:p a=true
  ·simp[I]
  ·simp[I,Qoa p l (i+1)]
   cases List.findIdx? p l with
   | none=>rfl
   | some k=>simp;omega
theorem Qnb {α:Type} (p:α->Bool) (l:List α):idxF p l=match List.findIdx? p l with | some k=>(k:Int) | none=>-1:=by
 unfold idxF;rw[Qoa];cases List.findIdx? p l with
 | none=>rfl
 | some k=>simp
theorem Qfm {α:Type} (p:α->Bool) (l:List α):idxF p l<0↔l.any p=false:=by
 rw[Qnb];cases h:List.findIdx? p l with
 | none=>
  rw[List.findIdx?_eq_none_iff] at h;simp only[aMI];constructor
  ·intro _ x J;rw[h x J];simp
  ·intro _;decide
 | some k=>
  simp only;constructor
  ·intro h;omega
  ·intro I
   rw[List.findIdx?_eq_some_iff_getElem] at h;obtain⟨hk,U,_⟩:=h;rw[aMI] at I;exact absurd U (I _ (aLl hk))
theorem Zy {α:Type} (p:α->Bool) (l:List α):decide (0<=idxF p l)=l.any p:=by
 cases h:l.any p with
 | false=>have:=(Qfm p l).2 h;simp;omega
 | true=>
  have:¬idxF p l<0:=fun hh=>by rw[(Qfm p l).1 hh] at h;cases h
  simp;omega
theorem QtK {α:Type} (p:α->Bool) (l:List α):decide (idxF p l<0) = !l.any p:=by
 rw[<-Zy];by_cases h:idxF p l<0
 ·have h2:¬0<=idxF p l:=by omega
  simp[h,h2]
 ·have h2:0<=idxF p l:=by omega
  simp[h,h2]
theorem Qa6 {α:Type} {p:α->Bool} {l:List α} (h:l.any p=true):∃(k:Nat) (hk:k<l.length),idxF p l=(k:Int)/\p l[k]=true/\∀j (hj:j<k),p (l[j]'(by omega))=false:=by
 rw[Qnb];cases I:List.findIdx? p l with
 | none=>
  rw[List.findIdx?_eq_none_iff] at I;rw[List.any_eq_true] at h;obtain⟨x,hx,J⟩:=h;rw[I x hx] at J;cases J
 | some k=>
  rw[List.findIdx?_eq_some_iff_getElem] at I;obtain⟨hk,J,hj⟩:=I;exact⟨k,hk,rfl,J,fun j U=>by simpa using hj j U⟩
theorem Qaf {β γ:Type} (o:Option β) (A:Unit->Option γ) (B:β->Option γ) :
  ((some (match o with | none=>Sum.inl () | some r=>Sum.inr r):Option (Unit⊕β)).bind fun j=>Sum.elim A B j)=match o with | none=>A () | some r=>B r:=by
 cases o<;>rfl
theorem Yy {α:Type} (l:List α) (p:α->Bool) (f:Int->Option (Int⊕(Unit⊕Int)))
  (I:∀(i:Nat) (h:i<l.length),f (i:Int)=some (if p l[i] then .inr (.inr (i:Int)) else .inl ((i+1:Nat):Int))) (he:f (l.length:Int)=some (.inr (.inl ()))) :
  ((Qc f 0).bind fun j=>Sum.elim (fun _=>some (-1)) (fun j=>some j) j)=some (idxF p l):=by
 rw[JA l (fun i a=>if p a then some (i:Int) else none) f (fun i h=>by rw[I i h];cases p l[i]<;>rfl) he,Qaf]
 unfold idxF;cases first (fun i a=>if p a then some (i:Int) else none) 0 l<;>rfl
theorem QhC {α:Type} (l:List α) (p:α->Bool) (f:Int->Option (Int⊕(Unit⊕Bool)))
  (I:∀(i:Nat) (h:i<l.length),f (i:Int)=some (if p l[i] then .inr (.inr true) else .inl ((i+1:Nat):Int))) (he:f (l.length:Int)=some (.inr (.inl ()))) :
  ((Qc f 0).bind fun j=>Sum.elim (fun _=>some false) (fun j=>some j) j)=some (l.any p):=by
 rw[JA l (fun i a=>if p a then some true else none) f (fun i h=>by rw[I i h];cases p l[i]<;>rfl) he,Qaf,Qfw]
 cases l.any p<;>rfl
theorem Zx {α σ S X:Type} (l:List α) (g:σ->α->σ) (enc:σ->Int->S) (D:σ->X) (Ok:σ->Nat->Prop) (f:S->Option (S⊕X))
  (hs:∀(i:Nat) (h:i<l.length) (t:σ),Ok t i->f (enc t (i:Int))=some (.inl (enc (g t l[i]) ((i+1:Nat):Int)))/\Ok (g t l[i]) (i+1))
  (he:∀t,Ok t l.length->f (enc t (l.length:Int))=some (.inr (D t))) (t:σ) (h0:Ok t 0):Qc f (enc t 0)=some (D (l.foldl g t)):=by
 have key:∀(k i:Nat) (t:σ),i+k=l.length->Ok t i->Qc f (enc t (i:Int))=some (D ((l.drop i).foldl g t)):=by
  intro k;induction k with
  | zero=>
   intro i t hi I;obtain rfl:i=l.length:=by omega
   rw[Qe (he t I),aMr];rfl
  | succ k ih=>
   intro i t hi I;have h1:i<l.length:=by omega
   obtain⟨J,U⟩:=hs i h1 t I;rw[Qo J,aLr h1,List.foldl_cons];exact ih (i+1) _ (by omega) U
 have:=key l.length 0 t (by omega) h0
 simpa using this
theorem foldl_filter {α:Type} (p:α->Bool):∀(l acc:List α),l.foldl (fun acc a=>if p a then acc++[a] else acc) acc=acc++l.filter p
 | [],acc=>by simp
 | a::l,acc=>by
  rw[List.foldl_cons,foldl_filter p l];cases I:p a<;>simp[I]
theorem foldl_map {α β:Type} (q:α->β):∀(l:List α) (acc:List β),l.foldl (fun acc a=>acc++[q a]) acc=acc++l.map q
 | [],acc=>by simp
 | a::l,acc=>by rw[List.foldl_cons,foldl_map q l];simp
theorem QnE {α:Type} (acc:List α) (a:α) (n:Nat) (h:acc.length<=n) (I:n<LIM):decide (List.length acc+List.length [a]<=LIM)=true:=by
 simp;omega
def code {α:Type} (c:Nat->α->Int) (l:List α):Int:=match first (fun i a=>if c i a=0 then none else some (c i a)) 0 l with | none=>0 | some r=>r
theorem YD {α:Type} (l:List α) (c:Nat->α->Int) (f:Int->Option (Int⊕(Unit⊕Int)))
  (I:∀(i:Nat) (h:i<l.length),f (i:Int)=some (if c i l[i]=0 then .inl ((i+1:Nat):Int) else .inr (.inr (c i l[i])))) (he:f (l.length:Int)=some (.inr (.inl ()))) :
  ((Qc f 0).bind fun j=>Sum.elim (fun _=>some 0) (fun j=>some j) j)=some (code c l):=by
 rw[JA l (fun i a=>if c i a=0 then none else some (c i a)) f (fun i h=>by rw[I i h];by_cases J:c i l[i]=0<;>simp[J]) he,Qaf]
 unfold code;cases first (fun i a=>if c i a=0 then none else some (c i a)) 0 l<;>rfl
theorem QN {β:Type} (y:Int) (a b:β):(bif !decide (y=0) then a else b)=if y=0 then b else a:=by
 by_cases h:y=0<;>simp[h]
theorem YI {α:Type} {c:Nat->α->Int} {l:List α} (h:code c l=0):∀i a,l[i]? = some a->c i a=0:=by
 unfold code at h;cases J:first (fun i a=>if c i a=0 then none else some (c i a)) 0 l with
 | none=>
  intro i a U;have:=(Qei l 0).1 J i a U
  simp only[aMf] at this;by_cases I:c i a=0
  ·exact I
  ·rw[if_neg I] at this;cases this
 | some r=>
  rw[J] at h;simp only at h;subst h;exfalso;have key:∀(l:List α) (i:Nat),first (fun i a=>if c i a=0 then none else some (c i a)) i l ≠ some 0:=by
   intro l;induction l with
   | nil=>intro i h;cases h
   | cons a l ih=>
    intro i h;simp only[first] at h
    by_cases I:c i a=0
    ·rw[if_pos I] at h;exact ih (i+1) h
    ·rw[if_neg I] at h;simp only[aLb] at h;exact I h
  exact key l 0 J
theorem Qu2 {α:Type} {p:α->Bool} {l:List α} (h:0<=idxF p l):inB (idxF p l) l=true:=by
 have I:l.any p=true:=by rw[<-Zy];simpa using h
 obtain⟨k,hk,he,_⟩:=Qa6 I;rw[he];exact Qb l k hk
theorem QiP {α:Type} (p:α->Bool) (l:List α):idxF p l<0↔idxF p l = -1:=by
 rw[Qnb];cases List.findIdx? p l with
 | none=>simp
 | some k=>simp only;omega
theorem Qg1 (a b:Int×Int):Sh.beq (.prod (.int .i64) (.int .i64)) a b=decide (a=b):=by
 obtain⟨I,a2⟩:=a;obtain⟨J,U⟩:=b;simp only[Sh.beq];by_cases h1:I=J<;>by_cases h2:a2=U<;>simp[h1,h2]
end Go.Dx
namespace Go.Dx
def mkL {α:Type} (I:α->Nat) (mk:Int->α->α):Int->List α->List α
 | _,[]=>[]
 | k,a::l=>mk k a::mkL I mk (k+I a) l
def cntL {α:Type} (I:α->Nat) (l:List α):Nat:=(l.map I).sum
theorem JL {α:Type} (I:α->Nat) (a:α) (l:List α):cntL I (a::l)=I a+cntL I l:=by simp[cntL]
theorem Y8 {α:Type} (I:α->Nat) (mk:Int->α->α):∀(k:Int) (l:List α),(mkL I mk k l).length=l.length
 | _,[]=>rfl
 | k,a::l=>by simp[mkL,Y8 I mk _ l]
theorem Qhb {α:Type} (i:Int) (l:List α) (j:Nat) (a:α):inB i (List.set l j a)=inB i l:=by simp[inB]
theorem QaT {α:Type} (l:List α) (i:Nat) (a d:α) (h:i<l.length):List.getD (List.set l i a) i d=a:=by
 simp[aLk,h]
theorem getD_at {α:Type} (l:List α) (i:Nat) (d:α) (h:i<l.length):List.getD l i d=l[i]:=by simp[aLk,aLf h]
theorem Qdw {α:Type} (I:α->Nat) (mk:Int->α->α) (l:List α) (k:Int) (h0:0<=k) (hb:k+(cntL I l:Int)<(BIG:Int)) (f:List α×Int×Int->Option ((List α×Int×Int)⊕(List α×Int)))
  (U:∀(acc:List α) (i:Nat) (k:Int) (h:i<acc.length),acc.length=l.length->acc[i] ∈ l->0<=k->k+(I acc[i]:Int)<(BIG:Int)->f (acc,k,(i:Int))=some (.inl (acc.set i (mk k acc[i]),k+(I acc[i]:Int),((i+1:Nat):Int))))
  (he:∀(acc:List α) (k:Int),acc.length=l.length->f (acc,k,(l.length:Int))=some (.inr (acc,k))) :
  Qc f (l,k,0)=some (mkL I mk k l,k+(cntL I l:Int)):=by
 have key:∀(rest pre:List α) (k:Int),pre.length+rest.length=l.length->(∀a,a ∈ rest->a ∈ l)->0<=k->k+(cntL I rest:Int)<(BIG:Int)->Qc f (pre++rest,k,(pre.length:Int))=some (pre++mkL I mk k rest,k+(cntL I rest:Int)):=by
  intro rest;induction rest with
  | nil=>
   intro pre k J _ _ _;simp only[aLj,Nat.add_zero] at J;rw[J,Qe (he (pre++[]) k (by simpa using J))]
   simp[mkL,cntL]
  | cons a r ih=>
   intro pre k J hm h0 hb;rw[JL] at hb;have hi:pre.length<(pre++a::r).length:=by simp
   have ha:(pre++a::r)[pre.length]'hi=a:=by simp
   have U:=U (pre++a::r) pre.length k hi (by simpa using J) (by rw[ha];exact hm a (by simp)) h0 (by rw[ha];omega)
   rw[ha] at U;have hset:(pre++a::r).set pre.length (mk k a)=(pre++[mk k a])++r:=by simp
   rw[hset] at U;rw[Qo U];have:=ih (pre++[mk k a]) (k+(I a:Int)) (by simp at J ⊢;omega) (fun b hb=>hm b (by simp[hb])) (by omega) (by omega)
   simp only[aLi,aLh,aLj] at this;rw[this,JL];simp[mkL];omega
 have:=key l [] k (by simp) (fun _ h=>h) h0 hb
 simpa using this
theorem Qdr {α:Type} (I:α->Nat) (mk:Int->α->α) (l:List α) (k0:Int) (h0:0<=k0) (hb:k0+(cntL I l:Int)<(BIG:Int)) (f:Int×Int->Option ((Int×Int)⊕(Int⊕Int)))
  (hs:∀(i:Nat) (k:Int) (h:i<l.length) (J:i<(mkL I mk k0 l).length),0<=k->k+(I l[i]:Int)<(BIG:Int)->(mkL I mk k0 l)[i]=mk k l[i]->f (k,(i:Int))=some (.inl (k+(I l[i]:Int),((i+1:Nat):Int))))
  (he:∀(k:Int),f (k,(l.length:Int))=some (.inr (.inl k))) :
  ((Qc f (k0,0)).bind fun j=>Sum.elim (fun a=>some a) (fun b=>some b) j)=some (k0+(cntL I l:Int)):=by
 have key:∀(n i:Nat) (k:Int),i+n=l.length->0<=k->k+(cntL I (l.drop i):Int)<(BIG:Int)->(mkL I mk k0 l).drop i=mkL I mk k (l.drop i)->Qc f (k,(i:Int))=some (.inl (k+(cntL I (l.drop i):Int))):=by
  intro n;induction n with
  | zero=>
   intro i k hi _ _ _;obtain rfl:i=l.length:=by omega
   rw[Qe (he k),aMr];simp[cntL]
  | succ n ih=>
   intro i k hi h0 hb hd;have h:i<l.length:=by omega
   have J:i<(mkL I mk k0 l).length:=by rw[Y8];exact h
   rw[aLr h,JL] at hb;rw[aLr h,aLr J,mkL] at hd;have U:=(List.cons.inj hd).1
   have hd2:=(List.cons.inj hd).2
   rw[Qo (hs i k h J h0 (by omega) U),ih (i+1) _ (by omega) (by omega) (by omega) hd2,aLr h,JL]
   congr 2;simp;omega
 have:=key l.length 0 k0 (by omega) h0 (by simpa using hb) (by simp)
 rw[show ((0:Nat):Int)=0 from rfl] at this
 rw[this];simp
theorem Qm2 {α:Type} (I:α->Nat):∀(l:List α) (a:α),a ∈ l->I a<=cntL I l
 | x::l,a,h=>by
  rw[JL];rcases List.mem_cons.1 h with h | h
  ·subst h;omega
  ·have:=Qm2 I l a h;omega
theorem QfM {α:Type} (n:Nat):∀(l:List α),cntL (fun _=>n) l=n * l.length
 | []=>by simp[cntL]
 | a::l=>by rw[JL,QfM n l,aLh,Nat.mul_add];omega
end Go.Dx
namespace Go.Dx
def Qdd {α:Type} (g:α->α->Option Int) (a b:α):Bool:=match g a b with | some v=>decide (v<0) | none=>false
structure QiM {α:Type} (g:α->α->Option Int) (xs:List α):Prop where
 tot:∀a,a ∈ xs->∀b,b ∈ xs->∃v,g a b=some v
 irrefl:∀a,a ∈ xs->Qdd g a a=false
 trans:∀a,a ∈ xs->∀b,b ∈ xs->∀c,c ∈ xs->Qdd g a b=true->Qdd g b c=true->Qdd g a c=true
 ntrans:∀a,a ∈ xs->∀b,b ∈ xs->∀c,c ∈ xs->Qdd g a b=false->Qdd g b c=false->Qdd g a c=false
 anti:∀a,a ∈ xs->∀b,b ∈ xs->Qdd g a b=false->Qdd g b a=false->a=b
 len:xs.length<4611686018427387904
def Sorts {α:Type} (g:α->α->Option Int) (xs ys:List α):Prop:=ys.Perm xs/\ys.Pairwise (fun a b=>Qdd g b a=false)
open Classical in
noncomputable def QhY {α:Type} (xs:List α) (g:α->α->Option Int):Option (List α):=if h:QiM g xs/\∃ys,Sorts g xs ys then some h.2.choose else none
theorem QfI {α:Type} {r:α->α->Prop}:∀(xs ys:List α),xs.Perm ys->xs.Pairwise r->ys.Pairwise r->(∀a,a ∈ xs->∀b,b ∈ xs->r a b->r b a->a=b)->xs=ys
 | [],ys,h,_,_,_=>(List.nil_perm.1 h).symm ▸ rfl
 | a::xs,[],h,_,_,_=>absurd h.length_eq (by simp)
 | a::xs,b::ys,h,hx,hy,ha=>by
  have I:=List.pairwise_cons.1 hx
  have J:=List.pairwise_cons.1 hy
  have U:a=b:=by
   have h1:a ∈ b::ys:=h.mem_iff.1 aLm
   have h2:b ∈ a::xs:=h.mem_iff.2 aLm
   rcases List.mem_cons.1 h1 with h1 | h1
   ·exact h1
   ·rcases List.mem_cons.1 h2 with h2 | h2
    ·exact h2.symm
    ·exact ha a aLm b (aLp _ h2) (I.1 b h2) (J.1 a h1)
  subst U;rw[QfI xs ys (List.Perm.cons_inv h) I.2 J.2 (fun c hc d hd=>ha c (aLp _ hc) d (aLp _ hd))]
theorem Sorts.unique {α:Type} {g:α->α->Option Int} {xs ys J:List α} (h:QiM g xs) (I:Sorts g xs ys) (U:Sorts g xs J):ys=J:=
 QfI ys J (I.1.trans U.1.symm) I.2 U.2 (fun a ha b hb h1 h2=>h.anti a (I.1.mem_iff.1 ha) b (I.1.mem_iff.1 hb) h2 h1)
theorem Qux {α:Type} {g:α->α->Option Int} {xs ys:List α} (h:QiM g xs) (I:Sorts g xs ys):QhY xs g=some ys:=by
 have hh:QiM g xs/\∃ys,Sorts g xs ys:=⟨h,ys,I⟩
 unfold QhY;rw[dif_pos hh];exact congrArg some (Sorts.unique h hh.2.choose_spec I)
theorem Qsb {α:Type} {g:α->α->Option Int} {xs ys:List α} (h:QhY xs g=some ys):QiM g xs/\Sorts g xs ys:=by
 unfold QhY at h;split at h
 ·rename_i hh
  obtain rfl:=aMu h;exact⟨hh.1,hh.2.choose_spec⟩
 ·cases h
end Go.Dx
