/- A LIBRARY: an executor over the code of a program, proved sound: what its letters say of a function is so (contract_of); how a row is closed by it (law_calls) -/
import Derived.Tactics
import Derived.OrdersHeld
import Derived.Laws.Rows
import Derived.Laws.Sem
import Derived.Laws.Entries
import Derived.Laws.Strings
import Derived.Laws.StructEq
import Derived.Deep.MidRow
import Derived.Laws.MakeOwn
set_option linter.unusedVariables false
set_option linter.unusedSimpArgs false
namespace Go.Dx
theorem aLa:type_of% @Option.bind_eq_some_iff:=@Option.bind_eq_some_iff
theorem aLb:type_of% @Option.some.injEq:=@Option.some.injEq
theorem aLc:type_of% @Option.bind_some:=@Option.bind_some
theorem aLd:type_of% @Option.map_eq_some_iff:=@Option.map_eq_some_iff
theorem aLe:type_of% @Prod.mk.injEq:=@Prod.mk.injEq
theorem aLf:type_of% @List.getElem?_eq_getElem:=@List.getElem?_eq_getElem
theorem aLg:type_of% @Bool.and_eq_true:=@Bool.and_eq_true
theorem aLh:type_of% @List.length_cons:=@List.length_cons
theorem aLi:type_of% @List.length_append:=@List.length_append
theorem aLj:type_of% @List.length_nil:=@List.length_nil
theorem aLk:type_of% @List.getD_eq_getElem?_getD:=@List.getD_eq_getElem?_getD
theorem aLl:type_of% @List.getElem_mem:=@List.getElem_mem
theorem aLm:type_of% @List.mem_cons_self:=@List.mem_cons_self
theorem aLn:type_of% @List.length_take:=@List.length_take
theorem aLo:type_of% @List.append_eq:=@List.append_eq
theorem aLp:type_of% @List.mem_cons_of_mem:=@List.mem_cons_of_mem
theorem aLq:type_of% @Nat.mul_le_mul_right:=@Nat.mul_le_mul_right
theorem aLr:type_of% @List.drop_eq_getElem_cons:=@List.drop_eq_getElem_cons
theorem aLs:type_of% @List.mem_singleton:=@List.mem_singleton
theorem aLt:type_of% @List.getElem?_cons_zero:=@List.getElem?_cons_zero
theorem aLu:type_of% @List.getElem?_append_left:=@List.getElem?_append_left
theorem aLv:type_of% @List.getElem?_append_right:=@List.getElem?_append_right
theorem aLw:type_of% @Nat.eq_of_beq_eq_true:=@Nat.eq_of_beq_eq_true
theorem aLx:type_of% @List.nil_append:=@List.nil_append
theorem aLy:type_of% @List.getElem?_eq_some_iff:=@List.getElem?_eq_some_iff
theorem aLz:type_of% @List.length_drop:=@List.length_drop
theorem aLA:type_of% @Int.eq_ofNat_of_zero_le:=@Int.eq_ofNat_of_zero_le
theorem aLB:type_of% @cond_true:=@cond_true
theorem aLC:type_of% @cond_false:=@cond_false
theorem aLD:type_of% @decide_eq_false:=@decide_eq_false
theorem aLE:type_of% @decide_eq_true:=@decide_eq_true
theorem aLF:type_of% @decide_eq_true_eq:=@decide_eq_true_eq
theorem aLG:type_of% @of_decide_eq_true:=@of_decide_eq_true
theorem aLH:type_of% @of_decide_eq_false:=@of_decide_eq_false
theorem aMa:type_of% @Bool.not_true:=@Bool.not_true
theorem aMb:type_of% @Nat.le_refl:=@Nat.le_refl
theorem aMc:type_of% @decide_true:=@decide_true
theorem aMd:type_of% @Int.toNat_natCast:=@Int.toNat_natCast
theorem aMe:type_of% @List.mem_iff_getElem:=@List.mem_iff_getElem
theorem aMf:type_of% @Nat.zero_add:=@Nat.zero_add
theorem aMg:type_of% @Nat.lt_or_ge:=@Nat.lt_or_ge
theorem aMh:type_of% @Nat.add_assoc:=@Nat.add_assoc
theorem aMi:type_of% @List.mem_append:=@List.mem_append
theorem aMj:type_of% @List.length_singleton:=@List.length_singleton
theorem aMk:type_of% @List.eq_nil_of_length_eq_zero:=@List.eq_nil_of_length_eq_zero
theorem aMl:type_of% @List.take_succ_eq_append_getElem:=@List.take_succ_eq_append_getElem
theorem aMm:type_of% @List.append_assoc:=@List.append_assoc
theorem aMn:type_of% @Option.map_some:=@Option.map_some
theorem aMo:type_of% @Array.length_toList:=@Array.length_toList
theorem aMp:type_of% @Nat.lt_succ_self:=@Nat.lt_succ_self
theorem aMq:type_of% @Nat.add_mul:=@Nat.add_mul
theorem aMr:type_of% @List.drop_length:=@List.drop_length
theorem aMs:type_of% @List.cons_append:=@List.cons_append
theorem aMt:type_of% @List.drop_zero:=@List.drop_zero
theorem aMu:type_of% @Option.some.inj:=@Option.some.inj
theorem aMv:type_of% @List.mem_filter:=@List.mem_filter
theorem aMw:type_of% @List.getElem_take:=@List.getElem_take
theorem aMx:type_of% @List.take_of_length_le:=@List.take_of_length_le
theorem aMy:type_of% @Sigma.mk.injEq:=@Sigma.mk.injEq
theorem aMz:type_of% @Bool.true_and:=@Bool.true_and
theorem aMA:type_of% @Nat.eq_zero_or_pos:=@Nat.eq_zero_or_pos
theorem aMB:type_of% @Bool.not_false:=@Bool.not_false
theorem aMC:type_of% @Bool.or_eq_true:=@Bool.or_eq_true
theorem aMD:type_of% @decide_false:=@decide_false
theorem aME:type_of% @List.length_filter_le:=@List.length_filter_le
theorem aMF:type_of% @Nat.one_mul:=@Nat.one_mul
theorem aMG:type_of% @List.filter_eq_self:=@List.filter_eq_self
theorem aMH:type_of% @List.length_map:=@List.length_map
theorem aMI:type_of% @List.any_eq_false:=@List.any_eq_false
theorem aMJ:type_of% @List.map_cons:=@List.map_cons
inductive Fl where
 | z | x | o (f:Fl) | p (a b:Fl) | h (f:Fl) (i:Nat)
 deriving DecidableEq
inductive Sh where
 | int (k:IntKind) | bool | str | list (s:Sh) | prod (a b:Sh) | fn1 (a r:Sh) (rf:Fl) | fn2 (a b r:Sh)
 deriving DecidableEq
abbrev Sh.den:Sh->Type
 | .int _=>Int
 | .bool=>Bool
 | .str=>List UInt8
 | .list s=>List s.den
 | .prod a b=>a.den×b.den
 | .fn1 a r _=>a.den->Option r.den
 | .fn2 a b r=>a.den->b.den->Option r.den
def Sh.size:Sh->Nat
 | .prod a b=>a.size+b.size
 | _=>1
def Sh.dflt:(s:Sh)->s.den
 | .int _=>(0:Int)
 | .bool=>false
 | .str=>([]:List UInt8)
 | .list s=>([]:List s.den)
 | .prod a b=>(a.dflt,b.dflt)
 | .fn1 _ _ _=>fun _=>none
 | .fn2 _ _ _=>fun _ _=>none
def Fl.fst:Fl->Fl | .p a _=>a | .z=>.z | _=>.x
def Fl.snd:Fl->Fl | .p _ b=>b | .z=>.z | _=>.x
def Fl.el:Fl->Fl | .o f=>f | .z=>.z | _=>.x
def Fl.sb:Fl->Fl | .h _ _=>.x | f=>f
def Fl.elw:Fl->Fl | .h f _=>f | f=>f.el
def Fl.mk (a b:Fl):Fl:=match a,b with | .z,.z=>.z | a,b=>.p a b
def Fl.full:Sh->Fl
 | .list s=>.o (Fl.full s)
 | .prod a b=>Fl.mk (Fl.full a) (Fl.full b)
 | _=>.z
def Fl.isx:Fl->Bool | .x=>true | _=>false
def Fl.ish:Fl->Bool | .h _ _=>true | _=>false
def Fl.clean:Fl->Bool | .h _ _=>false | .o f=>f.clean | .p a b=>a.clean&&b.clean | _=>true
def Fl.islh:Fl->Bool | .z=>true | .o _=>true | .h _ _=>true | _=>false
def Fl.isl:Fl->Bool | .z=>true | .o _=>true | _=>false
def okS:Sh->Fl->Bool
 | .list s,f=>match f with | .z=>true | .o g=>okS s g | _=>false
 | .prod a b,f=>okS a f.fst&&okS b f.snd
 | _,f=>!f.isx
inductive Step where
 | fst | snd | idx (i:Int) | sub (lo hi:Int)
inductive Root where
 | s (i:Nat) | b (i:Nat)
 deriving DecidableEq
structure Dv where
 sh:Sh
 fl:Fl
 x:sh.den
def getP:(s:Sh)->Fl->s.den->List Step->Option Dv
 | s,f,x,[]=>some ⟨s,f,x⟩
 | .prod a _,f,x,.fst::r=>getP a f.fst x.1 r
 | .prod _ b,f,x,.snd::r=>getP b f.snd x.2 r
 | .list s,f,x,.idx i::r=>getP s f.el (List.getD x i.toNat s.dflt) r
 | .list s,f,x,.sub lo hi::r=>getP (.list s) f.sb ((List.drop lo.toNat x).take (hi - lo).toNat) r
 | _,_,_,_=>none
abbrev TupI:List Sh->Type
 | []=>Unit
 | a::l=>a.den×TupI l
abbrev TupO:List Sh->Type
 | []=>Unit
 | [a]=>a.den
 | a::b::l=>a.den×TupO (b::l)
abbrev SumT:List (List Sh)->Type
 | []=>Empty
 | [a]=>TupO a
 | a::b::l=>TupO a⊕SumT (b::l)
def scat:(l:List Sh)->TupO l->List ((s:Sh)×s.den)
 | [],_=>[]
 | [a],x=>[⟨a,x⟩]
 | a::b::l,x=>⟨a,x.1⟩::scat (b::l) x.2
def asS (d:(s:Sh)×s.den) (s:Sh):Option s.den:=if h:d.1=s then some (h ▸ d.2) else none
def gatO:(l:List Sh)->List ((s:Sh)×s.den)->Option (TupO l)
 | [],[]=>some ()
 | [a],[d]=>asS d a
 | a::b::l,d::I=>(asS d a).bind fun x=>(gatO (b::l) I).bind fun r=>some (x,r)
 | _,_=>none
def gatI:(l:List Sh)->List ((s:Sh)×s.den)->Option (TupI l)
 | [],[]=>some ()
 | a::l,d::I=>(asS d a).bind fun x=>(gatI l I).bind fun r=>some (x,r)
 | _,_=>none
inductive PS where
 | v (s:Sh) (f:Fl)
 | rp (s:Sh) (d:Bool)
 | io (s:Sh) (f f':Fl)
 | mu (s:Sh) (f f':Fl)
abbrev PS.sh:PS->Sh | .v s _=>s | .rp s _=>s | .io s _ _=>s | .mu s _ _=>s
abbrev QaO:List PS->List Sh
 | []=>[]
 | .io s _ _::l=>s::QaO l
 | .mu s _ _::l=>s::QaO l
 | _::l=>QaO l
structure Callee where
 ins:List PS
 outs:List (Sh×Fl)
 F:TupI (ins.map PS.sh)->Option (TupO (outs.map (·.1)++QaO ins))
 dm:Bool:=true
structure NewP where
 ins:List Sh
 out:Sh
 F:TupI ins->Option out.den
inductive TD where
 | int (k:IntKind) | bool | str | slice (e:TypeId) | ptr (e:TypeId) | struct (fs:List (Nat×TypeId)) | func | other
structure TI where
 sh:Sh
 bytes:Nat
 td:TD
inductive Ex where
 | normal | exit (i:Nat) | ret
 deriving DecidableEq
inductive LK where
 | st (s:Sh) (f:Fl) (h:Bool) | keep
structure Lay where
 sl:List (Nat×LK)
 bl:List (Nat×LK)
structure Scope where
 outs:List (Ex×Lay)
structure Ctx where
 tys:List (TypeId×TI)
 fns:List (FuncId×Callee)
 frz:List (Nat×Nat)
 lps:List (Nat×(Lay×Scope))
 jns:List (Nat×Scope)
 rjs:List (Nat×Lay)
 erl:List (Nat×List Nat):=[]
 nps:List (FuncId×NewP):=[]
def assoc {α:Type} (n:Nat):List (Nat×α)->Option α
 | []=>none
 | (m,a)::l=>bif Nat.beq m n then some a else assoc n l
def Ctx.ty (C:Ctx) (t:TypeId):Option TI:=assoc t C.tys
inductive Desc where
 | dead | nil | und
 | v (s:Sh) (f:Fl) (x:s.den)
 | bor (r:Root) (ver:Nat) (path:List Step)
 | loc (r:Root) (ver:Nat) (path:List Step)
 | rp (s:Sh) (x:s.den)
 | rpp (s:Sh) (x:s.den)
 | clos (j:FuncId) (caps:List Desc)
 | tup (l:List Dv)
structure Cel where
 ver:Nat
 d:Desc
 id:Nat
 hv:Nat
def Cel.dead:Cel:=⟨0,.dead,0,0⟩
structure Cs where
 length:Nat
 f:Nat->Cel
 out:∀i,length<=i->f i=Cel.dead
theorem Cs.ext' {l l':Cs} (h:l.length=l'.length) (k:∀i,l.f i=l'.f i):l=l':=by
 obtain⟨n,f,o⟩:=l;obtain⟨I,f',J⟩:=l';obtain rfl:n=I:=h;obtain rfl:f=f':=funext k;rfl
theorem Qmy {a b:Nat} (h:b<=a):Nat.blt a b=false:=by
 cases hb:Nat.blt a b with
 | false=>rfl
 | true=>rw[Nat.blt_eq] at hb;omega
def Cs.set (l:Cs) (i:Nat) (c:Cel):Cs:=⟨l.length,fun j=>bif Nat.beq j i&&Nat.blt i l.length then c else l.f j,fun j h=>by
 rw[l.out j h];cases hb:Nat.beq j i&&Nat.blt i l.length with
 | false=>rfl
 | true=>simp only[aLg,Nat.blt_eq] at hb;have:=aLw hb.1;omega⟩
theorem ZY (l:Cs) (i j:Nat) (c:Cel):(l.set i c).f j=if i=j/\i<l.length then c else l.f j:=by
 show (bif Nat.beq j i&&Nat.blt i l.length then c else l.f j)=_
 cases hb:Nat.beq j i&&Nat.blt i l.length with
 | true=>simp_all
 | false=>rw[if_neg];rfl;rintro ⟨rfl,h⟩;rw[show Nat.blt _ l.length=true by rw[Nat.blt_eq];exact h,Nat.beq_refl] at hb;cases hb
theorem Cs.set_ge {l:Cs} {i:Nat} {c:Cel} (h:l.length<=i):l.set i c=l:=Cs.ext' rfl fun j=>by rw[ZY,if_neg];omega
 @[simp] theorem Cs.length_set (l:Cs) (i:Nat) (c:Cel):(l.set i c).length=l.length:=rfl
def Cs.of (l:List Cel):Cs:=⟨l.length,fun i=>l.getD i Cel.dead,fun i h=>by simp[aLk,List.getElem?_eq_none h]⟩
structure Env where
 sl:Cs
 bl:Cs
def Env.s (e:Env) (i:Nat):Cel:=e.sl.f i
def Env.b (e:Env) (i:Nat):Cel:=e.bl.f i
def Env.root (e:Env):Root->Cel | .s i=>e.s i | .b i=>e.b i
def upd (l:Cs) (i:Nat) (d:Desc):Cs:=l.set i ⟨(l.f i).ver+1,d,(l.f i).id+1,(l.f i).hv+1⟩
def updV (l:Cs) (i:Nat) (d:Desc):Cs:=l.set i ⟨(l.f i).ver+1,d,(l.f i).id,(l.f i).hv+1⟩
def updD (l:Cs) (i:Nat) (d:Desc):Cs:=l.set i ⟨(l.f i).ver+1,d,(l.f i).id,(l.f i).hv⟩
def Env.setS (e:Env) (i:Nat) (d:Desc):Env:=⟨upd e.sl i d,e.bl⟩
def Env.setB (e:Env) (i:Nat) (d:Desc):Env:=⟨e.sl,upd e.bl i d⟩
def reflag (l:Cs) (i:Nat) (d:Desc):Cs:=l.set i ⟨(l.f i).ver,d,(l.f i).id,(l.f i).hv⟩
def Env.flag (e:Env) (r:Root) (d:Desc):Env:=match r with | .s i=>⟨reflag e.sl i d,e.bl⟩ | .b i=>⟨e.sl,reflag e.bl i d⟩
def Env.setR (e:Env) (r:Root) (d:Desc):Env:=match r with | .s i=>e.setS i d | .b i=>⟨e.sl,updV e.bl i d⟩
def Env.setD (e:Env) (r:Root) (d:Desc):Env:=match r with | .s i=>⟨updD e.sl i d,e.bl⟩ | .b i=>⟨e.sl,updD e.bl i d⟩
def Env.dst (e:Env) (o:Option Tmp) (d:Desc):Env:=match o with | some i=>e.setS i d | none=>e
def QK:List Step->Bool
 | []=>true
 | .fst::r=>QK r
 | .snd::r=>QK r
 | _=>false
def Cel.stamp (c:Cel) (p:List Step):Nat:=bif QK p then c.id else c.ver
def Cel.stampB (c:Cel) (p:List Step):Nat:=bif QK p then c.hv else c.ver
def Env.lookU (e:Env) (r:Root) (path:List Step):Option Dv:=match (e.root r).d with | .v s f x=>getP s f x path | _=>none
def Env.turn (e:Env) (r:Root) (h:Bool) (d:Desc):Env:=bif h then e.setR r d else e.setD r d
def Env.look (e:Env) (r:Root) (ver:Nat) (path:List Step):Option Dv:=
 let c:=e.root r
 bif Nat.beq (c.stampB path) ver then (match c.d with | .v s f x=>getP s f x path | _=>none) else none
def Env.lookL (e:Env) (r:Root) (n:Nat) (path:List Step):Option Dv:=
 let c:=e.root r
 bif Nat.beq (c.stamp path) n then (match c.d with | .v s f x=>getP s f x path | _=>none) else none
def setF:(s:Sh)->Fl->List Step->Fl->Option Fl
 | _,_,[],g=>some g
 | .prod a _,f,.fst::r,g=>(setF a f.fst r g).map fun I=>Fl.mk I f.snd
 | .prod _ b,f,.snd::r,g=>(setF b f.snd r g).map fun b'=>Fl.mk f.fst b'
 | .list _,.o f,[.idx i],.x=>some (.h f i.toNat)
 | _,_,_,_=>none
def Qq:Sh->Fl->Fl->Bool
 | .list s,f,g=>match f,g with
  | _,.x=>true
  | .z,.z=>true
  | .o f,.z=>okS s f
  | .o f,.o g=>Qq s f g
  | _,_=>false
 | .prod a b,f,g=>Qq a f.fst g.fst&&Qq b f.snd g.snd
 | _,f,g=>!f.isx || g.isx
def setP:(s:Sh)->Fl->s.den->List Step->Bool->Dv->Option (Fl×s.den)
 | s,f,_,[],inl,n=>(asS ⟨n.sh,n.x⟩ s).bind fun y=>bif inl then (bif decide (n.fl=f) then some (f,y) else none) else some (n.fl,y)
 | .prod a _,f,x,.fst::r,inl,n=>(setP a f.fst x.1 r inl n).map fun y=>(Fl.mk y.1 f.snd,(y.2,x.2))
 | .prod _ b,f,x,.snd::r,inl,n=>(setP b f.snd x.2 r inl n).map fun y=>(Fl.mk f.fst y.1,(x.1,y.2))
 | .list s,.o f,x,.idx i::r,_,n=>(setP s f (List.getD x i.toNat s.dflt) r true n).map fun y=>(.o f,List.set x i.toNat y.2)
 | .list s,.h f _,x,[.idx i],false,n=>(asS ⟨n.sh,n.x⟩ s).bind fun y=>bif decide (n.fl=f) then some (.o f,List.set x i.toNat y) else none
 | _,_,_,_,_,_=>none
def Qpl:(s:Sh)->Fl->List Step->Bool->Option Fl
 | _,f,[],inl=>bif inl then some f else none
 | .prod a _,f,.fst::r,inl=>Qpl a f.fst r inl
 | .prod _ b,f,.snd::r,inl=>Qpl b f.snd r inl
 | .list s,f,.idx _::r,_=>Qpl s f.elw r true
 | _,_,_,_=>none
def putP (s:Sh) (f:Fl) (x:s.den) (p:List Step) (n:Dv):Option (Fl×s.den):=
 match Qpl s f p false with
 | none=>setP s f x p false n
 | some g=>bif Qq n.sh n.fl g then setP s f x p false ⟨n.sh,g,n.x⟩ else none
def Qer:Sh->Fl->List Step->Option (Nat×Nat)
 | .prod a _,f,.fst::r=>Qer a f.fst r
 | .prod _ b,f,.snd::r=>Qer b f.snd r
 | .list _,.h _ i,.idx k::_=>some (i,k.toNat)
 | _,_,_=>none
def Qhx (S:Sh) (F:Fl) (p:List Step):Bool:=match Qer S F p with | some (i,k)=>decide (i=k) | none=>true
def LIM:Nat:=1073741824
def Fl.isz:Fl->Bool | .z=>true | _=>false
def Fl.meet:Fl->Fl->Fl
 | .o f,.o g=>.o (Fl.meet f g)
 | .p a b,.p c d=>Fl.mk (Fl.meet a c) (Fl.meet b d)
 | .x,_=>.x
 | _,.x=>.x
 | _,_=>.z
def QO:Sh->Fl->Bool
 | .list s,.o f=>QO s f
 | .list _,_=>false
 | .prod a b,f=>QO a f.fst&&QO b f.snd
 | .fn1 _ _ _,_=>false
 | .fn2 _ _ _,_=>false
 | _,_=>true
def Sh.flat:Sh->Bool
 | .int _=>true | .bool=>true | .str=>true
 | .prod a b=>a.flat&&b.flat
 | _=>false
def Sh.beq:(s:Sh)->s.den->s.den->Bool
 | .int _,x,y=>decide ((x:Int)=y)
 | .bool,x,y=>decide ((x:Bool)=y)
 | .str,x,y=>decide ((x:List UInt8)=y)
 | .prod a b,x,y=>a.beq x.1 y.1&&b.beq x.2 y.2
 | _,_,_=>false
def inB {α:Type} (i:Int) (l:List α):Bool:=decide (0<=i)&&decide (i<(l.length:Int))
def QiY:Value->Desc
 | .int k n=>.v (.int k) .z n
 | .bool b=>.v .bool .z b
 | .string s=>.v .str .z s.data.toList
 | .slice none 0 0=>.nil
 | _=>.dead
def Env.opd (e:Env):Operand->Desc
 | .tmp t=>(e.s t).d
 | .const v=>QiY v
 | .func f=>.clos f []
 | .global _=>.dead
def _root_.Go.Operand.slot:Operand->Option Nat | .tmp t=>some t | _=>none
def Env.val (e:Env):Desc->Option Dv
 | .v s f x=>some ⟨s,f,x⟩
 | .bor r ver p=>e.look r ver p
 | _=>none
def Env.rd (e:Env) (d:Desc):Option ((s:Sh)×s.den):=
 (e.val d).bind fun y=>bif okS y.sh y.fl then some ⟨y.sh,y.x⟩ else none
def Env.rdInt (e:Env) (d:Desc):Option (IntKind×Int):=
 match e.rd d with | some ⟨.int k,n⟩=>some (k,n) | _=>none
def Env.rdBool (e:Env) (d:Desc):Option Bool:=
 match e.rd d with | some ⟨.bool,b⟩=>some b | _=>none
def QjB:List Step->List Step
 | []=>[]
 | .sub _ _::_=>[]
 | s::r=>s::QjB r
def Env.take (e:Env) (t:Option Nat) (want:Sh):Desc->Option (Env×Dv)
 | .nil=>match want with | .list s=>some (e,⟨.list s,.o (Fl.full s),[]⟩) | _=>none
 | .v s f x=>bif f.isz then some (e,⟨s,f,x⟩) else match t with | some i=>some (e.setS i .dead,⟨s,f,x⟩) | none=>none
 | .bor r ver p=>(e.look r ver p).bind fun y=>bif y.fl.isz then some (e,y) else bif y.fl.isx then none else
   match (e.root r).d with
   | .v S F X=>(setF S F (QjB p) .x).map fun F'=>(e.flag r (.v S F' X),y)
   | _=>none
 | _=>none
def Env.freeze (e:Env) (r:Root) (p:List Step):Option Env:=
 match (e.root r).d with
 | .v S F X=>(getP S F X (QjB p)).bind fun y=>bif okS y.sh y.fl then (setF S F (QjB p) .z).map fun F'=>e.flag r (.v S F' X) else none
 | _=>none
def bare:Desc->Bool
 | .dead=>true | .und=>true | .loc ..=>true | .rp ..=>true | .rpp ..=>true | .clos ..=>true | .nil=>true | .bor ..=>true
 | .v _ f _=>f.isz
 | .tup _=>false
def Z7:Desc->Bool
 | .v _ f _=>f.isz
 | .loc _ _ _=>true
 | .rp _ _=>true
 | .rpp _ _=>true
 | _=>false
inductive Eff where
 | done (e:Env)
 | grd (c:Bool) (e:Env)
 | call (β:Type) (m:Option β) (f:β->Option Env)
def Qh4 (e:Env) (dst:Option Tmp) (y:Dv):Env:=e.dst dst (.v y.sh y.fl y.x)
def fstep:Nat->Bool->List Step
 | 0,true=>[]
 | 0,false=>[.fst]
 | n+1,l=>.snd::fstep n l
structure WB where
 r:Root
 p:List Step
 s:Sh
 f:Fl
 io:Bool
 mid:Dv
 rest:List Step
def noIo:List PS->Bool
 | []=>true
 | .io .. :: _=>false
 | .mu .. :: _=>false
 | _::l=>noIo l
def fstO (s:Sh):(l:List Sh)->TupO (s::l)->s.den
 | [],x=>x
 | _::_,x=>x.1
def capV (e:Env):PS->Desc->Option ((s:Sh)×s.den)
 | .v s .z,.v s' f x=>bif decide (s'=s)&&f.isz then some ⟨s',x⟩ else none
 | .rp s false,.rp s' x=>bif decide (s'=s) then some ⟨s',x⟩ else none
 | .rp s true,.rpp s' x=>bif decide (s'=s) then some ⟨s',x⟩ else none
 | .rp s false,.loc r ver p=>(e.lookL r ver p).bind fun y=>bif decide (y.sh=s)&&okS y.sh y.fl then some ⟨y.sh,y.x⟩ else none
 | _,_=>none
def capR:Desc->List Root | .loc r _ _=>[r] | _=>[]
def Qeg (e:Env):List PS->List Desc->Option (List ((s:Sh)×s.den))
 | [],[]=>some []
 | p::ps,d::I=>(capV e p d).bind fun x=>(Qeg e ps I).map fun l=>x::l
 | _,_=>none
def JY (C:Ctx) (e:Env) (j:FuncId) (caps:List Desc):(want:Sh)->Option want.den
 | .fn1 a r rf=>(assoc j C.fns).bind fun K=>match K with
   | ⟨.v I .z::cs,[(s',f')],F,true⟩=>bif noIo cs&&decide (I=a)&&decide (s'=r)&&Qq s' f' rf then
     (Qeg e cs caps).bind fun l=>(gatI (cs.map PS.sh) l).bind fun t=>
      some (fun x=>(asS ⟨a,x⟩ I).bind fun J=>(F (J,t)).bind fun y=>asS ⟨s',fstO s' (QaO cs) y⟩ r)
    else none
   | _=>none
 | .fn2 a b r=>(assoc j C.fns).bind fun K=>match K with
   | ⟨.v I .z :: .v b' .z::cs,[(s',f')],F,true⟩=>bif noIo cs&&decide (I=a)&&decide (b'=b)&&decide (s'=r)&&Qq s' f' .z then
     (Qeg e cs caps).bind fun l=>(gatI (cs.map PS.sh) l).bind fun t=>
      some (fun x y=>(asS ⟨a,x⟩ I).bind fun J=>(asS ⟨b,y⟩ b').bind fun U=>(F (J,U,t)).bind fun z=>asS ⟨s',fstO s' (QaO cs) z⟩ r)
    else none
   | _=>none
 | _=>none
def Env.out (e:Env) (r:Root) (o:Option Dv) (p:List Step):Option (Env×Dv):=
 bif QK p then o.bind fun y=>match (e.root r).d with
  | .v S F X=>(setF S F p .x).map fun F'=>(e.flag r (.v S F' X),y)
  | _=>none
 else none
def Qcw:List Step->List Step
 | .fst::r=>.fst::Qcw r
 | .snd::r=>.snd::Qcw r
 | _=>[]
def Qft:List Step->List Step
 | .fst::r=>Qft r
 | .snd::r=>Qft r
 | r=>r
def ownP:Sh->Fl->List Step->Bool
 | _,_,[]=>true
 | .prod a _,f,.fst::r=>ownP a f.fst r
 | .prod _ b,f,.snd::r=>ownP b f.snd r
 | .list s,.o f,.idx _::r=>ownP s f r
 | _,_,_=>false
def PK:Nat:=1000
def Env.outM (e:Env) (r:Root) (ver:Nat) (p:List Step):Option (Env×Dv×Dv):=
 (e.out r ((e.look r ver p).bind fun _=>e.lookU r (Qcw p)) (Qcw p)).bind fun (q:Env×Dv)=>bif ownP q.2.sh q.2.fl (Qft p) then (getP q.2.sh q.2.fl q.2.x (Qft p)).map fun y=>(q.1,q.2,y) else none
def argA (e:Env) (ps:PS) (o:Operand):Option (Env×Option ((s:Sh)×s.den)×List WB):=
 match ps,e.opd o with
 | .v s .z,.v s' f x=>bif decide (s'=s) then (bif f.isz then some (e,some ⟨s',x⟩,[]) else bif okS s' f then
   o.slot.map fun t=>(e.flag (.s t) (.v s' .z x),some ⟨s',x⟩,[]) else none) else none
 | .v _ .z,.tup _=>none
 | .v _ .z,_=>some (e,none,[])
 | .v s f,d=>(e.take o.slot s d).bind fun (q:Env×Dv)=>bif decide (q.2.sh=s)&&Qq q.2.sh q.2.fl f then some (q.1,some ⟨q.2.sh,q.2.x⟩,[]) else none
 | .rp _ _,_=>some (e,none,[])
 | .io s f f',.loc r ver p=>(e.out r (e.lookL r ver p) p).bind fun (q:Env×Dv)=>bif decide (q.2.sh=s)&&Qq q.2.sh q.2.fl f then some (q.1,some ⟨q.2.sh,q.2.x⟩,[⟨r,p,s,f',true,q.2,[]⟩]) else none
 | .io _ _ _,_=>none
 | .mu s f f',.bor r ver p=>(e.outM r ver p).bind fun (q:Env×Dv×Dv)=>bif decide (q.2.2.sh=s)&&Qq q.2.2.sh q.2.2.fl f then some (q.1,some ⟨q.2.2.sh,q.2.2.x⟩,[⟨r,Qcw p,s,f',false,q.2.1,Qft p⟩]) else none
 | .mu s f f',.v _ _ _=>o.slot.bind fun t=>(e.out (.s t) (e.look (.s t) (e.s t).hv []) []).bind fun (q:Env×Dv)=>bif decide (q.2.sh=s)&&Qq q.2.sh q.2.fl f then some (q.1,some ⟨q.2.sh,q.2.x⟩,[⟨.s t,[],s,f',false,q.2,[]⟩]) else none
 | .mu _ _ _,_=>none
def Qci (e:Env):List PS->List Operand->Option (Env×List (Option ((s:Sh)×s.den))×List WB)
 | [],[]=>some (e,[],[])
 | p::ps,o::os=>(argA e p o).bind fun (q:Env×Option ((s:Sh)×s.den)×List WB)=>(Qci q.1 ps os).map fun (u:Env×List (Option ((s:Sh)×s.den))×List WB)=>(u.1,q.2.1::u.2.1,q.2.2++u.2.2)
 | _,_=>none
def argB (C:Ctx) (e:Env) (ps:PS) (o:Operand):Option (((s:Sh)×s.den)×List Root):=
 match ps,e.opd o with
 | .v s .z,.nil=>match s with | .list s'=>some (⟨.list s',([]:List s'.den)⟩,[]) | _=>none
 | .v s .z,.clos j caps=>(JY C e j caps s).map fun f=>(⟨s,f⟩,caps.flatMap capR)
 | .v s .z,.bor r ver p=>(e.look r ver p).bind fun y=>bif decide (y.sh=s)&&okS y.sh y.fl then some (⟨y.sh,y.x⟩,bif y.fl.isz then [] else [r]) else none
 | .rp s false,.rp s' x=>bif decide (s'=s) then some (⟨s',x⟩,[]) else none
 | .rp s true,.rpp s' x=>bif decide (s'=s) then some (⟨s',x⟩,[]) else none
 | .rp s false,.loc r ver p=>(e.lookL r ver p).bind fun y=>bif decide (y.sh=s)&&okS y.sh y.fl then some (⟨y.sh,y.x⟩,[r]) else none
 | _,_=>none
def QgW (C:Ctx) (e:Env):List PS->List Operand->List (Option ((s:Sh)×s.den))->Option (List ((s:Sh)×s.den)×List Root)
 | [],[],[]=>some ([],[])
 | p::ps,o::os,x::xs=>(match x with | some x=>some (x,[]) | none=>argB C e p o).bind fun (q:((s:Sh)×s.den)×List Root)=>
   (QgW C e ps os xs).map fun (u:List ((s:Sh)×s.den)×List Root)=>(q.1::u.1,q.2++u.2)
 | _,_,_=>none
def Qkc (r:Root):List Root->Bool | []=>false | q::l=>decide (r=q) || Qkc r l
def QaR (I:List Root):List WB->Bool
 | []=>true
 | a::l=>!Qkc a.r I&&QaR (a.r::I) l
def WB.back (b:WB) (x:(s:Sh)×s.den):Option Dv:=(setP b.mid.sh b.mid.fl b.mid.x b.rest false ⟨x.1,b.f,x.2⟩).map fun z=>⟨b.mid.sh,z.1,z.2⟩
def JS (e:Env):List WB->List ((s:Sh)×s.den)->Option Env
 | [],[]=>some e
 | b::l,x::xs=>match (e.root b.r).d with
   | .v S F X=>bif decide (x.1=b.s) then (b.back x).bind fun n=>(setP S F X b.p false n).bind fun (y:Fl×S.den)=>JS (e.turn b.r b.io (.v S y.1 y.2)) l xs else none
   | _=>none
 | _,_=>none
def resultD (outs:List (Sh×Fl)) (xs:List ((s:Sh)×s.den)):Desc:=
 match outs,xs with
 | [(_,f)],x::_=>.v x.1 f x.2
 | outs,xs=>.tup ((outs.zip xs).map fun (q:(Sh×Fl)×((s:Sh)×s.den))=>⟨q.2.1,q.1.2,q.2.2⟩)
def results (e:Env) (dst:Option Tmp) (outs:List (Sh×Fl)) (xs:List ((s:Sh)×s.den)) (I:List WB):Option Env:=
 (JS e I (xs.drop outs.length)).map fun e=>e.dst dst (resultD outs (xs.take outs.length))
def Qim (C:Ctx) (e:Env) (dst:Option Tmp) (j:FuncId) (os:List Operand):Option Eff:=
 (assoc j C.fns).bind fun K=>(Qci e K.ins os).bind fun (p:Env×List (Option ((s:Sh)×s.den))×List WB)=>
 (QgW C p.1 K.ins os p.2.1).bind fun (q:List ((s:Sh)×s.den)×List Root)=>
 (gatI (K.ins.map PS.sh) q.1).bind fun t=>
 bif (q.2.isEmpty || (K.outs.all (fun o=>QO o.1 o.2)&&p.2.2.all (fun b=>QO b.s b.f)))&&QaR q.2 p.2.2&&Nat.ble (K.outs.length+K.ins.length) PK then
  some (.call _ (K.F t) (fun y=>results p.1 dst K.outs (scat _ y) p.2.2))
 else none
def QfS (e:Env) (dst:Option Tmp) (f:Desc) (os:List Operand):Option Eff:=
 match f,os with
 | .v (.fn1 a r rf) ff g,[o]=>bif ff.isx then none else (e.rd (e.opd o)).bind fun x=>(asS x a).bind fun x=>
   bif QO r rf then some (.call _ (g x) (fun y=>some (e.dst dst (.v r rf y)))) else none
 | .v (.fn2 a b r) ff g,[o,I]=>bif ff.isx then none else (e.rd (e.opd o)).bind fun x=>(asS x a).bind fun x=>(e.rd (e.opd I)).bind fun y=>(asS y b).bind fun y=>
   bif QO r .z then some (.call _ (g x y) (fun z=>some (e.dst dst (.v r .z z)))) else none
 | _,_=>none
def cmpI (op:BinOp) (a b:Int):Option Bool:=
 match op with
 | .eql=>some (decide (a=b)) | .neq=>some (!decide (a=b)) | .lss=>some (decide (a<b)) | .leq=>some (decide (a<=b))
 | .gtr=>some (decide (b<a)) | .geq=>some (decide (b<=a)) | _=>none
def Sh.rk:Sh->Nat | .prod a b=>a.rk+b.rk+1 | _=>1
def binE (C:Ctx) (t:TypeId) (e:Env) (dst:Option Tmp) (op:BinOp) (x y:Desc):Option Eff:=
 let I (b:Bool):Option Eff:=some (.done (e.dst dst (.v .bool .z b)))
 match e.rd x,e.rd y with
 | some ⟨.int k,a⟩,some ⟨.int k',b⟩=>
  if k=k' then
   let J (n:Int):Option Eff:=some (.done (e.dst dst (.v (.int k) .z n)))
   match op with
   | .add=>J (k.wrap (a+b)) | .sub=>J (k.wrap (a - b)) | .mul=>J (k.wrap (a * b))
   | .quo=>some (.grd (!decide (b=0)) (e.dst dst (.v (.int k) .z (k.wrap (a.tdiv b)))))
   | .rem=>some (.grd (!decide (b=0)) (e.dst dst (.v (.int k) .z (a.tmod b))))
   | .shr=>some (.grd (decide (0<=b)) (e.dst dst (.v (.int k) .z (a.fdiv (2 ^ (min b.toNat k.bits))))))
   | op=>(cmpI op a b).bind I
  else none
 | some ⟨.str,a⟩,some ⟨.str,b⟩=>
  match op with
  | .add=>some (.grd (decide (List.length a+List.length b<=LIM)) (e.dst dst (.v .str .z (List.append a b))))
  | .eql=>I (decide (a=b)) | .neq=>I (!decide (a=b))
  | _=>none
 | some ⟨s,a⟩,some ⟨s',b⟩=>
  (asS ⟨s',b⟩ s).bind fun b=>(C.ty t).bind fun ti=>bif s.flat&&decide (ti.sh=s)&&Nat.blt s.rk 1000 then
   match op with
   | .eql=>I (s.beq a b) | .neq=>I (!(s.beq a b)) | _=>none
  else none
 | _,_=>none
def QmU:Sh->Bool | .list _=>true | _=>false
def QY:Sh->Bool | .prod _ _=>true | _=>false
def getS:Sh->List Step->Option Sh
 | s,[]=>some s
 | .prod a _,.fst::r=>getS a r
 | .prod _ b,.snd::r=>getS b r
 | .list s,.idx _::r=>getS s r
 | .list s,.sub _ _::r=>getS (.list s) r
 | _,_=>none
def Desc.data:Desc->Bool | .v ..=>true | .bor ..=>true | _=>false
def Desc.isB:Desc->Bool | .bor ..=>true | _=>false
def Qjb (e:Env) (c:Bool) (a b:Desc):Option Desc:=
 bif a.data&&b.data then (match e.rd a,e.rd b with
  | some x,some y=>(asS y x.1).bind fun y=>bif x.1.flat then some (.v x.1 .z (cond c x.2 y)) else none
  | _,_=>none)
 else bif bare a&&bare b&&!a.isB&&!b.isB then some (cond c a b) else none
def Qdb {α:Type}:List (Nat×α)->Bool
 | []=>true
 | (i,_)::l=>(assoc i l).isNone&&Qdb l
def Yk (C:Ctx) (e:Env) (parts:List (Nat×Operand)):Nat->List (Nat×TypeId)->Option (Env×List Dv)
 | _,[]=>some (e,[])
 | i,(_,t)::fs=>(C.ty t).bind fun ti=>
  (match assoc i parts with
   | some o=>e.take o.slot ti.sh (e.opd o)
   | none=>some (e,⟨ti.sh,Fl.full ti.sh,ti.sh.dflt⟩)).bind fun (q:Env×Dv)=>
  (asS ⟨q.2.sh,q.2.x⟩ ti.sh).bind fun x=>(Yk C q.1 parts (i+1) fs).map fun (u:Env×List Dv)=>(u.1,⟨ti.sh,q.2.fl,x⟩::u.2)
def QiO:List Dv->Option Dv
 | []=>none
 | [a]=>some a
 | a::l=>(QiO l).map fun b=>⟨.prod a.sh b.sh,Fl.mk a.fl b.fl,(a.x,b.x)⟩
def Qey (e:Env) (s:Sh) (parts:List (Nat×Operand)):Nat->Nat->Option (Env×List (Fl×s.den))
 | _,0=>some (e,[])
 | i,n+1=>(match assoc i parts with
   | some o=>e.take o.slot s (e.opd o)
   | none=>some (e,⟨s,Fl.full s,s.dflt⟩)).bind fun (q:Env×Dv)=>
  (asS ⟨q.2.sh,q.2.x⟩ s).bind fun x=>(Qey q.1 s parts (i+1) n).map fun (u:Env×List (Fl×s.den))=>(u.1,(q.2.fl,x)::u.2)
def TD.zok:TD->Bool | .ptr _=>false | .func=>false | .other=>false | _=>true
def Qgb (C:Ctx) (e:Env) (dst:Option Tmp) (st U:TypeId) (I J:Operand):Option Eff:=
 (C.ty st).bind fun ti=>match ti.td,ti.sh with
 | .slice te,.list s=>(C.ty te).bind fun tj=>bif Nat.beq U st&&tj.td.zok then
   (e.take I.slot (.list s) (e.opd I)).bind fun (p:Env×Dv)=>(asS ⟨p.2.sh,p.2.x⟩ (.list s)).bind fun xs=>
   match p.2.fl with
   | .o f=>(match p.1.opd J with
     | .nil=>some (p.1,Fl.full s,([]:List s.den))
     | d=>(p.1.val d).bind fun u=>(asS ⟨u.sh,u.x⟩ (.list s)).bind fun ys=>match u.fl with
       | .z=>some (p.1,.z,ys)
       | .o .z=>some (p.1,.z,ys)
       | .o _=>(p.1.take J.slot (.list s) d).bind fun (q:Env×Dv)=>(asS ⟨q.2.sh,q.2.x⟩ (.list s)).bind fun zs=>match q.2.fl with
         | .o g=>some (q.1,g,zs)
         | _=>none
       | _=>none).bind fun (q:Env×Fl×List s.den)=>
      bif Qq s f (f.meet q.2.1)&&Qq s q.2.1 (f.meet q.2.1)&&okS s (f.meet q.2.1) then
       some (.grd (decide (List.length xs+List.length q.2.2<=LIM)) (q.1.dst dst (.v (.list s) (.o (f.meet q.2.1)) (List.append xs q.2.2))))
      else none
   | _=>none
  else none
 | _,_=>none
def Desc.tupOf:Desc->Option (List Dv) | .tup (a::l)=>some (a::l) | _=>none
inductive Fz where | no | fz | tk
def Desc.bxOf (frz:Fz):Desc->Option Desc | .rp s x=>some (.rpp s x) | .v s .z x=>(match frz with | .fz=>some (.rp s x) | _=>none) | _=>none
def clr {s:Sh} (l h:Int) (X:List s.den):List s.den:=List.append (List.take l.toNat X) (List.append (List.replicate (h - l).toNat s.dflt) (List.drop h.toNat X))
def Qhk (C:Ctx) (e:Env) (dst:Option Tmp) (st:TypeId) (x:Operand):Option Eff:=
 (C.ty st).bind fun ti=>match ti.td,ti.sh,e.opd x with
 | .slice te,.list s,.bor (.s t) ver [.sub l h]=>(C.ty te).bind fun I=>bif I.td.zok&&Nat.beq (e.s t).ver ver then
   match (e.s t).d with
   | .v S (.o f) X=>(asS ⟨S,X⟩ (.list s)).bind fun Y=>bif Qq s (Fl.full s) f&&okS s f then
     some (.done ((e.setD (.s t) (.v (.list s) (.o f) (clr l h Y))).dst dst .dead)) else none
   | _=>none
  else none
 | _,_,_=>none
def Qsc (C:Ctx) (e:Env) (dst:Option Tmp) (st t:TypeId) (x:Desc):Option Eff:=
 (C.ty st).bind fun I=>(C.ty t).bind fun ti=>(e.rd x).bind fun v=>bif decide (v.1=I.sh) then match ti.sh,v with
 | .int k,⟨.int _,n⟩=>some (.done (e.dst dst (.v (.int k) .z (k.wrap n))))
 | .str,⟨.str,l⟩=>some (.done (e.dst dst (.v .str .z l)))
 | .str,⟨.list (.int .u8),l⟩=>some (.done (e.dst dst (.v .str .z (List.map (fun (b:Int)=>UInt8.ofNat b.toNat) l))))
 | _,_=>none
 else none
def bound (e:Env) (dflt:Int):Option Operand->Option Int
 | some l=>(e.rdInt (e.opd l)).map Prod.snd
 | none=>some dflt
def cut {α:Type} (l h:Int) (xs:List α):List α:=(xs.drop l.toNat).take (h - l).toNat
def QA {α:Type} (l h:Int) (xs:List α):Bool:=decide (0<=l)&&decide (l<=h)&&decide (h<=(xs.length:Int))
def QqA (ti:TI) (e:Env) (dst:Option Tmp) (x:Operand) (lo hi:Option Operand):Option Eff:=
 (bound e 0 lo).bind fun l=>(e.val (e.opd x)).bind fun y=>match y with
  | ⟨.str,f,s⟩=>bif decide (ti.sh=.str)&&!f.isx then (bound e (List.length s:Int) hi).bind fun h=>some (.grd (QA l h (s:List UInt8)) (e.dst dst (.v .str .z (cut l h (s:List UInt8))))) else none
  | ⟨.list s,f,xs⟩=>bif decide (ti.sh=.list s)&&f.isl then (bound e (List.length xs:Int) hi).bind fun h=>
    (bif f.isz then some (Desc.v (.list s) .z (cut l h (xs:List s.den))) else
     match e.opd x with
     | .bor r ver p=>some (.bor r (e.root r).ver (p++[Step.sub l h]))
     | _=>x.slot.map fun t=>.bor (.s t) (e.s t).ver [Step.sub l h]).bind fun d=>
    some (.grd (QA l h (xs:List s.den)) (e.dst dst d)) else none
  | _=>none
def Q4 (e:Env) (frz:Fz) (t:Option Nat) (d:Desc):Option (Env×Desc):=
 match d with
 | .v s f x=>bif f.isz then some (e,d) else match t with
   | some i=>match frz with | .fz=>(bif okS s f then some (e.flag (.s i) (.v s .z x),.v s .z x) else none) | _=>some (e,.bor (.s i) (e.s i).hv [])
   | none=>none
 | .bor r ver p=>(e.look r ver p).bind fun y=>bif y.fl.isz then some (e,.v y.sh y.fl y.x) else
   match frz with | .fz=>(bif okS y.sh y.fl then (e.freeze r p).map fun e=>(e,.v y.sh .z y.x) else none) | _=>some (e,d)
 | d=>bif bare d then some (e,d) else none
def QjA (ti:TI) (e:Env) (frz:Fz) (r:Root) (ver:Nat) (p:List Step):Option (Env×Desc):=
 match (e.root r).d with
 | .v _ _ _=>(e.lookL r ver p).bind fun y=>bif decide (y.sh=ti.sh)&&okS y.sh y.fl then
   (match frz with | .tk=>(e.take none ti.sh (.bor r ((e.root r).stampB p) p)).bind fun q=>some (q.1,Desc.v q.2.sh q.2.fl q.2.x) | _=>Q4 e frz none (.bor r ((e.root r).stampB p) p)) else none
 | .dead=>none
 | d=>bif Nat.beq (e.root r).id ver&&bare d&&!QY ti.sh then (match p with | []=>some (e,d) | _=>none) else none
def valD (ti:TI) (e:Env) (x:Operand):Option (Env×Desc):=
 match e.opd x with
 | .loc r v p=>some (e,.loc r v p)
 | .rp s y=>some (e,.rp s y)
 | .clos j l=>some (e,.clos j l)
 | d=>(e.take x.slot ti.sh d).bind fun (q:Env×Dv)=>(asS ⟨q.2.sh,q.2.x⟩ ti.sh).bind fun v=>bif okS ti.sh q.2.fl then some (q.1,Desc.v ti.sh q.2.fl v) else none
def QkT:Operand->Operand->Bool | .tmp a,.tmp b=>Nat.beq a b | .const (.int k n),.const (.int k' I)=>decide (k=k')&&decide (n=I) | _,_=>false
def Qay (e:Env) (i:Nat) (d:Desc):Option Env:=
 bif Nat.blt i e.sl.length&&Nat.blt i e.bl.length then (let e:=e.setB i d;some (e.setS i (.loc (.b i) (e.b i).id []))) else none
def leave (e:Env) (x:Operand) (i:Nat) (d:Desc) (e1:Env):Env:=match x.slot,e.opd x,d with
 | some t,.v _ f _,.v _ _ _=>bif f.isz || Nat.beq t i then e1 else e1.setS t (.bor (.b i) (e1.b i).hv [])
 | _,_,_=>e1
def Env.placeSh (e:Env) (r:Root) (ver:Nat) (p:List Step):Option Sh:=
 bif Nat.beq ((e.root r).stamp p) ver then (match (e.root r).d with | .v S _ _=>getS S p | _=>none) else none
def rdZ (e:Env):List Sh->List Operand->Option (List ((s:Sh)×s.den))
 | [],[]=>some []
 | s::I,o::os=>match e.opd o with
  | .v s' f x=>bif decide (s'=s)&&f.isz then (rdZ e I os).map fun l=>⟨s',x⟩::l else none
  | _=>none
 | _,_=>none
def newE (e:Env) (dst:Option Tmp) (N:NewP) (os:List Operand):Option Eff:=
 dst.bind fun i=>(rdZ e N.ins os).bind fun l=>(gatI N.ins l).bind fun t=>
  bif Nat.blt i e.sl.length&&Nat.blt i e.bl.length then some (.call _ (N.F t) (fun y=>Qay e i (.v N.out .z y))) else none
def Qn (C:Ctx) (frz:Fz) (e:Env) (o:Oper):Option Eff:=
 let I (e:Env):Option Eff:=some (.done e)
 match o.op with
 | .move x=>match (e.opd x).tupOf,x.slot with
  | some l,some t=>I ((e.setS t .dead).dst o.dst (.tup l))
  | _,_=>(Q4 e frz x.slot (e.opd x)).bind fun (e,d)=>I (e.dst o.dst d)
 | .assign x=>match e.opd x with
   | .v s f v=>(e.take x.slot s (.v s f v)).bind fun (e,y)=>I (Qh4 e o.dst y)
   | .bor r ver p=>(e.take x.slot .bool (.bor r ver p)).bind fun (e,y)=>I (Qh4 e o.dst y)
   | .nil=>(C.ty o.type).bind fun ti=>(e.take none ti.sh .nil).bind fun (e,y)=>I (Qh4 e o.dst y)
   | d=>bif bare d then I (e.dst o.dst d) else none
 | .pick c a b=>(e.rdBool (e.opd c)).bind fun c=>(Qjb e c (e.opd a) (e.opd b)).bind fun d=>I (e.dst o.dst d)
 | .alloc t=>(C.ty t).bind fun ti=>o.dst.bind fun i=>bif ti.td.zok then (Qay e i (.v ti.sh (Fl.full ti.sh) ti.sh.dflt)).bind I else none
 | .box t x=>(C.ty t).bind fun ti=>o.dst.bind fun i=>match (e.opd x).bxOf frz with
   | some d=>I (e.setS i d)
   | none=>(valD ti e x).bind fun (q:Env×Desc)=>(Qay q.1 i q.2).bind fun e1=>I (leave e x i q.2 e1)
 | .build t ps=>(C.ty t).bind fun ti=>match ti.td with
   | .struct fs=>bif Qdb ps.toList&&ps.toList.all (fun p=>Nat.blt p.1 fs.length) then
     (Yk C e ps.toList 0 fs).bind fun (q:Env×List Dv)=>(QiO q.2).bind fun y=>I (Qh4 q.1 o.dst y) else none
   | _=>none
 | .buildSlice t n ps=>(C.ty t).bind fun ti=>match ti.td,ti.sh with
   | .slice te,.list s=>(C.ty te).bind fun J=>bif J.td.zok&&Qdb ps.toList&&ps.toList.all (fun p=>Nat.blt p.1 n)&&Nat.ble (n * s.size) 16777216 then
     (Qey e s ps.toList 0 n).bind fun (q:Env×List (Fl×s.den))=>
     let F:=q.2.foldr (fun u f=>Fl.meet u.1 f) (Fl.full s)
     bif q.2.all (fun u=>Qq s u.1 F) then I (q.1.dst o.dst (.v (.list s) (.o F) (q.2.map (·.2)))) else none else none
   | _,_=>none
 | .load t a=>(C.ty t).bind fun ti=>match e.opd a with
   | .loc r ver p=>(QjA ti e frz r ver p).bind fun (e,d)=>I (e.dst o.dst d)
   | .rp s x=>bif decide (s=ti.sh) then I (e.dst o.dst (.v s .z x)) else none
   | .rpp s x=>bif QY ti.sh then none else I (e.dst o.dst (.rp s x))
   | _=>none
 | .store t a x=>(C.ty t).bind fun ti=>(valD ti e x).bind fun (q:Env×Desc)=>match q.1.opd a,q.2 with
   | .loc r ver p,.v s f y=>bif Nat.beq ((q.1.root r).stamp p) ver then (match (q.1.root r).d with
     | .v S F X=>(putP S F X p ⟨s,f,y⟩).bind fun z=>match Qer S F p with
       | none=>I ((q.1.turn r (QK p) (.v S z.1 z.2)).dst o.dst .dead)
       | some u=>some (.grd (decide (u.1=u.2)) ((q.1.turn r (QK p) (.v S z.1 z.2)).dst o.dst .dead))
     | _=>none) else none
   | _,_=>none
 | .nilCheck x=>match e.opd x with
   | .loc r ver p=>I (e.dst o.dst (.loc r ver p))
   | .rp s y=>I (e.dst o.dst (.rp s y))
   | .rpp s y=>I (e.dst o.dst (.rpp s y))
   | _=>none
 | .binOp op t x y _=>binE C t e o.dst op (e.opd x) (e.opd y)
 | .unOp op _ x=>match op,e.rd (e.opd x) with
   | .not,some ⟨.bool,b⟩=>I (e.dst o.dst (.v .bool .z (!b)))
   | .neg,some ⟨.int k,n⟩=>I (e.dst o.dst (.v (.int k) .z (k.wrap (-n))))
   | _,_=>none
 | .convert s t x=>Qsc C e o.dst s t (e.opd x)
 | .makeFunc (.func j) U cs=>bif U.toList.isEmpty&&(cs.toList.map e.opd).all Z7 then I (e.dst o.dst (.clos j (cs.toList.map e.opd))) else none
 | .makeSlice t l c=>(C.ty t).bind fun ti=>match ti.td,ti.sh with
   | .slice te,.list s=>(C.ty te).bind fun J=>(e.rdInt (e.opd l)).bind fun (q:IntKind×Int)=>(e.rdInt (e.opd c)).bind fun (u:IntKind×Int)=>
     bif J.td.zok&&QkT l c then
      some (.grd (decide (0<=q.2)&&decide (q.2<=(LIM:Int))) (e.dst o.dst (.v (.list s) (.o (Fl.full s)) (List.replicate q.2.toNat s.dflt))))
     else none
   | _,_=>none
 | .slice t x lo hi none=>(C.ty t).bind fun ti=>QqA ti e o.dst x lo hi
 | .fieldAddr t x f=>(C.ty t).bind fun ti=>match ti.td with
   | .struct fs=>bif Nat.blt f fs.length then
     let st:=fstep f (Nat.beq (f+1) fs.length)
     (match e.opd x with
     | .loc r ver p=>(e.placeSh r ver p).bind fun s=>bif decide (s=ti.sh) then I (e.dst o.dst (.loc r ver (p++st))) else none
     | .rp s y=>bif decide (s=ti.sh) then (getP s .z y st).bind fun y=>I (e.dst o.dst (.rp y.sh y.x)) else none
     | _=>none)
    else none
   | _=>none
 | .field t x f=>(C.ty t).bind fun ti=>match ti.td with
   | .struct fs=>(e.val (e.opd x)).bind fun y=>bif Nat.blt f fs.length&&decide (y.sh=ti.sh)&&okS y.sh y.fl then
     let st:=fstep f (Nat.beq (f+1) fs.length)
     (getP y.sh y.fl y.x st).bind fun z=>bif z.fl.isz then I (Qh4 e o.dst z) else
      (match e.opd x with
      | .bor r ver p=>some (Desc.bor r ver (p++st))
      | _=>x.slot.map fun t=>.bor (.s t) (e.s t).hv st).bind fun d=>I (e.dst o.dst d)
    else none
   | _=>none
 | .indexAddr t x i=>(C.ty t).bind fun ti=>(e.rdInt (e.opd i)).bind fun (_,i)=>(e.val (e.opd x)).bind fun y=>match y with
   | ⟨.list s,f,xs⟩=>bif decide (ti.sh=.list s)&&f.islh then (bif f.isz then some (Desc.rp s (List.getD xs i.toNat s.dflt)) else
      match e.opd x with
      | .bor r ver p=>some (.loc r (e.root r).ver (p++[.idx i]))
      | _=>x.slot.map fun t=>.loc (.s t) (e.s t).ver [.idx i]).bind fun d=>
     some (.grd (inB i xs) (e.dst o.dst d)) else none
   | _=>none
 | .index t x i=>(C.ty t).bind fun ti=>(e.rdInt (e.opd i)).bind fun (_,i)=>match ti.sh,e.rd (e.opd x) with
   | .str,some ⟨.str,s⟩=>some (.grd (inB i (s:List UInt8)) (e.dst o.dst (.v (.int .u8) .z ((List.getD s i.toNat 0).toNat:Int))))
   | _,_=>none
 | .extract x i=>match e.opd x,x.slot with
   | .tup l,some t=>match l[i]? with
     | some y=>bif y.fl.isz then I (Qh4 e o.dst y) else I (Qh4 (e.setS t (.tup (l.set i ⟨y.sh,.x,y.x⟩))) o.dst y)
     | none=>none
   | _,_=>none
 | .call c=>match c.callee,c.args.toList with
   | .builtin .len,[x]=>(c.argTypes[0]?.bind C.ty).bind fun ti=>match e.opd x with
     | .nil=>bif QmU ti.sh then I (e.dst o.dst (.v (.int .i64) .z (0:Int))) else none
     | d=>(e.val d).bind fun y=>bif decide (y.sh=ti.sh)&&okS y.sh y.fl then match y with
       | ⟨.str,_,s⟩=>I (e.dst o.dst (.v (.int .i64) .z (List.length s:Int)))
       | ⟨.list _,_,xs⟩=>I (e.dst o.dst (.v (.int .i64) .z (List.length xs:Int)))
       | _=>none
      else none
   | .builtin .min,[x,y]=>(e.rdInt (e.opd x)).bind fun (k,a)=>(e.rdInt (e.opd y)).bind fun (k',b)=>
     if k=k' then I (e.dst o.dst (.v (.int k) .z (min a b))) else none
   | .builtin .clear,[x]=>c.argTypes[0]?.bind fun t0=>Qhk C e o.dst t0 x
   | .builtin .append,[s,x]=>c.argTypes[0]?.bind fun t0=>c.argTypes[1]?.bind fun t1=>Qgb C e o.dst t0 t1 s x
   | .value f,as=>match e.opd f with
     | .clos j []=>(match assoc j C.nps with
      | some N=>newE e o.dst N as
      | none=>Qim C e o.dst j as)
     | d=>QfS e o.dst d as
   | _,_=>none
 | _=>none
def runE {R:Type} (x:Option Eff) (k:Env->Option R):Option R:=
 match x with
 | none=>none
 | some (.done e)=>k e
 | some (.grd c e)=>bif c then k e else none
 | some (.call _ m f)=>m.bind fun y=>match f y with | none=>none | some e=>k e
def memP (a b:Nat):List (Nat×Nat)->Bool | []=>false | (x,y)::l=>(Nat.beq x a&&Nat.beq y b) || memP a b l
def modP (a b:Nat) (l:List (Nat×Nat)):Fz:=bif memP a b l then .fz else bif memP a (b+1000) l then .tk else .no
def Qfx (ops:List Oper) (j:Nat):Option Tmp:=(ops[j]?).bind (·.dst)
def Qme (e:Env) (g:Tmp):Option Bool:=match (e.s g).d with | .v .bool .z c=>some c | _=>none
def QiU (e:Env) (g:Tmp):Bool:=match (e.s g).d with | .und=>true | _=>false
def setG (e:Env) (g:Tmp) (b:Bool):Env:=e.flag (.s g) (.v .bool .z b)
noncomputable def agree {R:Type} (a b:Option R):Option R:=@ite _ (a=b) (Classical.propDecidable _) a none
def isNil:Operand->Bool | .const (.slice none 0 0)=>true | _=>false
def QsN (C:Ctx) (e:Env) (o:Oper):Option Bool:=match o.op with
 | .binOp .eql t x y _=>bif isNil y then (match C.ty t with
   | some ti=>(match e.rd (e.opd x) with
    | some ⟨.list s,l⟩=>bif decide (ti.sh=.list s) then some (List.isEmpty l) else none
    | _=>none)
   | none=>none) else none
 | _=>none
noncomputable def regK {R:Type} (C:Ctx) (id:Nat) (ops:List Oper):Nat->List Oper->Env->(Env->Option R)->Option R
 | _,[],e,k=>k e
 | i,o::l,e,k=>
  match o.guard with
  | none=>match QsN C e o with
   | some em=>
    let no:=regK C id ops (i+1) l (e.dst o.dst (.v .bool .z false)) k
    bif em then agree (regK C id ops (i+1) l (e.dst o.dst (.v .bool .z true)) k) no else no
   | none=>runE (Qn C (modP id i C.frz) e o) fun e=>regK C id ops (i+1) l e k
  | some (j,want)=>match Qfx ops j with
   | none=>none
   | some g=>bif QiU e g then regK C id ops (i+1) l (e.dst o.dst .und) k else match Qme e g with
    | none=>none
    | some c=>
     let yes:=runE (Qn C (modP id i C.frz) (setG e g want) o) fun e=>regK C id ops (i+1) l e k
     let no:=regK C id ops (i+1) l ((setG e g (!want)).dst o.dst .und) k
     bif want then bif c then yes else no else bif c then no else yes
structure Msk where
 s:List Nat
 b:List Nat
def memN (a:Nat):List Nat->Bool | []=>false | b::l=>Nat.beq a b || memN a l
def Msk.has (m:Msk):Root->Bool | .s i=>memN i m.s | .b i=>memN i m.b
def Qwx:Desc->List Root
 | .bor r _ _=>[r]
 | .loc r _ _=>[r]
 | .clos _ caps=>caps.flatMap capR
 | _=>[]
def Qpz:List Root->List Nat | []=>[] | .s i::l=>i::Qpz l | .b _::l=>Qpz l
def Qsk:List Root->List Nat | []=>[] | .b i::l=>i::Qsk l | .s _::l=>Qsk l
def Qg4:List Operand->List Nat | []=>[] | .tmp t::l=>t::Qg4 l | _::l=>Qg4 l
def QwW (e:Env):Op->Bool
 | .move x=>(match e.opd x with | .loc ..=>true | _=>false)
 | .nilCheck x=>(match e.opd x with | .loc ..=>true | _=>false)
 | _=>false
def touch (ops:List Oper) (e:Env) (o:Oper):Msk:=
 let I:=Qg4 o.op.operands.toList
 let rs:=bif QwW e o.op then [] else I.flatMap fun t=>Qwx (e.s t).d
 let J:=o.dst.toList
 let gs:=match o.guard with | none=>[] | some (j,_)=>(Qfx ops j).toList
 ⟨J++gs++I++Qpz rs,J++Qsk rs⟩
def forb:Cel:=⟨0,.tup [],0,0⟩
def Cs.restr (c:Cel) (m:List Nat) (l:Cs):Cs:=⟨l.length,fun i=>bif memN i m then l.f i else bif Nat.blt i l.length then c else Cel.dead,fun i h=>by
 rw[Qmy h,l.out i h];cases memN i m<;>rfl⟩
def QeB (c:Cel) (m:Msk) (e:Env):Env:=⟨e.sl.restr c m.s,e.bl.restr c m.b⟩
def QS (m:Msk) (e:Env):Env:=QeB forb m e
def QhA:Desc->Desc->Bool
 | .v _ f _,.v _ f' _=>f.clean&&decide (f=f')
 | _,_=>true
def chgC (c d:Cel):Bool:=!(Nat.beq c.ver d.ver&&QhA c.d d.d)
def chgE (T:Msk) (s s':Env):Msk:=⟨T.s.filter fun i=>chgC (s.s i) (s'.s i),T.b.filter fun i=>chgC (s.b i) (s'.b i)⟩
def Cs.mrg (m:List Nat) (l' l:Cs):Cs:=⟨l.length,fun i=>bif memN i m&&Nat.blt i l.length then l'.f i else l.f i,fun i h=>by
 rw[Qmy h,Bool.and_false,l.out i h];rfl⟩
def mrgE (m:Msk) (s' e:Env):Env:=⟨.mrg m.s s'.sl e.sl,.mrg m.b s'.bl e.bl⟩
def bitN (n j:Nat):Bool:=Nat.beq (Nat.land 1 (Nat.shiftRight n j)) 1
structure Tr where
 anc:Nat
 T:Msk
 W:Msk
def ZU (o:Oper):List Nat:=(o.after.toList.filter fun x=>Region.binds .any x).map (·.on)
def ancL (I:List Tr):List Nat->Nat
 | []=>0
 | d::l=>Nat.lor (Nat.lor (Nat.pow 2 d) (((I[d]?).map (·.anc)).getD 0)) (ancL I l)
def Qif (I:List Tr) (o:Oper):Nat:=ancL I (ZU o)
def Qdc:List Nat->Nat | []=>0 | i::l=>Nat.lor (Nat.pow 2 i) (Qdc l)
def Qjn (a b:Msk):Bool:=Nat.beq (Nat.land (Qdc a.s) (Qdc b.s)) 0&&Nat.beq (Nat.land (Qdc a.b) (Qdc b.b)) 0
def QcV (anc:Nat) (T W:Msk):Nat->List Tr->Bool
 | _,[]=>true
 | j,t::l=>(bitN anc j || (Qjn W t.T&&Qjn t.W T))&&QcV anc T W (j+1) l
def QbE (T:Msk) (e:Env) (o:Oper):Bool:=match o.dst with
 | none=>true
 | some d=>(T.has (.s d) || Nat.ble e.sl.length d)&&(T.has (.b d) || Nat.ble e.bl.length d)
def commit (ops:List Oper) (i:Nat) (o:Oper) (I:List Tr) (T:Msk) (e s':Env):Option (Tr×Env):=
 let W:=chgE T (QS T e) s'
 let anc:=Qif I o
 bif QbE T e o&&(ZU o).all (fun d=>Nat.blt d i)&&QcV anc T W 0 I then some (⟨anc,T,W⟩,mrgE W s' e) else none
def doD {R:Type} (C:Ctx) (id:Nat) (ops:List Oper) (i:Nat) (o:Oper) (I:List Tr) (e:Env) (k:Tr×Env->Option R):Option R:=
 let T:=touch ops e o
 runE (Qn C (modP id i C.frz) (QS T e) o) fun s'=>(commit ops i o I T e s').bind k
def undD {R:Type} (ops:List Oper) (i:Nat) (o:Oper) (I:List Tr) (e:Env) (k:Tr×Env->Option R):Option R:=
 let T:=touch ops e o
 (commit ops i o I T e ((QS T e).dst o.dst .und)).bind k
def regD {R:Type} (C:Ctx) (id:Nat) (ops:List Oper):Nat->List Oper->List Tr->Env->(Env->Option R)->Option R
 | _,[],_,e,k=>k e
 | i,o::l,I,e,k=>
  let next (q:Tr×Env):Option R:=regD C id ops (i+1) l (I++[q.1]) q.2 k
  match o.guard with
  | none=>doD C id ops i o I e next
  | some (j,want)=>match Qfx ops j with
   | none=>none
   | some g=>bif QiU e g then undD ops i o I e next else match Qme e g with
    | none=>none
    | some c=>
     let yes:=doD C id ops i o I (setG e g want) next
     let no:=undD ops i o I (setG e g (!want)) next
     bif want then bif c then yes else no else bif c then no else yes
structure KL where
 tx:Nat
 td:Nat
 r:Root
 id:Nat
 hv:Nat
 S:Sh
def Msk.emp:Msk:=⟨[],[]⟩
def isVS (S:Sh):Desc->Bool | .v S' _ _=>decide (S'=S) | _=>false
def Qev (o:Oper) (t:Nat):Bool:=match o.dst with | some d=>!(Nat.beq d t) | none=>true
def Qsl (W:Msk) (s':Env) (o:Oper) (q:KL):Bool:=
 !W.has (.s q.tx)&&!W.has (.s q.td)&&Qev o q.tx&&Qev o q.td&&(!W.has q.r || (Nat.beq (s'.root q.r).id q.id&&Nat.beq (s'.root q.r).hv q.hv&&isVS q.S (s'.root q.r).d))
def regH {R:Type} (C:Ctx) (id:Nat) (ops:List Oper) (es:List Nat) (J:List KL):Nat->List Oper->List Tr->Env->(Env->Option R)->Option R
 | _,[],_,e,k=>k e
 | i,o::l,I,e,k=>
  let anc:=Qif I o
  bif memN i es then (bif (ZU o).all (fun d=>Nat.blt d i) then regH C id ops es J (i+1) l (I++[⟨anc,.emp,.emp⟩]) e k else none)
  else match o.guard with
  | some _=>none
  | none=>
   let T:=touch ops e o
   runE (Qn C (modP id i C.frz) (QS T e) o) fun s'=>(commit ops i o I T e s').bind fun q=>
    bif J.all (Qsl q.1.W s' o) then regH C id ops es J (i+1) l (I++[q.1]) q.2 k else none
def QvB (e:Env) (o:Oper):Bool:=match o.dst with | some d=>Nat.blt d e.sl.length | none=>false
def Qf5 (e:Env) (o:Oper):Bool:=o.guard.isNone&&QvB e o&&(match o.op with
 | .move _=>true
 | .fieldAddr _ x _=>(match e.opd x with | .loc ..=>true | _=>false)
 | .indexAddr _ _ _=>true
 | .load _ x=>(match e.opd x with | .loc r _ p=>QK p&&(match (e.root r).d with | .v ..=>true | _=>false) | _=>false)
 | _=>false)
def Qrv (C:Ctx) (e:Env) (o:Oper) (t:TypeId) (x:Operand):Option Env:=match e.opd x with
 | .loc r ver p=>(C.ty t).bind fun ti=>match (e.root r).d with
  | .v _ _ _=>(e.lookL r ver p).bind fun y=>bif decide (y.sh=ti.sh)&&okS y.sh y.fl then some (e.dst o.dst (.bor r ((e.root r).stampB p) p)) else none
  | _=>none
 | _=>none
def Qpj (C:Ctx) (e:Env) (o:Oper):Option Eff:=match o.op with
 | .load t x=>(Qrv C e o t x).map .done
 | _=>Qn C .no e o
def Y4:List Step->List Step->Bool
 | [],[]=>true
 | .fst::p,.fst::q=>Y4 p q
 | .snd::p,.snd::q=>Y4 p q
 | _,_=>false
def QsO (C:Ctx) (e:Env) (o:Oper):Option (List KL):=match o.op with
 | .load t (.tmp tx)=>(C.ty t).bind fun ti=>match o.dst,(e.s tx).d with
  | some td,.loc r id p=>(match (e.s td).d,(e.root r).d with
   | .bor I hv J,.v S _ _=>bif decide (r=I)&&QK p&&Y4 p J&&Nat.beq (e.root r).id id&&Nat.beq (e.root r).hv hv&&!QY ti.sh&&decide (getS S p=some ti.sh) then some [⟨tx,td,r,id,hv,S⟩] else none
   | _,_=>none)
  | _,_=>none
 | .load _ _=>none
 | _=>some []
def klOf (C:Ctx) (e:Env) (ops:List Oper):List Nat->Option (List KL)
 | []=>some []
 | i::es=>(ops[i]?).bind fun o=>(QsO C e o).bind fun a=>(klOf C e ops es).map fun b=>a++b
def Qn4 (o J:Oper):Bool:=match o.dst,J.dst with
 | some d,some I=>!(Nat.beq d I)&&!(memN I (Qg4 o.op.operands.toList))
 | _,_=>false
def Qcf (ops:List Oper):List Nat->Bool
 | []=>true
 | i::es=>(match ops[i]? with
  | some o=>(match o.dst with | some d=>!(memN d (Qg4 o.op.operands.toList)) | none=>false)&&es.all (fun j=>match ops[j]? with | some I=>Qn4 o I | none=>false)
  | none=>false)&&Qcf ops es
def QmG {R:Type} (C:Ctx) (ops:Array Oper):List Nat->Array Bool->Env->(Env->Option R)->Option R
 | [],_,e,k=>k e
 | i::es,I,e,k=>(ops[i]?).bind fun o=>
  bif Qf5 e o&&Region.free .any ops I i&&(Region.ready .any ops I).contains i then
   runE (Qpj C e o) fun e'=>QmG C ops es (I.setIfInBounds i true) e' k
  else none
noncomputable def regX {R:Type} (C:Ctx) (id:Nat) (ops:Array Oper) (draw:Bool) (e:Env) (k:Env->Option R):Option R:=
 match assoc id C.erl with
 | none=>bif draw then regD C id ops.toList 0 ops.toList [] e k else regK C id ops.toList 0 ops.toList e k
 | some es=>bif draw&&Region.noSelect ops&&Qcf ops.toList es then
   QmG C ops es (Array.replicate ops.size false) e fun e1=>(klOf C e1 ops.toList es).bind fun I=>regH C id ops.toList es I 0 ops.toList [] e1 k
  else none
def QbD {S X:Type} (f:S->Option (S⊕X)):Nat->S->Option X
 | 0,_=>none
 | n+1,s=>match f s with
  | none=>none
  | some (.inl s')=>QbD f n s'
  | some (.inr x)=>some x
open Classical in
noncomputable def Qc {S X:Type} (f:S->Option (S⊕X)) (s:S):Option X:=
 if h:∃n x,QbD f n s=some x then some h.choose_spec.choose else none
def Ly.shs:List (Nat×LK)->List Sh
 | []=>[]
 | (_,.st s _ _)::l=>s::Ly.shs l
 | (_,.keep)::l=>Ly.shs l
def Lay.shs (L:Lay):List Sh:=Ly.shs L.sl++Ly.shs L.bl
def stD (e:Env) (blk:Bool) (s:Sh) (f:Fl):Desc->Option ((s:Sh)×s.den)
 | .v s' f' x=>bif decide (s'=s)&&Qq s' f' f then some ⟨s',x⟩ else none
 | .nil=>bif blk then none else bif f.ish then none else match s with | .list s'=>some (⟨.list s',[]⟩:(s:Sh)×s.den) | _=>none
 | .bor r ver p=>bif blk then none else (e.look r ver p).bind fun y=>bif decide (y.sh=s)&&y.fl.isz&&f.isz then some ⟨y.sh,y.x⟩ else none
 | _=>none
def QfW (e:Env) (blk:Bool) (I el:Cs):List (Nat×LK)->Option (List ((s:Sh)×s.den))
 | []=>some []
 | (i,.st s f h)::l=>bif (blk&&!(Nat.beq (I.f i).id (el.f i).id)) || (h&&!(blk&&Nat.beq (I.f i).hv (el.f i).hv)) then none else (stD e blk s f (el.f i).d).bind fun x=>(QfW e blk I el l).map fun r=>x::r
 | (i,.keep)::l=>bif Nat.beq (I.f i).ver (el.f i).ver&&QhA (I.f i).d (el.f i).d then QfW e blk I el l else none
def injL (blk:Bool) (I:Cs):List (Nat×LK)->List ((s:Sh)×s.den)->Cs->Cs
 | [],_,acc=>acc
 | (i,.st _ f h)::l,x::xs,acc=>injL blk I l xs (acc.set i ⟨(I.f i).ver+1,.v x.1 f x.2,bif blk then (I.f i).id else (I.f i).id+1,bif h then (I.f i).hv else (I.f i).hv+1⟩)
 | (i,.keep)::l,xs,acc=>injL blk I l xs (acc.set i (I.f i))
 | _,_,acc=>acc
def blank (l:Cs):Cs:=⟨l.length,fun i=>bif Nat.blt i l.length then ⟨(l.f i).ver+1,.dead,(l.f i).id+1,(l.f i).hv+1⟩ else Cel.dead,fun i h=>by
 rw[Qmy h];rfl⟩
def Env.proj (I e:Env) (L:Lay):Option (TupO L.shs):=
 (QfW e false I.sl e.sl L.sl).bind fun a=>(QfW e true I.bl e.bl L.bl).bind fun b=>gatO L.shs (a++b)
def Env.inj (I:Env) (L:Lay) (t:TupO L.shs):Env:=
 let xs:=scat L.shs t
 ⟨injL false I.sl L.sl (xs.take (Ly.shs L.sl).length) (blank I.sl),injL true I.bl L.bl (xs.drop (Ly.shs L.sl).length) (blank I.bl)⟩
def Qgt (I e:Env) (ex:Ex):(outs:List (Ex×Lay))->Option (SumT (outs.map (·.2.shs)))
 | []=>none
 | [(x,L)]=>if x=ex then I.proj e L else none
 | (x,L)::b::l=>if x=ex then (I.proj e L).map .inl else (Qgt I e ex (b::l)).map .inr
def Qma {R:Type} (I:Env) (k:Ex->Env->Option R):(outs:List (Ex×Lay))->SumT (outs.map (·.2.shs))->Option R
 | [],y=>nomatch y
 | [(x,L)],y=>k x (I.inj L y)
 | (x,L)::b::l,y=>Sum.elim (fun t=>k x (I.inj L t)) (fun t=>Qma I k (b::l) t) y
def Qbu:Code->Option Nat
 | .region id _ _=>some id
 | .seq a b=>match Qbu a with | some i=>some i | none=>Qbu b
 | .cond _ a b=>match Qbu a with | some i=>some i | none=>Qbu b
 | .block _ a=>Qbu a
 | .loop a=>Qbu a
 | .scope a=>Qbu a
 | _=>none
noncomputable def runK {R:Type} (C:Ctx):Code->Env->(Ex->Env->Option R)->Option R
 | .skip,e,k=>k .normal e
 | .label _,e,k=>k .normal e
 | .region id ops draw,e,k=>match assoc id C.rjs with
  | none=>regX C id ops draw e (k .normal)
  | some L=>(regX (R:=TupO L.shs) C id ops draw e (fun e'=>e.proj e' L)).bind fun y=>k .normal (e.inj L y)
 | .seq a b,e,k=>runK C a e fun x e=>match x with | .normal=>runK C b e k | x=>k x e
 | .cond c a b,e,k=>match e.rdBool (e.opd c) with
  | none=>none
  | some t=>match (Qbu (.seq a b)).bind fun i=>assoc i C.jns with
   | none=>bif t then runK C a e k else runK C b e k
   | some J=>(bif t then runK (R:=SumT (J.outs.map (·.2.shs))) C a e (fun x e'=>Qgt e e' x J.outs) else runK C b e (fun x e'=>Qgt e e' x J.outs)).bind fun y=>Qma e k J.outs y
 | .block id a,e,k=>runK C a e fun x e=>match x with | .exit i=>bif Nat.beq i id then k .normal e else k (.exit i) e | x=>k x e
 | .loop a,e,k=>match (Qbu a).bind fun i=>assoc i C.lps with
  | none=>none
  | some (L,J)=>(e.proj e L).bind fun s0=>
    (Qc (fun s=>runK (R:=TupO L.shs⊕SumT (J.outs.map (·.2.shs))) C a (e.inj L s) fun x e'=>match x with
     | .normal=>(e.proj e' L).map .inl
     | x=>(Qgt e e' x J.outs).map .inr) s0).bind fun y=>Qma e k J.outs y
 | .exit i,e,k=>k (.exit i) e
 | .ret,e,k=>k .ret e
 | _,_,_=>none
def Yt (n:Nat):Nat->(ps:List PS)->TupI (ps.map PS.sh)->List Cel×List Cel
 | _,[],_=>([],[])
 | i,p::ps,t=>
  let r:=Yt n (i+1) ps t.2
  match p,t.1 with
  | .v s f,x=>(⟨0,.v s f x,0,0⟩::r.1,Cel.dead::r.2)
  | .rp s false,x=>(⟨0,.rp s x,0,0⟩::r.1,Cel.dead::r.2)
  | .rp s true,x=>(⟨0,.rpp s x,0,0⟩::r.1,Cel.dead::r.2)
  | .io s f _,x=>(⟨0,.loc (.b (n+i)) 0 [],0,0⟩::r.1,⟨0,.v s f x,0,0⟩::r.2)
  | .mu s f _,x=>(⟨0,.v s f x,0,0⟩::r.1,Cel.dead::r.2)
def QmJ (n:Nat) (ps:List PS) (t:TupI (ps.map PS.sh)):Env:=
 let r:=Yt n 0 ps t
 ⟨.of (r.1++List.replicate (n - ps.length) Cel.dead),.of (List.replicate n Cel.dead++r.2)⟩
def QmO (C:Ctx) (e:Env) (s:Sh):ResultVar->Option (Env×Dv)
 | .tmp t=>e.take (some t) s (e.s t).d
 | .cell t ty=>match (e.s t).d with
   | .loc r ver []=>bif !(Nat.beq (e.root r).id ver) then none else (C.ty ty).bind fun ti=>(e.take none s (.bor r (e.root r).hv [])).bind fun (q:Env×Dv)=>bif decide (ti.sh=q.2.sh)&&okS q.2.sh q.2.fl then some q else none
   | _=>none
def Qfy (C:Ctx) (e:Env):List ResultVar->List (Sh×Fl)->Option (Env×List ((s:Sh)×s.den))
 | [],[]=>some (e,[])
 | v::vs,(s,f)::os=>(QmO C e s v).bind fun (q:Env×Dv)=>bif decide (q.2.sh=s)&&Qq q.2.sh q.2.fl f then (Qfy C q.1 vs os).map fun (u:Env×List ((s:Sh)×s.den))=>(u.1,⟨q.2.sh,q.2.x⟩::u.2) else none
 | _,_=>none
def Qi2 (e:Env) (i:Nat):Root:=match (e.s i).d with | .bor r _ _=>r | _=>.s i
def Qej (e:Env):Nat->List PS->List (Root×Nat)
 | _,[]=>[]
 | i,.mu _ _ _::ps=>(Qi2 e i,i)::Qej e (i+1) ps
 | i,_::ps=>Qej e (i+1) ps
def QhX (r:Root):List (Root×Nat)->Option Nat
 | []=>none
 | (q,i)::l=>bif decide (q=r) then some i else QhX r l
def Qdz (e:Env) (I:List (Root×Nat)) (n:Nat):Nat->List PS->Option (List ((s:Sh)×s.den))
 | _,[]=>some []
 | i,.io s _ f'::ps=>match (e.b (n+i)).d with
  | .v s' f x=>bif decide (s=s')&&decide (f=f')&&(QhX (.b (n+i)) I).isNone then (Qdz e I n (i+1) ps).map fun l=>⟨s',x⟩::l else none
  | _=>none
 | i,.mu s _ f'::ps=>match e.val (e.s i).d with
  | some ⟨s',f,x⟩=>bif decide (s=s')&&decide (f=f')&&!f.isx&&decide (QhX (Qi2 e i) I=some i) then (Qdz e I n (i+1) ps).map fun l=>⟨s',x⟩::l else none
  | none=>none
 | i,_::ps=>Qdz e I n (i+1) ps
def QaE (ms:List Nat):Code->Bool
 | .region _ ops _=>ops.toList.all fun o=>match o.dst with | none=>true | some d=>!(ms.any (Nat.beq d))
 | .seq a b=>QaE ms a&&QaE ms b
 | .cond _ a b=>QaE ms a&&QaE ms b
 | .block _ a=>QaE ms a
 | .loop a=>QaE ms a
 | .scope a=>QaE ms a
 | _=>true
def Qhi:Nat->List PS->List Nat
 | _,[]=>[]
 | i,.mu _ _ _::ps=>i::Qhi (i+1) ps
 | i,_::ps=>Qhi (i+1) ps
noncomputable def runF (C:Ctx) (f:Func) (K:Callee) (t:TupI (K.ins.map PS.sh)):Option (TupO (K.outs.map (·.1)++QaO K.ins)):=
 match f.body with
 | none=>none
 | some c=>bif !QaE (Qhi 0 K.ins) c || !Nat.ble K.ins.length f.ntmps || !Nat.ble K.outs.length PK then none else runK C c (QmJ f.ntmps K.ins t) fun x e=>
   match x with
   | .exit _=>none
   | _=>(Qfy C e f.results.toList K.outs).bind fun (u:Env×List ((s:Sh)×s.den))=>
     (Qdz u.1 (Qej u.1 0 K.ins) f.ntmps 0 K.ins).bind fun io=>gatO (K.outs.map (·.1)++QaO K.ins) (u.2++io)
end Go.Dx
namespace Go.Dx
def QP:Nat->Prop:=fun _=>False
def Qg (v:Value):Nat->Option Value:=fun k=>v.cells[k]?
def Qd (w:World) (b off:Nat):Nat->Option Value:=fun k=>w.cell? ⟨b,off+k,none⟩
def Ys:Sh->Value->Prop
 | .prod a b,v=>∃cs:Array Value,v=.agg cs/\cs.size=a.size+b.size
 | _,v=>v.cells = #[v]
def Enters (P:Program) (j:FuncId):Prop:=∃fn,P.funcs[j]? = some fn/\fn.body.isSome=true/\(fn.name == "runtime.NumGoroutine")=false
structure Streams (w w':World):Prop where
 os:w'.os=w.os
 tape:w'.tape=w.tape
 output:w'.output=w.output
 size:w.heap.size<=w'.heap.size
 drawn:w.drawn<=w'.drawn
theorem Streams.refl (w:World):Streams w w:=⟨rfl,rfl,rfl,aMb _,aMb _⟩
theorem Streams.trans {a b c:World} (h:Streams a b) (k:Streams b c):Streams a c:=⟨k.os.trans h.os,k.tape.trans h.tape,k.output.trans h.output,Nat.le_trans h.size k.size,Nat.le_trans h.drawn k.drawn⟩
structure StrD (d:Bool) (w w':World):Prop where
 os:w'.os=w.os
 tape:w'.tape=w.tape
 output:w'.output=w.output
 size:w.heap.size<=w'.heap.size
 drawn:d=true->w.drawn<=w'.drawn
theorem Streams.d {d:Bool} {w w':World} (h:Streams w w'):StrD d w w':=⟨h.os,h.tape,h.output,h.size,fun _=>h.drawn⟩
theorem StrD.full {w w':World} (h:StrD true w w'):Streams w w':=⟨h.os,h.tape,h.output,h.size,h.drawn rfl⟩
theorem StrD.weak {d I:Bool} {w w':World} (hd:d=true->I=true) (h:StrD I w w'):StrD d w w':=⟨h.os,h.tape,h.output,h.size,fun q=>h.drawn (hd q)⟩
theorem StrD.trans {d:Bool} {a b c:World} (h:StrD d a b) (k:StrD d b c):StrD d a c:=⟨k.os.trans h.os,k.tape.trans h.tape,k.output.trans h.output,Nat.le_trans h.size k.size,fun q=>Nat.le_trans (h.drawn q) (k.drawn q)⟩
def QmI (Z':Nat->Prop) (w':World) (R:(Nat->Prop)->World->(Nat->Prop)->Value->Prop):Ending->World->Prop:=fun e I=>
 ∃vr,e=.returned vr/\Streams w' I/\(∀i,i<w'.heap.size->I.heap[i]? = w'.heap[i]?)/\
  ∃own J:Nat->Prop,(∀i,own i->w'.heap.size<=i/\i<I.heap.size/\¬J i)/\(∀i,Z' i->J i)/\
   (∀i,J i->Z' i\/(w'.heap.size<=i/\i<I.heap.size))/\R J I own vr
structure After (Z Z':Nat->Prop) (w w':World):Prop where
 zz:∀i,Z i->Z' i
 heap:∀i,Z i->w'.heap[i]? = w.heap[i]?
 lt:∀i,Z' i->i<w'.heap.size
def RepC (P:Program):(s:Sh)->Fl->(Nat->Prop)->World->(Nat->Prop)->(Nat->Option Value)->s.den->Prop
 | .int k,f,_,_,_,c,x=>f ≠ .x->c 0=some (.int k x)
 | .bool,f,_,_,_,c,x=>f ≠ .x->c 0=some (.bool x)
 | .str,f,_,_,_,c,x=>f ≠ .x->c 0=some (.string ⟨List.toArray x⟩)
 | .list s,f,Z,w,S,c,x=>
  match f with
  | .z=>∃A n cap,c 0=some (.slice A n cap)/\List.length x=n/\n<=cap/\
    (0<n->∃b off,A=some ⟨b,off,none⟩/\Z b/\∀j (h:j<List.length x),RepC P s .z Z w QP (Qd w b (off+j * s.size)) (x[j]'h))
  | .o g=>∃A n cap,c 0=some (.slice A n cap)/\List.length x=n/\n<=cap/\
    ((A=none/\n=0/\cap=0)\/∃b off arr e,A=some ⟨b,off,none⟩/\S b/\w.heap[b]? = some (.cells arr e (0,0))/\off+cap * s.size<=arr.size/\
     ∃t:Nat->Nat,∀j (h:j<List.length x),RepC P s g Z w (fun i=>S i/\i ≠ b/\t i=j) (Qd w b (off+j * s.size)) (x[j]'h))
  | .h g i0=>∃A n cap,c 0=some (.slice A n cap)/\List.length x=n/\n<=cap/\
    (∃b off arr e,A=some ⟨b,off,none⟩/\S b/\w.heap[b]? = some (.cells arr e (0,0))/\off+cap * s.size<=arr.size/\
     ∃t:Nat->Nat,∀j (h:j<List.length x),j ≠ i0->RepC P s g Z w (fun i=>S i/\i ≠ b/\t i=j) (Qd w b (off+j * s.size)) (x[j]'h))
  | _=>True
 | .prod a b,f,Z,w,S,c,x=>∃t:Nat->Bool,RepC P a f.fst Z w (fun i=>S i/\t i=true) c x.1/\
   RepC P b f.snd Z w (fun i=>S i/\t i=false) (fun k=>c (a.size+k)) x.2
 | .fn1 a r rf,f,Z,w,_,c,g=>f ≠ .x->∃v,(c 0=some v/\v.oneCell'=true)/\∀(Z':Nat->Prop) (w':World),After Z Z' w w'->∀I xa y,Ys a I->RepC P a .z Z' w' QP (Qg I) xa->
   g xa=some y->∃j cap,v=.func (.func j) #[] cap/\Enters P j/\Calls P j (#[I]++cap) w' (QmI Z' w' fun J U own vr=>Ys r vr/\RepC P r rf J U own (Qg vr) y)
 | .fn2 a b r,f,Z,w,_,c,g=>f ≠ .x->∃v,(c 0=some v/\v.oneCell'=true)/\∀(Z':Nat->Prop) (w':World),After Z Z' w w'->∀I xa vb xb y,Ys a I->RepC P a .z Z' w' QP (Qg I) xa->
   Ys b vb->RepC P b .z Z' w' QP (Qg vb) xb->
   g xa xb=some y->∃j cap,v=.func (.func j) #[] cap/\Enters P j/\Calls P j (#[I,vb]++cap) w' (QmI Z' w' fun J U own vr=>Ys r vr/\RepC P r .z J U own (Qg vr) y)
def RepV (P:Program) (s:Sh) (f:Fl) (Z:Nat->Prop) (w:World) (S:Nat->Prop) (v:Value) (x:s.den):Prop:=Ys s v/\RepC P s f Z w S (Qg v) x
variable {P:Program}
theorem Sh.size_pos:∀s:Sh,0<s.size
 | .prod a b=>by simp[Sh.size];have:=Sh.size_pos a;omega
 | .int _ | .bool | .str | .list _ | .fn1 .. | .fn2 ..=>by simp[Sh.size]
theorem RepC.congr {s:Sh}:∀{f:Fl} {Z:Nat->Prop} {w:World} {S:Nat->Prop} {c c':Nat->Option Value} {x:s.den},(∀k,k<s.size->c' k=c k)->RepC P s f Z w S c x->RepC P s f Z w S c' x:=by
 induction s with
 | int k=>intro f Z w S c c' x h r I;rw[h 0 (Sh.size_pos _)];exact r I
 | bool=>intro f Z w S c c' x h r I;rw[h 0 (Sh.size_pos _)];exact r I
 | str=>intro f Z w S c c' x h r I;rw[h 0 (Sh.size_pos _)];exact r I
 | list s _=>intro f Z w S c c' x h r;cases f<;>simp[RepC] at r ⊢<;>rw[h 0 (Sh.size_pos _)]<;>exact r
 | prod a b J U=>
  intro f Z w S c c' x h r;obtain⟨t,ra,rb⟩:=r;simp[Sh.size] at h;exact⟨t,J (fun k hk=>h k (by omega)) ra,U (fun k hk=>h _ (by omega)) rb⟩
 | fn1 a r rf=>intro f Z w S c c' x h r I;rw[h 0 (Sh.size_pos _)];exact r I
 | fn2 a b r=>intro f Z w S c c' x h r I;rw[h 0 (Sh.size_pos _)];exact r I
theorem Zm {w w':World} {b off:Nat} (h:w'.heap[b]? = w.heap[b]?):Qd w' b off=Qd w b off:=by
 funext k;simp[Qd,World.cell?,h]
theorem After.trans {Z Z' I:Nat->Prop} {w w' J:World} (h:After Z Z' w w') (k:After Z' I w' J):After Z I w J:=
 ⟨fun i hi=>k.zz i (h.zz i hi),fun i hi=>(k.heap i (h.zz i hi)).trans (h.heap i hi),k.lt⟩
theorem RepC.frame {s:Sh}:∀{f:Fl} {Z Z':Nat->Prop} {w w':World} {S S':Nat->Prop} {c:Nat->Option Value} {x:s.den},
  (∀i,Z i->Z' i)->(∀i,S i->S' i)->(∀i,S i\/Z i->w'.heap[i]? = w.heap[i]?)->RepC P s f Z w S c x->RepC P s f Z' w' S' c x:=by
 induction s with
 | int k=>intro f Z Z' w w' S S' c x _ _ _ r;exact r
 | bool=>intro f Z Z' w w' S S' c x _ _ _ r;exact r
 | str=>intro f Z Z' w w' S S' c x _ _ _ r;exact r
 | list s ih=>
  intro f Z Z' w w' S S' c x I hS hw r;cases f with
  | z=>
   obtain⟨A,n,cap,h1,h2,h3,h4⟩:=r;refine⟨A,n,cap,h1,h2,h3,fun hn=>?_⟩
   obtain⟨b,off,h5,h6,h7⟩:=h4 hn;refine⟨b,off,h5,I _ h6,fun j hj=>?_⟩
   rw[Zm (hw b (.inr h6))];exact ih I (fun _ h=>h) (fun i hi=>hw i (.inr (hi.resolve_left id))) (h7 j hj)
  | o g=>
   obtain⟨A,n,cap,h1,h2,h3,h4⟩:=r;refine⟨A,n,cap,h1,h2,h3,h4.imp id ?_⟩;rintro ⟨b,off,arr,e,h5,h6,h7,h8,t,h9⟩;refine⟨b,off,arr,e,h5,hS _ h6,(hw b (.inl h6)).trans h7,h8,t,fun j hj=>?_⟩
   rw[Zm (hw b (.inl h6))]
   grind
  | h g i0=>
   obtain⟨A,n,cap,h1,h2,h3,h4⟩:=r;refine⟨A,n,cap,h1,h2,h3,?_⟩;obtain⟨b,off,arr,e,h5,h6,h7,h8,t,h9⟩:=h4;refine⟨b,off,arr,e,h5,hS _ h6,(hw b (.inl h6)).trans h7,h8,t,fun j hj hne=>?_⟩
   rw[Zm (hw b (.inl h6))]
   grind
  | x=>exact trivial
  | p a b=>exact trivial
 | prod a b J ihb=>
  intro f Z Z' w w' S S' c x I hS hw r;obtain⟨t,ra,rb⟩:=r;exact⟨t,J I (fun i h=>⟨hS i h.1,h.2⟩) (fun i hi=>hw i (hi.imp (·.1) id)) ra,ihb I (fun i h=>⟨hS i h.1,h.2⟩) (fun i hi=>hw i (hi.imp (·.1) id)) rb⟩
 | fn1 a r rf J ihr=>
  intro f Z Z' w w' S S' c g I _ hw h hx;obtain⟨v,h1,h2⟩:=h hx;exact⟨v,h1,fun Z1 w1 U=>h2 Z1 w1 ⟨fun i hi=>U.zz i (I i hi),fun i hi=>(U.heap i (I i hi)).trans (hw i (.inr hi)),U.lt⟩⟩
 | fn2 a b r J ihb ihr=>
  intro f Z Z' w w' S S' c g I _ hw h hx;obtain⟨v,h1,h2⟩:=h hx;exact⟨v,h1,fun Z1 w1 U=>h2 Z1 w1 ⟨fun i hi=>U.zz i (I i hi),fun i hi=>(U.heap i (I i hi)).trans (hw i (.inr hi)),U.lt⟩⟩
theorem RepC.mono {s:Sh} {f:Fl} {Z Z':Nat->Prop} {w:World} {S S':Nat->Prop} {c:Nat->Option Value} {x:s.den} (I:∀i,Z i->Z' i) (J:∀i,S i->S' i) (h:RepC P s f Z w S c x):RepC P s f Z' w S' c x:=
 h.frame I J fun _ _=>rfl
theorem RepV.frame {s:Sh} {f:Fl} {Z Z':Nat->Prop} {w w':World} {S S':Nat->Prop} {v:Value} {x:s.den} (I:∀i,Z i->Z' i) (J:∀i,S i->S' i) (hw:∀i,S i\/Z i->w'.heap[i]? = w.heap[i]?) (h:RepV P s f Z w S v x):RepV P s f Z' w' S' v x:=
 ⟨h.1,h.2.frame I J hw⟩
theorem RepC.shared {s:Sh}:∀{Z:Nat->Prop} {w:World} {S:Nat->Prop} {c:Nat->Option Value} {x:s.den},RepC P s .z Z w S c x->RepC P s .z Z w QP c x:=by
 induction s with
 | int k=>intro Z w S c x r;exact r
 | bool=>intro Z w S c x r;exact r
 | str=>intro Z w S c x r;exact r
 | list s ih=>intro Z w S c x r;exact r
 | prod a b I J=>
  intro Z w S c x r;obtain⟨t,U,rb⟩:=r;exact⟨t,(I U).mono (fun _ h=>h) (fun _ h=>h.elim),(J rb).mono (fun _ h=>h) (fun _ h=>h.elim)⟩
 | fn1 a r rf=>intro Z w S c x r;exact r
 | fn2 a b r=>intro Z w S c x r;exact r
theorem RepC.gone {s:Sh}:∀{Z:Nat->Prop} {w:World} {S:Nat->Prop} {c:Nat->Option Value} {x:s.den},RepC P s .x Z w S c x:=by
 induction s with
 | int k=>intro Z w S c x h;exact absurd rfl h
 | bool=>intro Z w S c x h;exact absurd rfl h
 | str=>intro Z w S c x h;exact absurd rfl h
 | list s U=>intro Z w S c x;exact trivial
 | prod a b I J=>intro Z w S c x;exact⟨fun _=>true,I,J⟩
 | fn1 a r rf=>intro Z w S c x h;exact absurd rfl h
 | fn2 a b r=>intro Z w S c x h;exact absurd rfl h
end Go.Dx
namespace Go.Dx
variable {P:Program}
def QdX (s:Sh) (l h:Int):Option Value->Option Value
 | some (.slice A _ cap)=>some (.slice (if cap=l.toNat then A else A.map (·.add (l.toNat * s.size))) (h - l).toNat (cap - l.toNat))
 | _=>none
def Qga (w:World) (s:Sh) (i:Int):Option Value->Nat->Option Value
 | some (.slice (some I) _ _)=>Qd w I.block (I.off+i.toNat * s.size)
 | _=>fun _=>none
def Qm (w:World):(s:Sh)->(Nat->Option Value)->List Step->(Nat->Option Value)
 | _,c,[]=>c
 | .prod a _,c,.fst::r=>Qm w a c r
 | .prod a b,c,.snd::r=>Qm w b (fun k=>c (a.size+k)) r
 | .list s,c,.idx i::r=>Qm w s (Qga w s i (c 0)) r
 | .list s,c,.sub l h::r=>Qm w (.list s) (fun k=>if k=0 then QdX s l h (c 0) else none) r
 | _,_,_=>fun _=>none
def QG:(s:Sh)->s.den->List Step->Prop
 | _,_,[]=>True
 | .prod a _,x,.fst::r=>QG a x.1 r
 | .prod _ b,x,.snd::r=>QG b x.2 r
 | .list s,x,.idx i::r=>(0<=i/\i<(List.length x:Int))/\QG s (List.getD x i.toNat s.dflt) r
 | .list s,x,.sub l h::r=>(0<=l/\l<=h/\h<=(List.length x:Int))/\QG (.list s) ((List.drop l.toNat x).take (h - l).toNat) r
 | _,_,_=>False
theorem QbZ (b off k:Nat):(⟨b,off,none⟩:Addr).add k=⟨b,off+k,none⟩:=by unfold Addr.add;split<;>simp_all
theorem QkK {s:Sh} {f:Fl} {Z:Nat->Prop} {w:World} {S:Nat->Prop} {c:Nat->Option Value} {x:List s.den} {l h:Int}
  (r:RepC P (.list s) f Z w S c x) (h0:0<=l) (h1:l<=h) (h2:h<=(x.length:Int)) :
  RepC P (.list s) f.sb Z w S (fun k=>if k=0 then QdX s l h (c 0) else none) ((x.drop l.toNat).take (h - l).toNat):=by
 have hlen:((x.drop l.toNat).take (h - l).toNat).length=(h - l).toNat:=by simp;omega
 cases f with
 | z=>
  obtain⟨A,n,cap,e1,U,e3,I⟩:=r;refine⟨if cap=l.toNat then A else A.map (·.add (l.toNat * s.size)),(h - l).toNat,cap - l.toNat,by simp[e1,QdX],hlen,by omega,fun hn=>?_⟩
  obtain⟨b,off,rfl,hb,J⟩:=I (by omega)
  refine⟨b,off+l.toNat * s.size,?_,hb,fun j hj=>?_⟩
  ·rw[if_neg (by omega)];simp[QbZ]
  grind
 | o g=>
  obtain⟨A,n,cap,e1,U,e3,I⟩:=r;refine⟨if cap=l.toNat then A else A.map (·.add (l.toNat * s.size)),(h - l).toNat,cap - l.toNat,by simp[e1,QdX],hlen,by clear I;omega,?_⟩
  rcases I with ⟨rfl,hn,hc⟩ | ⟨b,off,arr,e,rfl,hS,hw,hsz,t,J⟩
  ·refine .inl ⟨by simp,by omega,by omega⟩
  ·refine .inr ⟨b,if cap=l.toNat then off else off+l.toNat * s.size,arr,e,?_,hS,hw,?_,fun i=>t i - l.toNat,fun j hj=>?_⟩
   ·split<;>simp[QbZ]
   ·have hle:l.toNat<=cap:=by omega
    have:(cap - l.toNat) * s.size+l.toNat * s.size=cap * s.size:=by rw[<-aMq,Nat.sub_add_cancel hle]
    split<;>omega
   ·have:=J (l.toNat+j) (by omega)
    rw[if_neg (by omega)]
    simp only[aMw,List.getElem_drop];rw[aMq,<-aMh] at this;exact this.mono (fun _ h=>h) (fun i hi=>⟨hi.1,hi.2.1,by have:=hi.2.2;show t i - l.toNat=j;omega⟩)
 | x=>exact trivial
 | p a b=>exact trivial
 | h g i=>exact trivial
theorem Qfb {s:Sh} {f:Fl} {Z:Nat->Prop} {w:World} {S:Nat->Prop} {c:Nat->Option Value} {x:List s.den} {i:Int}
  (r:RepC P (.list s) f Z w S c x) (h0:0<=i) (h1:i<(x.length:Int)) :
  RepC P s f.el Z w S (Qga w s i (c 0)) (x.getD i.toNat s.dflt):=by
 have U:x.getD i.toNat s.dflt=x[i.toNat]'(by omega):=by rw[aLk,aLf (by omega)];rfl
 rw[U];cases f with
 | z=>
  obtain⟨A,n,cap,e1,e2,e3,I⟩:=r;obtain⟨b,off,rfl,hb,J⟩:=I (by omega)
  rw[e1];exact (J i.toNat (by omega)).mono (fun _ h=>h) (fun _ h=>h.elim)
 | o g=>
  obtain⟨A,n,cap,e1,e2,e3,I⟩:=r;rw[e1];rcases I with ⟨rfl,hn,hc⟩ | ⟨b,off,arr,e,rfl,hS,hw,hsz,t,J⟩
  ·omega
  ·exact (J i.toNat (by omega)).mono (fun _ h=>h) (fun _ h=>h.1)
 | x=>exact RepC.gone
 | p a b=>exact RepC.gone
 | h g i=>exact RepC.gone
theorem RepC.get {Z:Nat->Prop} {w:World} {Sg:Nat->Prop}:∀(p:List Step) {S:Sh} {F:Fl} {c:Nat->Option Value} {X:S.den} {y:Dv},
  RepC P S F Z w Sg c X->QG S X p->getP S F X p=some y->RepC P y.sh y.fl Z w Sg (Qm w S c p) y.x:=by
 intro p;induction p with
 | nil=>intro S F c X y r _ I;simp[getP,aLb] at I;subst I;simpa [Qm] using r
 | cons st p U=>
  intro S F c X y r J I;cases S with
  | prod a b=>
   obtain⟨t,ra,rb⟩:=r;cases st with
   | fst=>exact U (ra.mono (fun _ h=>h) (fun _ h=>h.1)) J I
   | snd=>exact U (rb.mono (fun _ h=>h) (fun _ h=>h.1)) J I
   | idx i=>simp[getP] at I
   | sub l h=>simp[getP] at I
  | list s=>
   cases st with
   | fst=>simp[getP] at I
   | snd=>simp[getP] at I
   | idx i=>exact U (Qfb r J.1.1 J.1.2) J.2 I
   | sub l h=>exact U (QkK r J.1.1 J.1.2.1 J.1.2.2) J.2 I
  | int k=>cases st<;>simp[getP] at I
  | bool=>cases st<;>simp[getP] at I
  | str=>cases st<;>simp[getP] at I
  | fn1 a r rf=>cases st<;>simp[getP] at I
  | fn2 a b r=>cases st<;>simp[getP] at I
theorem Qw5:∀{s:Sh},okS s .x=false:=by
 intro s;induction s with
 | prod a b I J=>simp[okS,Fl.fst,I]
 | list s U=>rfl
 | _=>rfl
theorem RepC.freeze {s:Sh}:∀{f:Fl} {Z:Nat->Prop} {w:World} {S:Nat->Prop} {c:Nat->Option Value} {x:s.den},
  okS s f=true->RepC P s f Z w S c x->RepC P s .z (fun i=>Z i\/S i) w QP c x:=by
 induction s with
 | int k=>intro f Z w S c x ho r _;exact r (by rintro rfl;simp[okS,Fl.isx] at ho)
 | bool=>intro f Z w S c x ho r _;exact r (by rintro rfl;simp[okS,Fl.isx] at ho)
 | str=>intro f Z w S c x ho r _;exact r (by rintro rfl;simp[okS,Fl.isx] at ho)
 | list s ih=>
  intro f Z w S c x ho r;cases f with
  | z=>exact r.mono (fun _ h=>.inl h) (fun _ h=>h) |>.shared
  | o g=>
   obtain⟨A,n,cap,h1,h2,h3,h4⟩:=r;refine⟨A,n,cap,h1,h2,h3,fun hn=>?_⟩
   rcases h4 with ⟨_,h5,_⟩ | ⟨b,off,arr,e,h5,h6,h7,h8,t,h9⟩
   ·omega
   ·exact⟨b,off,h5,.inr h6,fun j hj=>(ih (by simpa [okS] using ho) (h9 j hj)).mono (fun i hi=>hi.imp id (·.1)) (fun _ h=>h)⟩
  | x=>simp[okS] at ho
  | p a b=>simp[okS] at ho
  | h g i=>simp[okS] at ho
 | prod a b I U=>
  intro f Z w S c x ho r;obtain⟨t,ra,rb⟩:=r;simp[okS,aLg] at ho;exact⟨fun _=>true,(I ho.1 ra).mono (fun i hi=>hi.imp id (·.1)) (fun _ h=>h.elim),(U ho.2 rb).mono (fun i hi=>hi.imp id (·.1)) (fun _ h=>h.elim)⟩
 | fn1 a r rf I ihr=>
  intro f Z w S c g ho h _;obtain⟨v,h1,h2⟩:=h (by rintro rfl;simp[okS,Fl.isx] at ho)
  exact⟨v,h1,fun Z' w' J=>h2 Z' w' ⟨fun i hi=>J.zz i (.inl hi),fun i hi=>J.heap i (.inl hi),J.lt⟩⟩
 | fn2 a b r I U ihr=>
  intro f Z w S c g ho h _;obtain⟨v,h1,h2⟩:=h (by rintro rfl;simp[okS,Fl.isx] at ho)
  exact⟨v,h1,fun Z' w' J=>h2 Z' w' ⟨fun i hi=>J.zz i (.inl hi),fun i hi=>J.heap i (.inl hi),J.lt⟩⟩
def Weak (P:Program) (s:Sh) (f':Fl) (Z:Nat->Prop) (w:World) (S:Nat->Prop) (c:Nat->Option Value) (x:s.den):Prop:=
 ∃T:Nat->Prop,(∀i,T i->S i)/\RepC P s f' (fun i=>Z i\/T i) w (fun i=>S i/\¬T i) c x
theorem Weak.of {s:Sh} {f:Fl} {Z:Nat->Prop} {w:World} {S:Nat->Prop} {c:Nat->Option Value} {x:s.den} (h:RepC P s f Z w S c x):Weak P s f Z w S c x:=
 ⟨QP,fun _ h=>h.elim,h.mono (fun _ h=>.inl h) (fun _ h=>⟨h,id⟩)⟩
theorem RepC.weak {s:Sh}:∀{f g:Fl} {Z:Nat->Prop} {w:World} {S:Nat->Prop} {c:Nat->Option Value} {x:s.den},
  Qq s f g=true->RepC P s f Z w S c x->Weak P s g Z w S c x:=by
 induction s with
 | int k=>intro f g Z w S c x ho r;exact .of (fun hg=>r (by rintro rfl;cases g<;>simp_all [Qq,Fl.isx]))
 | bool=>intro f g Z w S c x ho r;exact .of (fun hg=>r (by rintro rfl;cases g<;>simp_all [Qq,Fl.isx]))
 | str=>intro f g Z w S c x ho r;exact .of (fun hg=>r (by rintro rfl;cases g<;>simp_all [Qq,Fl.isx]))
 | list s ih=>
  intro f g Z w S c x ho r;cases g with
  | x=>exact .of RepC.gone
  | p a b=>cases f<;>simp[Qq] at ho
  | h g i=>cases f<;>simp[Qq] at ho
  | z=>
   refine⟨S,fun _ h=>h,?_⟩
   exact (RepC.freeze (by cases f<;>simp_all [Qq,okS]) r).mono (fun _ h=>h) (fun _ h=>h.elim)
  | o g=>
   cases f with
   | o f=>
    obtain⟨A,n,cap,h1,h2,h3,h4⟩:=r;rcases h4 with h4 | ⟨b,off,arr,e,h5,h6,h7,h8,t,h9⟩
    ·exact⟨QP,fun _ h=>h.elim,A,n,cap,h1,h2,h3,.inl h4⟩
    ·have J:∀j,∃T:Nat->Prop,(∀i,T i->S i/\i ≠ b/\t i=j)/\∀h:j<List.length x,RepC P s g (fun i=>Z i\/T i) w (fun i=>(S i/\i ≠ b/\t i=j)/\¬T i) (Qd w b (off+j * s.size)) (x[j]'h):=by
      intro j;by_cases hj:j<List.length x
      ·obtain⟨T,h,h'⟩:=ih (by simpa [Qq] using ho) (h9 j hj)
       exact⟨T,h,fun _=>h'⟩
      ·exact⟨QP,fun _ h=>h.elim,fun h=>absurd h hj⟩
     obtain⟨T,hT⟩:=Classical.axiomOfChoice J;refine⟨fun i=>T (t i) i,fun i hi=>((hT _).1 i hi).1,A,n,cap,h1,h2,h3,.inr ⟨b,off,arr,e,h5,⟨h6,fun hb=>((hT _).1 b hb).2.1 rfl⟩,h7,h8,t,fun j hj=>?_⟩⟩
     have hz:∀i,Z i\/T j i->Z i\/T (t i) i:=fun i hi=>hi.imp id fun h=>by
      grind
     have hs:∀i,(S i/\i ≠ b/\t i=j)/\¬T j i->(S i/\¬T (t i) i)/\i ≠ b/\t i=j:=fun i hi=>⟨⟨hi.1.1,by rw[hi.1.2.2];exact hi.2⟩,hi.1.2⟩
     exact ((hT j).2 hj).mono hz hs
   | z=>simp[Qq] at ho
   | x=>simp[Qq] at ho
   | p a b=>simp[Qq] at ho
   | h g i=>simp[Qq] at ho
 | prod a b I U=>
  intro f g Z w S c x ho r;obtain⟨t,ra,rb⟩:=r;simp only[Qq,aLg] at ho;obtain⟨Ta,ha,ra'⟩:=I ho.1 ra;obtain⟨Tb,hb,rb'⟩:=U ho.2 rb;refine⟨fun i=>Ta i\/Tb i,fun i hi=>hi.elim (fun h=>(ha i h).1) (fun h=>(hb i h).1),t,?_,?_⟩
  ·refine ra'.mono (fun i hi=>hi.imp id .inl) (fun i hi=>⟨⟨hi.1.1,fun h=>h.elim hi.2 fun h=>?_⟩,hi.1.2⟩)
   simp_all
  ·refine rb'.mono (fun i hi=>hi.imp id .inr) (fun i hi=>⟨⟨hi.1.1,fun h=>h.elim (fun h=>?_) hi.2⟩,hi.1.2⟩)
   have:=(ha i h).2;rw[hi.1.2] at this;cases this
 | fn1 a r rf I ihr=>intro f g Z w S c x ho r;exact .of (fun hg=>r (by rintro rfl;cases g<;>simp_all [Qq,Fl.isx]))
 | fn2 a b r I U ihr=>intro f g Z w S c x ho r;exact .of (fun hg=>r (by rintro rfl;cases g<;>simp_all [Qq,Fl.isx]))
theorem RepC.flagx {s:Sh} {f g:Fl} {Z:Nat->Prop} {w:World} {S:Nat->Prop} {c:Nat->Option Value} {x:s.den} (h:RepC P s f Z w S c x) (I:f=g):RepC P s g Z w S c x:=I ▸ h
theorem Fl.fst_mk (a b:Fl):(Fl.mk a b).fst=a:=by unfold Fl.mk;split<;>rfl
theorem Fl.snd_mk (a b:Fl):(Fl.mk a b).snd=b:=by unfold Fl.mk;split<;>rfl
theorem RepC.take {Z:Nat->Prop} {w:World}:∀(p:List Step) {S:Sh} {F F':Fl} {J:Nat->Prop} {c:Nat->Option Value} {X:S.den} {y:Dv},
  RepC P S F Z w J c X->QG S X p->setF S F p .x=some F'->getP S F X p=some y->
  ∃T:Nat->Prop,(∀i,T i->J i)/\RepC P y.sh y.fl Z w T (Qm w S c p) y.x/\RepC P S F' Z w (fun i=>J i/\¬T i) c X:=by
 intro p;induction p with
 | nil=>
  intro S F F' J c X y r hp I U;simp only[setF,aLb] at I;simp only[getP,aLb] at U;subst I U;exact⟨J,fun _ h=>h,r,RepC.gone⟩
 | cons st p ih=>
  intro S F F' J c X y r hp I U;cases S with
  | prod a b=>
   obtain⟨t,ra,rb⟩:=r;cases st with
   | fst=>
    simp only[setF,aLd] at I;obtain⟨f',I,rfl⟩:=I;obtain⟨T,hT,h1,h2⟩:=ih ra hp I U;refine⟨T,fun i hi=>(hT i hi).1,h1,t,(h2.mono (fun _ h=>h) (fun i hi=>⟨⟨hi.1.1,hi.2⟩,hi.1.2⟩)).flagx (Fl.fst_mk _ _).symm,(rb.mono (fun _ h=>h) (fun i hi=>⟨⟨hi.1,fun h=>?_⟩,hi.2⟩)).flagx (Fl.snd_mk _ _).symm⟩
    grind
   | snd=>
    simp only[setF,aLd] at I;obtain⟨f',I,rfl⟩:=I;obtain⟨T,hT,h1,h2⟩:=ih rb hp I U;refine⟨T,fun i hi=>(hT i hi).1,h1,t,(ra.mono (fun _ h=>h) (fun i hi=>⟨⟨hi.1,fun h=>?_⟩,hi.2⟩)).flagx (Fl.fst_mk _ _).symm,(h2.mono (fun _ h=>h) (fun i hi=>⟨⟨hi.1.1,hi.2⟩,hi.1.2⟩)).flagx (Fl.snd_mk _ _).symm⟩
    grind
   | idx i=>simp[setF] at I
   | sub l h=>simp[setF] at I
  | list s=>
   cases st with
   | fst=>simp[setF] at I
   | snd=>simp[setF] at I
   | sub l h=>simp[setF] at I
   | idx i=>
    cases p with
    | cons st p=>cases F<;>simp[setF] at I
    | nil=>
     cases F with
     | o f=>
      simp only[setF,aLb] at I;subst I;simp only[getP,aLb] at U;subst U;obtain⟨A,n,cap,e1,e2,e3,e4⟩:=r;have hi:=hp.1
      rcases e4 with ⟨rfl,h,h'⟩ | ⟨b,off,arr,e,rfl,hS,hw,hsz,t,hrr⟩
      ·omega
      ·have hg:X.getD i.toNat s.dflt=X[i.toNat]'(by omega):=by rw[aLk,aLf (by omega)];rfl
       refine⟨fun j=>J j/\j ≠ b/\t j=i.toNat,fun j hj=>hj.1,?_,⟨some ⟨b,off,none⟩,n,cap,e1,e2,e3,b,off,arr,e,rfl,⟨hS,fun h=>h.2.1 rfl⟩,hw,hsz,t,fun j hj hne=>?_⟩⟩
       ·rw[hg]
        simp only[Qm,e1];exact hrr i.toNat (by omega)
       grind
     | z=>simp[setF] at I
     | x=>simp[setF] at I
     | p a b=>simp[setF] at I
     | h g i=>simp[setF] at I
  | int k=>cases st<;>simp[setF] at I
  | bool=>cases st<;>simp[setF] at I
  | str=>cases st<;>simp[setF] at I
  | fn1 a r rf=>cases st<;>simp[setF] at I
  | fn2 a b r=>cases st<;>simp[setF] at I
theorem RepC.share {Z:Nat->Prop} {w:World}:∀(p:List Step) {S:Sh} {F F':Fl} {J:Nat->Prop} {c:Nat->Option Value} {X:S.den} {y:Dv},
  RepC P S F Z w J c X->setF S F p .z=some F'->getP S F X p=some y->okS y.sh y.fl=true->
  ∃T:Nat->Prop,(∀i,T i->J i)/\RepC P S F' (fun i=>Z i\/T i) w (fun i=>J i/\¬T i) c X:=by
 intro p;induction p with
 | nil=>
  intro S F F' J c X y r I U ho;simp only[setF,aLb] at I;simp only[getP,aLb] at U;subst I U;exact⟨J,fun _ h=>h,(r.freeze ho).mono (fun _ h=>h) (fun _ h=>h.elim)⟩
 | cons st p ih=>
  intro S F F' J c X y r I U ho;cases S with
  | prod a b=>
   obtain⟨t,ra,rb⟩:=r;cases st with
   | fst=>
    simp only[setF,aLd] at I;obtain⟨f',I,rfl⟩:=I;obtain⟨T,hT,h2⟩:=ih ra I U ho;refine⟨T,fun i hi=>(hT i hi).1,t,(h2.mono (fun _ h=>h) (fun i hi=>⟨⟨hi.1.1,hi.2⟩,hi.1.2⟩)).flagx (Fl.fst_mk _ _).symm,(rb.mono (fun _ h=>.inl h) (fun i hi=>⟨⟨hi.1,fun h=>?_⟩,hi.2⟩)).flagx (Fl.snd_mk _ _).symm⟩
    simp_all
   | snd=>
    simp only[setF,aLd] at I;obtain⟨f',I,rfl⟩:=I;obtain⟨T,hT,h2⟩:=ih rb I U ho;refine⟨T,fun i hi=>(hT i hi).1,t,(ra.mono (fun _ h=>.inl h) (fun i hi=>⟨⟨hi.1,fun h=>?_⟩,hi.2⟩)).flagx (Fl.fst_mk _ _).symm,(h2.mono (fun _ h=>h) (fun i hi=>⟨⟨hi.1.1,hi.2⟩,hi.1.2⟩)).flagx (Fl.snd_mk _ _).symm⟩
    simp_all
   | idx i=>simp[setF] at I
   | sub l h=>simp[setF] at I
  | list s=>cases F<;>cases st<;>cases p<;>simp[setF] at I
  | int k=>cases st<;>simp[setF] at I
  | bool=>cases st<;>simp[setF] at I
  | str=>cases st<;>simp[setF] at I
  | fn1 a r rf=>cases st<;>simp[setF] at I
  | fn2 a b r=>cases st<;>simp[setF] at I
end Go.Dx
namespace Go.Dx
variable {P:Program}
def Qi:(s:Sh)->Option (Nat×Nat)->World->(Nat->Option Value)->List Step->Option (Nat×Nat)
 | _,b,_,_,[]=>b
 | .prod a _,b,w,c,.fst::r=>Qi a b w c r
 | .prod a b',b,w,c,.snd::r=>Qi b' (b.map fun u=>(u.1,u.2+a.size)) w (fun k=>c (a.size+k)) r
 | .list s,_,w,c,.idx i::r=>match c 0 with
  | some (.slice (some I) _ _)=>Qi s (some (I.block,I.off+i.toNat * s.size)) w (Qd w I.block (I.off+i.toNat * s.size)) r
  | _=>none
 | .list s,_,w,c,.sub l h::r=>Qi (.list s) none w (fun k=>if k=0 then QdX s l h (c 0) else none) r
 | _,_,_,_,_=>none
structure Wrote (w w':World) (b off n:Nat) (cn:Nat->Option Value):Prop where
 other:∀i,i ≠ b->w'.heap[i]? = w.heap[i]?
 blk:∃(arr arr':Array Value) (e:TypeId),w.heap[b]? = some (.cells arr e (0,0))/\w'.heap[b]? = some (.cells arr' e (0,0))/\arr'.size=arr.size/\off+n<=arr.size/\
  (∀k,k<n->arr'[off+k]? = cn k)/\(∀k,(k<off\/off+n<=k)->arr'[k]? = arr[k]?)
theorem Wrote.in_ {w w':World} {b off n:Nat} {cn:Nat->Option Value} (h:Wrote w w' b off n cn) {k:Nat} (hk:k<n):Qd w' b off k=cn k:=by
 obtain⟨arr,arr',e,h1,h2,h3,h4,h5,h6⟩:=h.blk;simp[Qd,World.cell?,h2,h5 k hk]
theorem Wrote.out {w w':World} {b off n:Nat} {cn:Nat->Option Value} (h:Wrote w w' b off n cn) {k:Nat} (hk:k<off\/off+n<=k):w'.cell? ⟨b,k,none⟩=w.cell? ⟨b,k,none⟩:=by
 obtain⟨arr,arr',e,h1,h2,h3,h4,h5,h6⟩:=h.blk;simp[World.cell?,h1,h2,h6 k hk]
theorem Wrote.cellsAt_ne {w w':World} {b off n:Nat} {cn:Nat->Option Value} (h:Wrote w w' b off n cn) {b' off':Nat} (hb:b' ≠ b):Qd w' b' off'=Qd w b' off':=Zm (h.other b' hb)
theorem Qfu {Z:Nat->Prop} {w:World}:∀(p:List Step) {S:Sh} {F:Fl} {Sg:Nat->Prop} {c:Nat->Option Value} {X:S.den} {base:Option (Nat×Nat)} {n:Dv} {r:Fl×S.den} {inl:Bool} {b off:Nat},
  RepC P S F Z w Sg c X->QG S X p->setP S F X p inl n=some r->Qi S base w c p=some (b,off)->
  Sg b\/∃o,base=some (b,o)/\o<=off/\off+n.sh.size<=o+S.size:=by
 intro p;induction p with
 | nil=>
  intro S F Sg c X base n r inl b off hr U I J;simp only[Qi] at J;refine .inr ⟨off,J,aMb _,?_⟩;simp only[setP,aLa] at I;obtain⟨y,hy,_⟩:=I;simp only[asS] at hy
  grind
 | cons st p ih=>
  intro S F Sg c X base n r inl b off hr U I J;cases S with
  | prod a a'=>
   obtain⟨t,ra,rb⟩:=hr;cases st with
   | fst=>
    simp only[setP,aLd] at I;obtain⟨y,I,rfl⟩:=I;rcases ih ra U I J with h | ⟨o,h1,h2,h3⟩
    ·exact .inl h.1
    ·exact .inr ⟨o,h1,h2,by simp only[Sh.size];omega⟩
   | snd=>
    simp only[setP,aLd] at I;obtain⟨y,I,rfl⟩:=I;rcases ih rb U I J with h | ⟨o,h1,h2,h3⟩
    ·exact .inl h.1
    ·obtain⟨u,hu,hu'⟩:=aLd.1 h1
     simp only[aLe] at hu';refine .inr ⟨u.2,by rw[hu,<-hu'.1],by omega,by simp only[Sh.size];omega⟩
   | idx i=>simp[setP] at I
   | sub l h=>simp[setP] at I
  | list s=>
   cases st with
   | fst=>simp[setP] at I
   | snd=>simp[setP] at I
   | sub l h=>simp[setP] at I
   | idx i=>
    cases F with
    | o g=>
     simp only[setP,aLd] at I;obtain⟨y,I,rfl⟩:=I;have he:=Qfb hr U.1.1 U.1.2
     obtain⟨A,m,cap,e1,e2,e3,e4⟩:=hr;rcases e4 with ⟨rfl,h,h'⟩ | ⟨b0,off0,arr,e,rfl,hS,hw,hsz,t,hrr⟩
     ·have:=U.1;omega
     ·simp only[Qi,e1] at J
      rw[e1] at he;rcases ih he U.2 I J with h | ⟨o,h1,h2,h3⟩
      ·exact .inl h
      simp_all
    | h g i0=>
     cases p with
     | cons st p=>simp[setP] at I
     | nil=>
      obtain⟨A,m,cap,e1,e2,e3,b0,off0,arr,e,rfl,hS,hw,hsz,t,hrr⟩:=hr;simp only[Qi,e1,aLb,aLe] at J;exact .inl (J.1 ▸ hS)
    | z=>simp[setP] at I
    | x=>simp[setP] at I
    | p a b=>simp[setP] at I
  | int k=>cases st<;>simp[setP] at I
  | bool=>cases st<;>simp[setP] at I
  | str=>cases st<;>simp[setP] at I
  | fn1 a r rf=>cases st<;>simp[setP] at I
  | fn2 a b r=>cases st<;>simp[setP] at I
def newC (base:Option (Nat×Nat)) (w':World) (c:Nat->Option Value):Nat->Option Value:=match base with | some (b,o)=>Qd w' b o | none=>c
theorem ZK {d:(s:Sh)×s.den} {s:Sh} {y:s.den} (h:asS d s=some y):d=⟨s,y⟩:=by
 obtain⟨s',x⟩:=d;simp only[asS] at h
 grind
theorem QnQ {Z:Nat->Prop} {w:World}:∀(p:List Step) {S:Sh} {F:Fl} {J:Nat->Prop} {c:Nat->Option Value} {X U:S.den} {n:Dv} {r:Fl×S.den},
  setP S F X p true n=some r->RepC P S r.1 Z w J c U->RepC P S F Z w J c U:=by
 intro p;induction p with
 | nil=>
  intro S F J c X U n r I hr;simp only[setP,aLa,aLB] at I;obtain⟨y,_,I⟩:=I
  grind
 | cons st p ih=>
  intro S F J c X U n r I hr;cases S with
  | prod a a'=>
   cases st with
   | fst=>
    simp only[setP,aLd] at I;obtain⟨y,I,rfl⟩:=I;obtain⟨t,ra,rb⟩:=hr;exact⟨t,ih I (ra.flagx (Fl.fst_mk _ _)),rb.flagx (Fl.snd_mk _ _)⟩
   | snd=>
    simp only[setP,aLd] at I;obtain⟨y,I,rfl⟩:=I;obtain⟨t,ra,rb⟩:=hr;exact⟨t,ra.flagx (Fl.fst_mk _ _),ih I (rb.flagx (Fl.snd_mk _ _))⟩
   | idx i=>simp[setP] at I
   | sub l h=>simp[setP] at I
  | list s=>
   cases st with
   | fst=>simp[setP] at I
   | snd=>simp[setP] at I
   | sub l h=>simp[setP] at I
   | idx i=>
    cases F with
    | o g=>
     simp only[setP,aLd] at I
     grind
    | h g i0=>cases p<;>simp[setP] at I
    | z=>simp[setP] at I
    | x=>simp[setP] at I
    | p a b=>simp[setP] at I
  | int k=>cases st<;>simp[setP] at I
  | bool=>cases st<;>simp[setP] at I
  | str=>cases st<;>simp[setP] at I
  | fn1 a r rf=>cases st<;>simp[setP] at I
  | fn2 a b r=>cases st<;>simp[setP] at I
theorem RepC.put {Z T:Nat->Prop} {w w':World} {b off:Nat} {n:Dv} {cn:Nat->Option Value} (hT:RepC P n.sh n.fl Z w' T cn n.x) (hW:Wrote w w' b off n.sh.size cn) (hbZ:¬Z b) :
  ∀(p:List Step) {S:Sh} {F:Fl} {Sg:Nat->Prop} {c:Nat->Option Value} {X:S.den} {base:Option (Nat×Nat)} {r:Fl×S.den} {inl:Bool},
  RepC P S F Z w Sg c X->QG S X p->setP S F X p inl n=some r->Qi S base w c p=some (b,off)->
  (∀hb o,base=some (hb,o)->c=Qd w hb o/\¬Sg hb/\¬Z hb)->(∀i,T i->¬Sg i/\i ≠ b)->(∀i,Sg i->¬Z i)->(inl=false->Qhx S F p=true)->
  RepC P S r.1 Z w' (fun i=>Sg i\/T i) (newC base w' c) r.2:=by
 intro p;induction p with
 | nil=>
  intro S F Sg c X base r inl hr hp I ha J hTS hSZ hho;simp only[Qi] at ha;subst ha;simp only[setP,aLa] at I;obtain⟨y,hy,I⟩:=I;have hd:=ZK hy
  obtain⟨nsh,nfl,nx⟩:=n;simp only[aMy] at hd;obtain⟨rfl,hd⟩:=hd;have hd:=eq_of_heq hd
  subst hd;have h1:RepC P nsh nfl Z w' (fun i=>Sg i\/T i) (newC (some (b,off)) w' c) nx:=
   (hT.congr (fun k hk=>hW.in_ hk)).mono (fun _ h=>h) (fun _ h=>.inr h)
  cases inl
  ·simp only[aLC,aLb] at I;subst I;exact h1
  ·simp only[aLB] at I
   by_cases e:nfl=F
   ·subst e;simp at I;subst I;exact h1
   ·simp[e] at I
 | cons st p ih=>
  intro S F Sg c X base r inl hr hp I ha J hTS hSZ hho;have hr0:=hr
  have hin:=Qfu (st::p) hr hp I ha
  cases S with
  | prod a a'=>
   obtain⟨t,ra,rb⟩:=hr;cases st with
   | fst=>
    simp only[setP,aLd] at I;obtain⟨y,I,rfl⟩:=I;have hin:=Qfu p ra hp I ha
    have h1:=ih ra hp I ha (fun hb o h=>⟨(J hb o h).1,fun h'=>(J hb o h).2.1 h'.1,(J hb o h).2.2⟩) (fun i hi=>⟨fun h=>(hTS i hi).1 h.1,(hTS i hi).2⟩) (fun i hi=>hSZ i hi.1) hho
    refine⟨fun i=>t i || @decide (T i) (Classical.propDecidable _),(h1.mono (fun _ h=>h) (fun i hi=>?_)).flagx (Fl.fst_mk _ _).symm,?_⟩
    ·rcases hi with h | h
     ·exact⟨.inl h.1,by simp[h.2]⟩
     ·exact⟨.inr h,by simp[h]⟩
    ·have hb:∀i,(Sg i/\t i=false)\/Z i->i ≠ b:=by
      rintro i hi rfl;rcases hi with hi | hi
      ·rcases hin with h | ⟨o,h,_⟩
       ·rw[hi.2] at h;exact absurd h.2 (by simp)
       ·exact (J _ _ h).2.1 hi.1
      ·exact hbZ hi
     have h2:RepC P a' F.snd Z w' (fun i=>(Sg i\/T i)/\(t i || @decide (T i) (Classical.propDecidable _))=false) (fun k=>c (a.size+k)) X.2:=
      rb.frame (fun _ h=>h) (fun i hi=>⟨.inl hi.1,by have hni:¬T i:=fun h=>(hTS i h).1 hi.1;simp[hi.2,hni]⟩) (fun i hi=>hW.other i (hb i hi))
     refine (h2.congr (fun k hk=>?_)).flagx (Fl.snd_mk _ _).symm
     cases base with
     | none=>rfl
     | some u=>
      obtain⟨U,o⟩:=u;obtain⟨rfl,h3,h4⟩:=J U o rfl;show Qd w' U o (a.size+k)=Qd w U o (a.size+k)
      by_cases e:U=b
      ·subst e
       rcases hin with h | ⟨o',h,h5,h6⟩
       ·exact absurd h.1 h3
       ·simp only[aLb,aLe,true_and] at h
        subst h;exact hW.out (.inr (by omega))
      ·rw[hW.cellsAt_ne e]
   | snd=>
    simp only[setP,aLd] at I;obtain⟨y,I,rfl⟩:=I;have hin:=Qfu p rb hp I ha
    have h1:=ih rb hp I ha (fun hb o h=>by
     obtain⟨u,hu,hu'⟩:=aLd.1 h;simp only[aLe] at hu';obtain⟨h1,h2,h3⟩:=J u.1 u.2 (by rw[hu])
     refine⟨?_,fun h'=>h2 (hu'.1 ▸ h'.1),fun h'=>h3 (hu'.1 ▸ h')⟩
     funext k
     rw[h1,<-hu'.1,<-hu'.2];simp[Qd,aMh]) (fun i hi=>⟨fun h=>(hTS i hi).1 h.1,(hTS i hi).2⟩) (fun i hi=>hSZ i hi.1) hho
    refine⟨fun i=>t i&&!@decide (T i) (Classical.propDecidable _),?_,?_⟩
    ·have hb:∀i,(Sg i/\t i=true)\/Z i->i ≠ b:=by
      rintro i hi rfl;rcases hi with hi | hi
      ·rcases hin with h | ⟨o,h,_⟩
       ·rw[hi.2] at h;exact absurd h.2 (by simp)
       ·obtain⟨u,hu,hu'⟩:=aLd.1 h
        simp only[aLe] at hu';exact (J u.1 u.2 (by rw[hu])).2.1 (hu'.1 ▸ hi.1)
      ·exact hbZ hi
     have h2:RepC P a F.fst Z w' (fun i=>(Sg i\/T i)/\(t i&&!@decide (T i) (Classical.propDecidable _))=true) c X.1:=
      ra.frame (fun _ h=>h) (fun i hi=>⟨.inl hi.1,by have hni:¬T i:=fun h=>(hTS i h).1 hi.1;simp[hi.2,hni]⟩) (fun i hi=>hW.other i (hb i hi))
     refine (h2.congr (fun k hk=>?_)).flagx (Fl.fst_mk _ _).symm
     cases base with
     | none=>rfl
     | some u=>
      obtain⟨U,o⟩:=u;obtain⟨rfl,h3,h4⟩:=J U o rfl;show Qd w' U o k=Qd w U o k
      by_cases e:U=b
      ·subst e
       rcases hin with h | ⟨o',h,h5,h6⟩
       ·exact absurd h.1 h3
       ·simp only[aMn,aLb,aLe,true_and] at h
        subst h;exact hW.out (.inl (by omega))
      ·rw[hW.cellsAt_ne e]
    ·refine ((h1.mono (fun _ h=>h) (fun i hi=>?_)).congr (fun k hk=>?_)).flagx (Fl.snd_mk _ _).symm
     ·rcases hi with h | h
      ·exact⟨.inl h.1,by simp[h.2]⟩
      ·exact⟨.inr h,by simp[h]⟩
     ·cases base with
      | none=>rfl
      | some u=>simp[newC,Qd,aMh]
   | idx i=>simp[setP] at I
   | sub l h=>simp[setP] at I
  | list s=>
   cases st with
   | fst=>simp[setP] at I
   | snd=>simp[setP] at I
   | sub l h=>simp[setP] at I
   | idx i=>
    cases F with
    | o g=>
     simp only[setP,aLd] at I;obtain⟨y,I,rfl⟩:=I;have hi:=hp.1
     have he:=Qfb hr hp.1.1 hp.1.2
     obtain⟨A,m,cap,e1,e2,e3,e4⟩:=hr;rcases e4 with ⟨rfl,h,h'⟩ | ⟨b0,off0,arr,e,rfl,hS,hw,hsz,t,hrr⟩
     ·omega
     ·simp only[Qi,e1] at ha
      rw[e1] at he;have hg:List.getD X i.toNat s.dflt=X[i.toNat]'(by omega):=by rw[aLk,aLf (by omega)];rfl
      have hpe:=hp.2
      rw[hg] at I hpe;have hre:=hrr i.toNat (by omega)
      have hin':=Qfu p hre hpe I ha
      have hbSg:Sg b:=hin'.elim (·.1) (fun ⟨o,h,_⟩=>by simp only[aLb,aLe] at h;exact h.1 ▸ hS)
      have hb0Z:¬Z b0:=hSZ b0 hS
      have hTb0:∀i,T i->i ≠ b0:=by rintro i hi rfl;exact (hTS i hi).1 hS
      have h1:=ih hre hpe I ha (fun hb o h=>by
       simp only[aLb,aLe] at h;obtain⟨rfl,rfl⟩:=h;exact⟨rfl,fun h=>h.2.1 rfl,hb0Z⟩) (fun i hi=>⟨fun h=>(hTS i hi).1 h.1,(hTS i hi).2⟩) (fun i hi=>hSZ i hi.1) (fun h=>by cases h)
      have h2:=QnQ p I h1
      have hlen:(List.set X i.toNat y.2).length=X.length:=List.length_set
      have hblk:∃arr',w'.heap[b0]? = some (.cells arr' e (0,0))/\arr'.size=arr.size:=by
       by_cases eb:b0=b
       ·subst eb
        obtain⟨arr1,arr',e',h3,h4,h5,_⟩:=hW.blk;rw[hw] at h3;simp only[aLb,Obj.cells.injEq] at h3;obtain⟨rfl,rfl,_⟩:=h3;exact⟨arr',h4,h5⟩
       ·exact⟨arr,(hW.other b0 eb).trans hw,rfl⟩
      obtain⟨arr',hw',hsz'⟩:=hblk;have hc0:newC base w' c 0=c 0:=by
       cases base with
       | none=>rfl
       | some u=>
        obtain⟨U,o⟩:=u;obtain⟨rfl,h3,h4⟩:=J U o rfl;show Qd w' U o 0=Qd w U o 0
        rw[hW.cellsAt_ne (fun h=>h3 (by rw[h];exact hbSg))]
      refine⟨some ⟨b0,off0,none⟩,m,cap,by rw[hc0];exact e1,by rw[hlen];exact e2,e3,.inr ⟨b0,off0,arr',e,rfl,.inl hS,hw',by omega,fun k=>if @decide (T k) (Classical.propDecidable _)=true then i.toNat else t k,fun j hj=>?_⟩⟩
      by_cases ej:i.toNat=j
      ·subst ej
       have hx:(List.set X i.toNat y.2)[i.toNat]'(by rw[hlen];omega)=y.2:=by simp
       rw[hx];refine (h2.mono (fun _ h=>h) (fun k hk=>?_)).congr (fun k hk=>rfl)
       rcases hk with hk | hk
       ·refine⟨.inl hk.1,hk.2.1,?_⟩
        have hni:¬T k:=fun h=>(hTS k h).1 hk.1
        simp[hni,hk.2.2]
       ·exact⟨.inr hk,hTb0 k hk,by simp[hk]⟩
      ·have hx:(List.set X i.toNat y.2)[j]'(by rw[hlen];rw[hlen] at hj;exact hj)=X[j]'(by rw[hlen] at hj;exact hj):=by
        rw[List.getElem_set_ne ej]
       rw[hx];rw[hlen] at hj;have hb:∀k,(Sg k/\k ≠ b0/\t k=j)\/Z k->k ≠ b:=by
        rintro k hk rfl;rcases hk with hk | hk
        ·rcases hin' with h | ⟨o,h,_⟩
         ·exact ej (h.2.2.symm.trans hk.2.2)
         ·simp only[aLb,aLe] at h;exact hk.2.1 h.1.symm
        ·exact hbZ hk
       have h3:=(hrr j hj).frame (Z':=Z) (w':=w') (S':=fun k=>(Sg k\/T k)/\k ≠ b0/\(if @decide (T k) (Classical.propDecidable _)=true then i.toNat else t k)=j) (fun _ h=>h)
        (fun k hk=>⟨.inl hk.1,hk.2.1,by have hni:¬T k:=fun h=>(hTS k h).1 hk.1;simp[hni,hk.2.2]⟩) (fun k hk=>hW.other k (hb k hk))
       refine h3.congr (fun k hk=>?_)
       by_cases eb:b0=b
       ·subst eb
        rcases hin' with h | ⟨o,h,h5,h6⟩
        ·exact absurd rfl h.2.1
        ·simp only[aLb,aLe,true_and] at h
         subst h;show w'.cell? _=w.cell? _
         refine hW.out ?_;rcases Nat.lt_or_gt_of_ne ej with h | h
         ·right
          have:(i.toNat+1) * s.size<=j * s.size:=aLq _ h
          rw[aMq,aMF] at this;omega
         ·left
          have:(j+1) * s.size<=i.toNat * s.size:=aLq _ h
          rw[aMq,aMF] at this;omega
       ·rw[hW.cellsAt_ne eb]
    | h g i0=>
     cases p with
     | cons st p=>simp[setP] at I
     | nil=>
      cases inl with
      | true=>simp[setP] at I
      | false=>
       simp only[setP,aLa] at I;obtain⟨y,hy,I⟩:=I;have hd:=ZK hy
       obtain⟨nsh,nfl,nx⟩:=n;simp only[aMy] at hd;obtain⟨rfl,hd⟩:=hd;have hd:=eq_of_heq hd
       subst hd;by_cases ef:nfl=g
       case neg=>simp[ef] at I
       subst ef;simp only[aMc,aLB,aLb] at I;subst I;have hi0:i0=i.toNat:=by simpa [Qhx,Qer] using hho rfl
       subst hi0;have hi:=hp.1
       obtain⟨A,m,cap,e1,e2,e3,b0,off0,arr,e,rfl,hS,hw,hsz,t,hrr⟩:=hr;simp only[Qi,e1,aLb,aLe] at ha;obtain⟨rfl,rfl⟩:=ha;have hss:(⟨nsh,nfl,nx⟩:Dv).sh.size=nsh.size:=rfl
       have hTb0:∀k,T k->k ≠ b0:=fun k hk=>(hTS k hk).2
       have hlen:(List.set X i.toNat nx).length=X.length:=List.length_set
       have hblk:∃arr',w'.heap[b0]? = some (.cells arr' e (0,0))/\arr'.size=arr.size:=by
        obtain⟨arr1,arr',e',h3,h4,h5,_⟩:=hW.blk;rw[hw] at h3;simp only[aLb,Obj.cells.injEq] at h3;obtain⟨rfl,rfl,_⟩:=h3;exact⟨arr',h4,h5⟩
       obtain⟨arr',hw',hsz'⟩:=hblk;have hc0:newC base w' c 0=c 0:=by
        cases base with
        | none=>rfl
        | some u=>
         obtain⟨U,o⟩:=u;obtain⟨rfl,h3,h4⟩:=J U o rfl;show Qd w' U o 0=Qd w U o 0
         rw[hW.cellsAt_ne (fun h=>h3 (by rw[h];exact hS))]
       refine⟨some ⟨b0,off0,none⟩,m,cap,by rw[hc0];exact e1,by rw[hlen];exact e2,e3,.inr ⟨b0,off0,arr',e,rfl,.inl hS,hw',by omega,fun k=>if @decide (T k) (Classical.propDecidable _)=true then i.toNat else t k,fun j hj=>?_⟩⟩
       by_cases ej:i.toNat=j
       ·subst ej
        have hx:(List.set X i.toNat nx)[i.toNat]'(by rw[hlen];omega)=nx:=by simp
        rw[hx];exact (hT.congr (fun k hk=>hW.in_ hk)).mono (fun _ h=>h) (fun k hk=>⟨.inr hk,hTb0 k hk,by simp[hk]⟩)
       ·have hx:(List.set X i.toNat nx)[j]'(by rw[hlen];rw[hlen] at hj;exact hj)=X[j]'(by rw[hlen] at hj;exact hj):=by
         rw[List.getElem_set_ne ej]
        rw[hx];rw[hlen] at hj;have hb:∀k,(Sg k/\k ≠ b0/\t k=j)\/Z k->k ≠ b0:=by
         rintro k hk rfl;rcases hk with hk | hk
         ·exact hk.2.1 rfl
         ·exact hbZ hk
        have h3:=(hrr j hj (Ne.symm ej)).frame (w':=w') (fun _ h=>h) (fun k hk=>hk) (fun k hk=>hW.other k (hb k hk))
        refine (h3.mono (fun _ h=>h) (fun k hk=>⟨.inl hk.1,hk.2.1,?_⟩)).congr (fun k hk=>?_)
        ·refine hW.out ?_
         rcases Nat.lt_or_gt_of_ne ej with h | h
         ·right
          have:(i.toNat+1) * nsh.size<=j * nsh.size:=aLq _ h
          rw[aMq,aMF] at this;omega
         ·left
          have:(j+1) * nsh.size<=i.toNat * nsh.size:=aLq _ h
          rw[aMq,aMF] at this;omega
        ·have hni:¬T k:=fun h=>(hTS k h).1 hk.1
         simp[hni,hk.2.2]
    | z=>simp[setP] at I
    | x=>simp[setP] at I
    | p a b=>simp[setP] at I
  | int k=>cases st<;>simp[setP] at I
  | bool=>cases st<;>simp[setP] at I
  | str=>cases st<;>simp[setP] at I
  | fn1 a r rf=>cases st<;>simp[setP] at I
  | fn2 a b r=>cases st<;>simp[setP] at I
end Go.Dx
namespace Go.Dx
variable {P:Program}
inductive Tag where
 | none | fz | s (i:Nat) | b (i:Nat) | c (i:Nat) | fl (k:Nat)
 deriving DecidableEq
inductive Plc where
 | cells (hb off:Nat) | hdr (v:Value)
structure Gh where
 ow:Nat->Tag
 pl:Nat->Plc
def Gh.Z (g:Gh):Nat->Prop:=fun i=>g.ow i=.fz
def Gh.S (g:Gh) (t:Tag):Nat->Prop:=fun i=>g.ow i=t
def Ql (g:Gh) (a:Act) (w:World):Root->Nat->Option Value
 | .s i=>Qg (a.tmps.getD i undef)
 | .b i=>match g.pl i with | .cells hb off=>Qd w hb off | .hdr v=>Qg v
def QU (g:Gh):Root->Option (Nat×Nat)
 | .s _=>none
 | .b i=>match g.pl i with | .cells hb off=>some (hb,off) | .hdr _=>none
def Qh:(s:Sh)->Fl->List Step->Bool
 | _,_,[]=>true
 | .prod a _,f,.fst::r=>Qh a f.fst r
 | .prod _ b,f,.snd::r=>Qh b f.snd r
 | .list s,f,.idx _::r=>(match f with | .z=>true | .o _=>true | .h _ _=>true | _=>false)&&Qh s f.el r
 | .list s,f,.sub _ _::r=>Qh (.list s) f.sb r
 | _,_,_=>false
theorem ZE:∀(p:List Step) {S:Sh} {F:Fl} {X:S.den} {y:Dv},getP S F X p=some y->getS S p=some y.sh:=by
 intro p;induction p with
 | nil=>intro S F X y h;simp[getP] at h;subst h;simp[getS]
 | cons st p I=>
  intro S F X y h;cases S<;>cases st<;>first | (simp[getP] at h;done) | exact I h
def Qbq (g:Gh) (e:Env) (a:Act) (w:World) (r:Root) (ver:Nat) (p:List Step) (v:Value):Prop:=
 ver<=(e.root r).stampB p/\((e.root r).stampB p=ver->∀S F X,(e.root r).d=.v S F X->QG S X p/\
  (Qh S F p=true->∀s,getS S p=some s->Ys s v/\∀k,k<s.size->Qg v k=Qm w S (Ql g a w r) p k))
theorem Sh.size_prod (a b:Sh):(Sh.prod a b).size=a.size+b.size:=rfl
def offs:Sh->List Step->Nat
 | .prod a _,.fst::r=>offs a r
 | .prod a b,.snd::r=>a.size+offs b r
 | _,_=>0
theorem YO (w:World):∀(p:List Step) {S s:Sh} {c:Nat->Option Value},QK p=true->getS S p=some s->
  Qm w S c p=(fun k=>c (offs S p+k))/\(∀hb ho,Qi S (some (hb,ho)) w c p=some (hb,ho+offs S p))/\Qi S none w c p=none/\offs S p+s.size<=S.size:=by
 intro p;induction p with
 | nil=>
  intro S s c _ I;simp only[getS,aLb] at I;subst I;refine⟨?_,fun hb ho=>?_,by simp only[Qi],?_⟩
  ·simp only[Qm];funext k;cases S<;>simp[offs]
  ·simp only[Qi];cases S<;>simp[offs]
  ·cases S<;>simp[offs]
 | cons st p U=>
  intro S s c J I;cases S with
  | prod x y=>
   cases st with
   | fst=>
    obtain⟨h1,h2,h3,h4⟩:=U (c:=c) J I;exact⟨h1,h2,h3,by simp only[offs,Sh.size_prod];omega⟩
   | snd=>
    obtain⟨h1,h2,h3,h4⟩:=U J I;refine⟨?_,fun hb ho=>?_,h3,by simp only[offs,Sh.size_prod];omega⟩
    ·show Qm w y (fun k=>c (x.size+k)) p=_
     rw[h1];funext k;simp[offs,aMh]
    ·show Qi y (some (hb,ho+x.size)) w _ p=_
     rw[h2];simp[offs,aMh]
   | idx i=>simp[getS] at I
   | sub l h=>simp[getS] at I
  | list s'=>cases st<;>first | (simp[getS] at I;done) | (simp[QK] at J;done)
  | int k=>cases st<;>simp[getS] at I
  | bool=>cases st<;>simp[getS] at I
  | str=>cases st<;>simp[getS] at I
  | fn1 a r rf=>cases st<;>simp[getS] at I
  | fn2 a b r=>cases st<;>simp[getS] at I
theorem J3:∀(p:List Step) {S s:Sh} {F:Fl},QK p=true->getS S p=some s->Qh S F p=true:=by
 intro p;induction p with
 | nil=>intro S s F _ _;simp[Qh]
 | cons st p U=>intro S s F I J;cases S<;>cases st<;>first | (simp[getS] at J;done) | (simp[QK] at I;done) | exact U I J
theorem Qlz:∀(p:List Step) {S s:Sh} {X:S.den},QK p=true->getS S p=some s->QG S X p:=by
 intro p;induction p with
 | nil=>intro S s X _ _;simp[QG]
 | cons st p U=>intro S s X I J;cases S<;>cases st<;>first | (simp[getS] at J;done) | (simp[QK] at I;done) | exact U I J
theorem Qg2:∀(p:List Step) {S:Sh} {X:S.den},QK p=true->QG S X p->∃s,getS S p=some s:=by
 intro p;induction p with
 | nil=>intro S X _ _;exact⟨S,by simp[getS]⟩
 | cons st p U=>intro S X I J;cases S<;>cases st<;>first | (exact J.elim) | (simp[QK] at I;done) | exact U I J
def Qah (g:Gh) (e:Env) (a:Act) (w:World) (r:Root) (ver:Nat) (p:List Step) (v:Value):Prop:=
 (∃I,v=.pointer (some I))/\ver<=(e.root r).stamp p/\((e.root r).stamp p=ver->(p=[]->∃b o,QU g r=some (b,o)/\v=.pointer (some ⟨b,o,none⟩))/\
  ∀S F X,(e.root r).d=.v S F X->QG S X p/\
   (Qh S F p=true->∃b o,Qi S (QU g r) w (Ql g a w r) p=some (b,o)/\v=.pointer (some ⟨b,o,none⟩)))
def RpOk (P:Program) (g:Gh) (w:World) (s:Sh) (x:s.den) (v:Value):Prop:=
 ∃b o,v=.pointer (some ⟨b,o,none⟩)/\g.ow b=.fz/\RepC P s .z g.Z w QP (Qd w b o) x
def Qg3 (P:Program) (g:Gh) (w:World) (s:Sh) (x:s.den) (v:Value):Prop:=
 ∃hb ho b o,v=.pointer (some ⟨hb,ho,none⟩)/\g.ow hb=.fz/\Qd w hb ho 0=some (.pointer (some ⟨b,o,none⟩))/\g.ow b=.fz/\RepC P s .z g.Z w QP (Qd w b o) x
def Yl (P:Program) (g:Gh) (e:Env) (a:Act) (w:World) (t:Tag):Desc->Value->Prop
 | .dead,_=>True
 | .nil,v=>v=.slice none 0 0
 | .und,v=>v=undef
 | .v s f x,v=>RepV P s f g.Z w (g.S t) v x
 | .bor r ver p,v=>Qbq g e a w r ver p v
 | .loc r ver p,v=>Qah g e a w r ver p v
 | .rp s x,v=>RpOk P g w s x v
 | .rpp s x,v=>Qg3 P g w s x v
 | .clos _ _,_=>False
 | .tup _,_=>False
def Qs (P:Program) (g:Gh) (e:Env) (a:Act) (w:World) (t:Tag):Desc->Value->Prop
 | .clos j caps,v=>∃vs:List Value,v=.func (.func j) #[] vs.toArray/\vs.length=caps.length/\∀(i:Nat) (d:Desc) (u:Value),caps[i]? = some d->vs[i]? = some u->Z7 d=true/\Yl P g e a w .none d u
 | .tup l,v=>∃vs:Array Value,v=.tuple vs/\vs.size=l.length/\∃q:Nat->Nat,∀(i:Nat) (y:Dv) (u:Value),l[i]? = some y->vs[i]? = some u->RepV P y.sh y.fl g.Z w (fun j=>g.ow j=t/\q j=i) u y.x
 | d,v=>Yl P g e a w t d v
def Qmr (P:Program) (g:Gh) (e:Env) (a:Act) (w:World) (i:Nat):Desc->Prop
 | .dead=>True
 | .tup _=>False
 | .v S F X=>RepC P S F g.Z w (g.S (.b i)) (Ql g a w (.b i)) X/\
   (∀hb o,g.pl i=.cells hb o->g.ow hb=.c i/\∃arr ty,w.heap[hb]? = some (.cells arr ty (0,0))/\o+S.size<=arr.size)
 | d=>∃hb o,g.pl i=.cells hb o/\g.ow hb=.c i/\∃arr ty v,w.heap[hb]? = some (.cells arr ty (0,0))/\arr[o]? = some v/\v.cells = #[v]/\Qs P g e a w .none d v
structure Io where
 i:Nat
 hb:Nat
 o:Nat
 n:Nat
 arr:Array Value
 ty:TypeId
structure IoOk (g:Gh) (e:Env) (w:World) (q:Io):Prop where
 pl:g.pl q.i=.cells q.hb q.o
 ow:g.ow q.hb=.c q.i
 sz:∀S F X,(e.b q.i).d=.v S F X->S.size=q.n
 there:∃arr,w.heap[q.hb]? = some (.cells arr q.ty (0,0))/\arr.size=q.arr.size/\∀k,(k<q.o\/q.o+q.n<=k)->arr[k]? = q.arr[k]?
structure Base where
 w0:World
 may:Nat->Prop
 fz0:Nat->Prop
 ios:List Io
 n:Nat
 dm:Bool
 g0:World
 gk:∀i,i<g0.heap.size->fz0 i/\¬may i/\i<w0.heap.size/\w0.heap[i]? = g0.heap[i]?
structure Rel (P:Program) (B:Base) (g:Gh) (e:Env) (a:Act) (w:World):Prop where
 lens:a.tmps.size=e.sl.length/\e.sl.length=B.n
 defers:a.defers=[]
 sl:∀i,Qs P g e a w (.s i) (e.s i).d (a.tmps.getD i undef)
 bl:∀i,Qmr P g e a w i (e.b i).d
 st:StrD B.dm B.w0 w
 frame:∀i,i<B.w0.heap.size->¬B.may i->w.heap[i]? = B.w0.heap[i]?
 fz:∀i,B.fz0 i->g.ow i=.fz
 nn:∀i,i<B.w0.heap.size->¬B.may i->¬B.fz0 i->g.ow i=.none
 lt:∀i,g.ow i ≠ .none->i<w.heap.size
 ios:∀q,q ∈ B.ios->B.n<=q.i/\IoOk g e w q
theorem Rel.gok {B:Base} {g:Gh} {e:Env} {a:Act} {w:World} (h:Rel P B g e a w):∀i,i<B.g0.heap.size->g.ow i=.fz/\w.heap[i]? = B.g0.heap[i]?:=fun i hi=>
 let ⟨h1,h2,h3,h4⟩:=B.gk i hi
 ⟨h.fz i h1,(h.frame i h3 h2).trans h4⟩
theorem Rel.len {B:Base} {g:Gh} {e:Env} {a:Act} {w:World} (h:Rel P B g e a w):a.tmps.size=e.sl.length:=h.lens.1
theorem Qle {Z:Nat->Prop} {w w':World}:∀(p:List Step) {S:Sh} {F:Fl} {Sg:Nat->Prop} {c c':Nat->Option Value} {X:S.den} {base:Option (Nat×Nat)},
  RepC P S F Z w Sg c X->QG S X p->Qh S F p=true->(∀i,Sg i\/Z i->w'.heap[i]? = w.heap[i]?)->(∀k,k<S.size->c' k=c k)->
  (∀s,getS S p=some s->∀k,k<s.size->Qm w' S c' p k=Qm w S c p k)/\Qi S base w' c' p=Qi S base w c p:=by
 intro p;induction p with
 | nil=>
  intro S F Sg c c' X base r J I hw U;exact⟨fun s hs k hk=>by simp only[getS,aLb] at hs;subst hs;exact U k hk,by simp only[Qi]⟩
 | cons st p ih=>
  intro S F Sg c c' X base r J I hw U;cases S with
  | prod a b=>
   obtain⟨t,ra,rb⟩:=r;simp only[Sh.size] at U;cases st with
   | fst=>exact ih ra J I (fun i hi=>hw i (hi.imp (·.1) id)) (fun k hk=>U k (by omega))
   | snd=>exact ih rb J I (fun i hi=>hw i (hi.imp (·.1) id)) (fun k hk=>U _ (by omega))
   | idx i=>simp[Qh] at I
   | sub l h=>simp[Qh] at I
  | list s=>
   cases st with
   | fst=>simp[Qh] at I
   | snd=>simp[Qh] at I
   | sub l h=>
    have r':=QkK r J.1.1 J.1.2.1 J.1.2.2
    have hc0:c' 0=c 0:=U 0 (Sh.size_pos _)
    exact ih (base:=none) (c':=fun k=>if k=0 then QdX s l h (c' 0) else none) r' J.2 I hw (fun k hk=>by simp only[hc0])
   | idx i=>
    simp only[Qh,aLg] at I;have re:=Qfb r J.1.1 J.1.2
    have hc0:c' 0=c 0:=U 0 (Sh.size_pos _)
    have hb:∃b off n cap,c 0=some (.slice (some ⟨b,off,none⟩) n cap)/\(Sg b\/Z b):=by
     have:=J.1
     cases F with
     | z=>
      obtain⟨A,n,cap,e1,e2,e3,e4⟩:=r
      grind
     | o g=>
      obtain⟨A,n,cap,e1,e2,e3,e4⟩:=r
      grind
     | h g i0=>
      obtain⟨A,n,cap,e1,e2,e3,b,off,arr,e,rfl,hS,_⟩:=r;exact⟨b,off,n,cap,e1,.inl hS⟩
     | x=>simp at I
     | p a b=>simp at I
    obtain⟨b,off,n,cap,e1,hb⟩:=hb;rw[e1] at re;have:=ih (base:=some (b,off+i.toNat * s.size)) (c':=Qd w' b (off+i.toNat * s.size)) re J.2 I.2 hw (fun k _=>by rw[Zm (hw b hb)];rfl)
    simp only[Qm,Qi,hc0,e1,Qga];exact this
  | int k=>cases st<;>simp[Qh] at I
  | bool=>cases st<;>simp[Qh] at I
  | str=>cases st<;>simp[Qh] at I
  | fn1 a r rf=>cases st<;>simp[Qh] at I
  | fn2 a b r=>cases st<;>simp[Qh] at I
end Go.Dx
namespace Go.Dx
variable {P:Program}
def Qwr (P:Program) (g:Gh) (e:Env) (a:Act) (w:World) (g':Gh) (e':Env) (J:Act) (w':World) (r:Root):Prop:=
 (e.root r).ver<(e'.root r).ver\/((e'.root r).ver=(e.root r).ver/\QU g' r=QU g r/\∀S F' X,(e'.root r).d=.v S F' X->
  ∃F I,(e.root r).d=.v S F X/\(∀p,Qh S F' p=true->Qh S F p=true)/\RepC P S F g.Z w I (Ql g a w r) X/\(∀i,I i\/g.Z i->w'.heap[i]? = w.heap[i]?)/\
   ∀k,k<S.size->Ql g' J w' r k=Ql g a w r k)
def Qgy (g:Gh) (e:Env) (g':Gh) (e':Env) (r:Root):Prop:=
 (e.root r).id<(e'.root r).id\/((e'.root r).id=(e.root r).id/\QU g' r=QU g r/\∀S F' I,(e'.root r).d=.v S F' I->∃F X,(e.root r).d=.v S F X)
def QdR (g:Gh) (e:Env) (a:Act) (w:World) (g':Gh) (e':Env) (I:Act) (w':World) (r:Root):Prop:=
 (e.root r).hv<(e'.root r).hv\/((e'.root r).hv=(e.root r).hv/\∀S F' J,(e'.root r).d=.v S F' J->∃F X,(e.root r).d=.v S F X/\∀k,k<S.size->Ql g' I w' r k=Ql g a w r k)
def YQ (P:Program) (g:Gh) (e:Env) (a:Act) (w:World) (g':Gh) (e':Env) (I:Act) (w':World) (r:Root):Prop:=
 Qwr P g e a w g' e' I w' r/\Qgy g e g' e' r/\QdR g e a w g' e' I w' r
theorem Qbq.step {g g':Gh} {e e':Env} {a a':Act} {w w':World} {r:Root} {ver:Nat} {p:List Step} {v:Value}
  (h:Qbq g e a w r ver p v) (hk:YQ P g e a w g' e' a' w' r):Qbq g' e' a' w' r ver p v:=by
 cases I:QK p with
 | true=>
  simp[Qbq,Cel.stampB,I] at h ⊢;rcases hk.2.2 with hk | ⟨hk,hr⟩
  ·grind
  ·refine⟨by rw[hk];exact h.1,fun he S F' X' hd=>?_⟩
   obtain⟨F,X,U,hc⟩:=hr S F' X' hd;obtain⟨h1,h2⟩:=h.2 (by rw[<-hk];exact he) S F X U
   obtain⟨s,J⟩:=Qg2 p I h1;refine⟨Qlz p I J,fun _ s2 hs2=>?_⟩
   obtain⟨h3,h4⟩:=h2 (J3 p I J) s2 hs2;refine⟨h3,fun k hk2=>?_⟩
   rw[J] at hs2;simp at hs2;obtain⟨k1,_,_,k4⟩:=YO w p (c:=Ql g a w r) I J;obtain⟨k1',_⟩:=YO w' p (c:=Ql g' a' w' r) I J
   grind
 | false=>
  simp[Qbq,Cel.stampB,I,aLC] at h ⊢;rcases hk.1 with hk | ⟨hk,hA,hr⟩
  ·grind
  ·refine⟨by rw[hk];exact h.1,fun he S F' X hd=>?_⟩
   obtain⟨F,Sg,U,hf,h3,h4,h5⟩:=hr S F' X hd;obtain⟨h1,h2⟩:=h.2 (by rw[<-hk];exact he) S F X U
   refine⟨h1,fun I s J=>⟨(h2 (hf p I) s J).1,fun k hk=>?_⟩⟩
   rw[(h2 (hf p I) s J).2 k hk,(Qle (base:=none) p h3 h1 (hf p I) h4 h5).1 s J k hk]
theorem Qah.step {g g':Gh} {e e':Env} {a a':Act} {w w':World} {r:Root} {ver:Nat} {p:List Step} {v:Value}
  (h:Qah g e a w r ver p v) (hk:YQ P g e a w g' e' a' w' r):Qah g' e' a' w' r ver p v:=by
 cases I:QK p with
 | true=>
  simp only[Qah,Cel.stamp,I,aLB] at h ⊢;rcases hk.2.1 with hk | ⟨hk,U,hr⟩
  ·grind
  ·refine⟨h.1,by rw[hk];exact h.2.1,fun he=>?_⟩
   rw[hk] at he;refine⟨fun hp=>by rw[U];exact (h.2.2 he).1 hp,fun S F' X' hd=>?_⟩
   obtain⟨F,X,J⟩:=hr S F' X' hd;obtain⟨h1,h2⟩:=(h.2.2 he).2 S F X J;obtain⟨s,hs⟩:=Qg2 p I h1;refine⟨Qlz p I hs,fun _=>?_⟩
   obtain⟨b,o,h3,h4⟩:=h2 (J3 p I hs);obtain⟨_,k2,k3,_⟩:=YO w p (c:=Ql g a w r) I hs;obtain⟨_,k2',k3',_⟩:=YO w' p (c:=Ql g' a' w' r) I hs;cases hra:QU g r with
   | none=>simp_all
   | some u=>simp_all
 | false=>
  simp only[Qah,Cel.stamp,I,aLC] at h ⊢;rcases hk.1 with hk | ⟨hk,U,hr⟩
  ·grind
  ·refine⟨h.1,by rw[hk];exact h.2.1,fun he=>?_⟩
   rw[hk] at he;refine⟨fun hp=>by rw[U];exact (h.2.2 he).1 hp,fun S F' X hd=>?_⟩
   obtain⟨F,Sg,J,hf,h3,h4,h5⟩:=hr S F' X hd;obtain⟨h1,h2⟩:=(h.2.2 he).2 S F X J;refine⟨h1,fun I=>?_⟩
   rw[U,(Qle p h3 h1 (hf p I) h4 h5).2]
   simp_all
theorem RpOk.step {g g':Gh} {w w':World} {s:Sh} {x:s.den} {v:Value} (h:RpOk P g w s x v) (I:∀i,g.ow i=.fz->g'.ow i=.fz/\w'.heap[i]? = w.heap[i]?):RpOk P g' w' s x v:=by
 obtain⟨b,o,h1,h2,h3⟩:=h;refine⟨b,o,h1,(I b h2).1,?_⟩;rw[Zm (I b h2).2];exact h3.frame (fun i hi=>(I i hi).1) (fun _ h=>h) (fun i hi=>(I i (hi.resolve_left id)).2)
theorem Qg3.step {g g':Gh} {w w':World} {s:Sh} {x:s.den} {v:Value} (h:Qg3 P g w s x v) (I:∀i,g.ow i=.fz->g'.ow i=.fz/\w'.heap[i]? = w.heap[i]?):Qg3 P g' w' s x v:=by
 obtain⟨hb,ho,b,o,h1,h2,h3,h4,h5⟩:=h;refine⟨hb,ho,b,o,h1,(I hb h2).1,?_,(I b h4).1,?_⟩
 ·rw[Zm (I hb h2).2];exact h3
 ·rw[Zm (I b h4).2]
  exact h5.frame (fun i hi=>(I i hi).1) (fun _ h=>h) (fun i hi=>(I i (hi.resolve_left id)).2)
theorem Yl.step {g g':Gh} {e e':Env} {a J:Act} {w w':World} {t U:Tag} {d:Desc} {v:Value} (h:Yl P g e a w t d v)
  (I:∀i,g.ow i=.fz->g'.ow i=.fz/\w'.heap[i]? = w.heap[i]?) (ht:∀i,g.ow i=t->(g'.ow i=U/\w'.heap[i]? = w.heap[i]?)) (hk:∀r,YQ P g e a w g' e' J w' r):Yl P g' e' J w' U d v:=by
 cases d with
 | dead=>assumption
 | und=>exact h
 | nil=>exact h
 | v s f x=>exact RepV.frame (fun i hi=>(I i hi).1) (fun i hi=>(ht i hi).1) (fun i hi=>hi.elim (fun h=>(ht i h).2) (fun h=>(I i h).2)) h
 | bor r ver p=>exact Qbq.step h (hk r)
 | loc r ver p=>exact Qah.step h (hk r)
 | rp s x=>exact RpOk.step h I
 | rpp s x=>exact Qg3.step h I
 | clos j caps=>assumption
 | tup l=>assumption
theorem Yl.cap {g g':Gh} {e e':Env} {a U:Act} {w w':World} {d:Desc} {v:Value} (I:Z7 d=true) (h:Yl P g e a w .none d v)
  (J:∀i,g.ow i=.fz->g'.ow i=.fz/\w'.heap[i]? = w.heap[i]?) (hk:∀r,YQ P g e a w g' e' U w' r):Yl P g' e' U w' .none d v:=by
 cases d with
 | v s f x=>
  cases f with
  | z=>exact⟨h.1,((RepC.shared h.2).frame (fun i hi=>(J i hi).1) (fun _ h=>h) (fun i hi=>(J i (hi.resolve_left id)).2)).mono (fun _ h=>h) (fun _ h=>h.elim)⟩
  | x=>simp[Z7,Fl.isz] at I
  | o f=>simp[Z7,Fl.isz] at I
  | p a b=>simp[Z7,Fl.isz] at I
  | h f i=>simp[Z7,Fl.isz] at I
 | loc r ver p=>exact Qah.step h (hk r)
 | rp s x=>exact RpOk.step h J
 | rpp s x=>exact Qg3.step h J
 | dead=>assumption
 | und=>assumption
 | nil=>assumption
 | bor r ver p=>simp[Z7] at I
 | clos j caps=>assumption
 | tup l=>assumption
theorem Qs.step {g g':Gh} {e e':Env} {a U:Act} {w w':World} {t t':Tag} {d:Desc} {v:Value} (h:Qs P g e a w t d v)
  (I:∀i,g.ow i=.fz->g'.ow i=.fz/\w'.heap[i]? = w.heap[i]?) (J:∀i,g.ow i=t->(g'.ow i=t'/\w'.heap[i]? = w.heap[i]?)) (hk:∀r,YQ P g e a w g' e' U w' r):Qs P g' e' U w' t' d v:=by
 cases d with
 | clos j caps=>
  obtain⟨vs,h1,h2,h3⟩:=h;exact⟨vs,h1,h2,fun i d u hd hu=>⟨(h3 i d u hd hu).1,Yl.cap (h3 i d u hd hu).1 (h3 i d u hd hu).2 I hk⟩⟩
 | tup l=>
  obtain⟨vs,h1,h2,q,h3⟩:=h;exact⟨vs,h1,h2,q,fun i y u hy hu=>(h3 i y u hy hu).frame (fun i hi=>(I i hi).1) (fun j hj=>⟨(J j hj.1).1,hj.2⟩) (fun j hj=>hj.elim (fun h=>(J j h.1).2) (fun h=>(I j h).2))⟩
 | dead=>assumption
 | und=>assumption
 | nil=>assumption
 | v s f x=>exact Yl.step (d:=.v s f x) h I J hk
 | bor r ver p=>exact Yl.step (d:=.bor r ver p) h I J hk
 | loc r ver p=>exact Yl.step (d:=.loc r ver p) h I J hk
 | rp s x=>exact Yl.step (d:=.rp s x) h I J hk
 | rpp s x=>exact Yl.step (d:=.rpp s x) h I J hk
theorem Qs.bare {g g':Gh} {e e':Env} {a J:Act} {w w':World} {t U:Tag} {d:Desc} {v:Value} (hb:bare d=true) (h:Qs P g e a w t d v)
  (I:∀i,g.ow i=.fz->g'.ow i=.fz/\w'.heap[i]? = w.heap[i]?) (hk:∀r,YQ P g e a w g' e' J w' r):Qs P g' e' J w' U d v:=by
 cases d with
 | clos j caps=>
  obtain⟨vs,h1,h2,h3⟩:=h;exact⟨vs,h1,h2,fun i d u hd hu=>⟨(h3 i d u hd hu).1,Yl.cap (h3 i d u hd hu).1 (h3 i d u hd hu).2 I hk⟩⟩
 | tup l=>simp[Dx.bare] at hb
 | dead=>exact trivial
 | und=>exact h
 | nil=>exact h
 | v s f x=>
  cases f with
  | z=>exact⟨h.1,((RepC.shared h.2).frame (fun i hi=>(I i hi).1) (fun _ h=>h) (fun i hi=>(I i (hi.resolve_left id)).2)).mono (fun _ h=>h) (fun _ h=>h.elim)⟩
  | x=>simp[Dx.bare,Fl.isz] at hb
  | o f=>simp[Dx.bare,Fl.isz] at hb
  | p a b=>simp[Dx.bare,Fl.isz] at hb
  | h f i=>simp[Dx.bare,Fl.isz] at hb
 | bor r ver p=>exact Qbq.step h (hk r)
 | loc r ver p=>exact Qah.step h (hk r)
 | rp s x=>exact RpOk.step h I
 | rpp s x=>exact Qg3.step h I
theorem YQ.refl {g:Gh} {e:Env} {a:Act} {w:World} {r:Root} (h:∀S F X,(e.root r).d=.v S F X->∃I,RepC P S F g.Z w I (Ql g a w r) X):YQ P g e a w g e a w r:=
 ⟨.inr ⟨rfl,rfl,fun S F X hd=>let ⟨I,J⟩:=h S F X hd;⟨F,I,hd,fun _ h=>h,J,fun _ _=>rfl,fun _ _=>rfl⟩⟩,.inr ⟨rfl,rfl,fun S F X hd=>⟨F,X,hd⟩⟩,.inr ⟨rfl,fun S F X hd=>⟨F,X,hd,fun _ _=>rfl⟩⟩⟩
theorem Rel.root {B:Base} {g:Gh} {e:Env} {a:Act} {w:World} (h:Rel P B g e a w) (r:Root) {S:Sh} {F:Fl} {X:S.den} (hd:(e.root r).d=.v S F X) :
  RepC P S F g.Z w (g.S (match r with | .s i=>.s i | .b i=>.b i)) (Ql g a w r) X:=by
 cases r with
 | s i=>have:=h.sl i;rw[show (e.s i).d=.v S F X from hd] at this;exact this.2
 | b i=>have:=h.bl i;rw[show (e.b i).d=.v S F X from hd] at this;exact this.1
theorem Rel.stepD {B:Base} {g g':Gh} {e e':Env} {a a':Act} {w w':World} (h:Rel P B g e a w) (Cs Cb:Nat->Prop)
  (hlen:a'.tmps.size=e'.sl.length/\e'.sl.length=B.n) (hdef:a'.defers=[])
  (hs:∀i,¬Cs i->e'.s i=e.s i/\a'.tmps.getD i undef=a.tmps.getD i undef)
  (hb:∀i,¬Cb i->e'.b i=e.b i/\g'.pl i=g.pl i)
  (hsv:∀i,Cs i->(e.s i).ver<(e'.s i).ver) (hbv:∀i,Cb i->(e.b i).ver<(e'.b i).ver)
  (hsi:∀i,Cs i->Qgy g e g' e' (.s i)) (hbi:∀i,Cb i->Qgy g e g' e' (.b i))
  (hsh:∀i,Cs i->QdR g e a w g' e' a' w' (.s i)) (hbh:∀i,Cb i->QdR g e a w g' e' a' w' (.b i))
  (hz:∀i,g.ow i=.fz->g'.ow i=.fz/\w'.heap[i]? = w.heap[i]?)
  (hts:∀i j,¬Cs i->g.ow j=.s i->g'.ow j=.s i/\w'.heap[j]? = w.heap[j]?)
  (htb:∀i j,¬Cb i->g.ow j=.b i->g'.ow j=.b i/\w'.heap[j]? = w.heap[j]?)
  (htc:∀i j,¬Cb i->g.ow j=.c i->g'.ow j=.c i/\w'.heap[j]? = w.heap[j]?)
  (hst:StrD B.dm w w') (hfr:∀i,i<B.w0.heap.size->¬B.may i->w'.heap[i]? = w.heap[i]?)
  (hnn:∀i,i<B.w0.heap.size->¬B.may i->¬B.fz0 i->g'.ow i=.none)
  (hlt:∀i,g'.ow i ≠ .none->i<w'.heap.size)
  (hio:∀q,q ∈ B.ios->Cb q.i->B.n<=q.i->IoOk g e w q->IoOk g' e' w' q)
  (hns:(∀r,YQ P g e a w g' e' a' w' r)->∀i,Cs i->Qs P g' e' a' w' (.s i) (e'.s i).d (a'.tmps.getD i undef))
  (hnb:(∀r,YQ P g e a w g' e' a' w' r)->∀i,Cb i->Qmr P g' e' a' w' i (e'.b i).d):Rel P B g' e' a' w':=by
 have hk:∀r,YQ P g e a w g' e' a' w' r:=by
  intro r;cases r with
  | s i=>
   by_cases J:Cs i
   ·exact⟨.inl (hsv i J),hsi i J,hsh i J⟩
   ·refine⟨.inr ⟨by rw[show e'.root (.s i)=e.root (.s i) from (hs i J).1],rfl,fun S F X hd=>?_⟩,.inr ⟨by rw[show e'.root (.s i)=e.root (.s i) from (hs i J).1],rfl,fun S F X hd=>⟨F,X,by rw[show e'.root (.s i)=e.root (.s i) from (hs i J).1] at hd;exact hd⟩⟩,.inr ⟨by rw[show e'.root (.s i)=e.root (.s i) from (hs i J).1],fun S F X hd=>⟨F,X,by rw[show e'.root (.s i)=e.root (.s i) from (hs i J).1] at hd;exact hd,fun k _=>by simp only[Ql,(hs i J).2]⟩⟩⟩
    rw[show e'.root (.s i)=e.root (.s i) from (hs i J).1] at hd
    refine⟨F,_,hd,fun _ h=>h,h.root (.s i) hd,fun j hj=>?_,fun k _=>by simp only[Ql,(hs i J).2]⟩
    exact hj.elim (fun h=>(hts i j J h).2) (fun h=>(hz j h).2)
  | b i=>
   by_cases J:Cb i
   ·exact⟨.inl (hbv i J),hbi i J,hbh i J⟩
   ·have hp:=(hb i J).2
    have cc:∀S F X,(e.root (.b i)).d=.v S F X->∀k,Ql g' a' w' (.b i) k=Ql g a w (.b i) k:=fun S F X hd k=>by
     simp only[Ql,hp];cases hpl:g.pl i with
     | hdr v=>rfl
     | cells U o=>
      have I:=h.bl i
      rw[show (e.b i).d=.v S F X from hd] at I
      simp only[Zm (htc i U J (I.2 U o hpl).1).2]
    refine⟨.inr ⟨by rw[show e'.root (.b i)=e.root (.b i) from (hb i J).1],by simp only[QU,hp],fun S F X hd=>?_⟩,.inr ⟨by rw[show e'.root (.b i)=e.root (.b i) from (hb i J).1],by simp only[QU,hp],fun S F X hd=>⟨F,X,by rw[show e'.root (.b i)=e.root (.b i) from (hb i J).1] at hd;exact hd⟩⟩,
     .inr ⟨by rw[show e'.root (.b i)=e.root (.b i) from (hb i J).1],fun S F X hd=>by rw[show e'.root (.b i)=e.root (.b i) from (hb i J).1] at hd;exact⟨F,X,hd,fun k _=>cc S F X hd k⟩⟩⟩
    rw[show e'.root (.b i)=e.root (.b i) from (hb i J).1] at hd
    refine⟨F,_,hd,fun _ h=>h,h.root (.b i) hd,fun j hj=>?_,fun k _=>cc S F X hd k⟩
    exact hj.elim (fun h=>(htb i j J h).2) (fun h=>(hz j h).2)
 refine⟨hlen,hdef,fun i=>?_,fun i=>?_,h.st.trans hst,fun i hi hm=>(hfr i hi hm).trans (h.frame i hi hm),fun i hi=>(hz i (h.fz i hi)).1,hnn,hlt,fun q hq=>⟨(h.ios q hq).1,?_⟩⟩
 ·by_cases J:Cs i
  ·exact hns hk i J
  ·rw[(hs i J).1,(hs i J).2]
   exact Qs.step (h.sl i) hz (fun j hj=>hts i j J hj) hk
 ·by_cases J:Cb i
  ·exact hnb hk i J
  ·rw[(hb i J).1]
   have I:=h.bl i
   have hp:=(hb i J).2
   have other:∀d,(∃hb o,g.pl i=.cells hb o/\g.ow hb=.c i/\∃arr ty v,w.heap[hb]? = some (.cells arr ty (0,0))/\arr[o]? = some v/\v.cells = #[v]/\Qs P g e a w .none d v)->bare d=true->
     ∃hb o,g'.pl i=.cells hb o/\g'.ow hb=.c i/\∃arr ty v,w'.heap[hb]? = some (.cells arr ty (0,0))/\arr[o]? = some v/\v.cells = #[v]/\Qs P g' e' a' w' .none d v:=by
    rintro d ⟨U,o,h1,h2,arr,ty,v,h3,h4,h5,h6⟩ hd;exact⟨U,o,hp.trans h1,(htc i U J h2).1,arr,ty,v,(htc i U J h2).2.trans h3,h4,h5,h6.bare hd hz hk⟩
   cases hd:(e.b i).d with
   | dead=>exact trivial
   | und=>rw[hd] at I;exact other _ I rfl
   | v S F X=>
    rw[hd] at I;refine⟨?_,fun U o hpl=>?_⟩
    ·refine (I.1.frame (fun j hj=>(hz j hj).1) (fun j hj=>(htb i j J hj).1) (fun j hj=>hj.elim (fun h=>(htb i j J h).2) (fun h=>(hz j h).2))).congr (fun k _=>?_)
     simp only[Ql,hp];cases hpl:g.pl i with
     | hdr v=>rfl
     | cells U o=>simp only[Zm (htc i U J (I.2 U o hpl).1).2]
    ·rw[hp] at hpl
     obtain⟨h1,arr,ty,h2,h3⟩:=I.2 U o hpl;exact⟨(htc i U J h1).1,arr,ty,(htc i U J h1).2.trans h2,h3⟩
   | nil=>rw[hd] at I;exact other _ I rfl
   | bor r ver p=>rw[hd] at I;exact other _ I rfl
   | loc r ver p=>rw[hd] at I;exact other _ I rfl
   | rp s x=>rw[hd] at I;exact other _ I rfl
   | rpp s x=>rw[hd] at I;exact other _ I rfl
   | clos j caps=>rw[hd] at I;exact other _ I rfl
   | tup l=>
    rw[hd] at I;exact I.elim
 ·have hq':=(h.ios q hq).2
  by_cases J:Cb q.i
  ·exact hio q hq J (h.ios q hq).1 hq'
  ·have h1:=htc q.i q.hb J hq'.ow
   exact⟨(hb q.i J).2.trans hq'.pl,h1.1,fun S F X hd=>hq'.sz S F X (by rw[<-(hb q.i J).1];exact hd),by rw[h1.2];exact hq'.there⟩
theorem Rel.step {B:Base} {g g':Gh} {e e':Env} {a I:Act} {w w':World} (h:Rel P B g e a w) (Cs J:Nat->Prop)
  (hlen:I.tmps.size=e'.sl.length/\e'.sl.length=B.n) (U:I.defers=[])
  (hs:∀i,¬Cs i->e'.s i=e.s i/\I.tmps.getD i undef=a.tmps.getD i undef)
  (hb:∀i,¬J i->e'.b i=e.b i/\g'.pl i=g.pl i)
  (hsv:∀i,Cs i->(e.s i).ver<(e'.s i).ver) (hbv:∀i,J i->(e.b i).ver<(e'.b i).ver)
  (hsi:∀i,Cs i->Qgy g e g' e' (.s i)) (hbi:∀i,J i->Qgy g e g' e' (.b i))
  (hsh:∀i,Cs i->QdR g e a w g' e' I w' (.s i)) (hbh:∀i,J i->QdR g e a w g' e' I w' (.b i))
  (hz:∀i,g.ow i=.fz->g'.ow i=.fz/\w'.heap[i]? = w.heap[i]?)
  (hts:∀i j,¬Cs i->g.ow j=.s i->g'.ow j=.s i/\w'.heap[j]? = w.heap[j]?)
  (htb:∀i j,¬J i->g.ow j=.b i->g'.ow j=.b i/\w'.heap[j]? = w.heap[j]?)
  (htc:∀i j,¬J i->g.ow j=.c i->g'.ow j=.c i/\w'.heap[j]? = w.heap[j]?)
  (hst:Streams w w') (hfr:∀i,i<B.w0.heap.size->¬B.may i->w'.heap[i]? = w.heap[i]?)
  (hnn:∀i,i<B.w0.heap.size->¬B.may i->¬B.fz0 i->g'.ow i=.none)
  (hlt:∀i,g'.ow i ≠ .none->i<w'.heap.size)
  (hio:∀q,q ∈ B.ios->J q.i->B.n<=q.i->IoOk g e w q->IoOk g' e' w' q)
  (hns:(∀r,YQ P g e a w g' e' I w' r)->∀i,Cs i->Qs P g' e' I w' (.s i) (e'.s i).d (I.tmps.getD i undef))
  (hnb:(∀r,YQ P g e a w g' e' I w' r)->∀i,J i->Qmr P g' e' I w' i (e'.b i).d):Rel P B g' e' I w':=
 h.stepD Cs J hlen U hs hb hsv hbv hsi hbi hsh hbh hz hts htb htc hst.d hfr hnn hlt hio hns hnb
end Go.Dx
namespace Go.Dx
variable {P:Program}
def tagR:Root->Tag | .s i=>.s i | .b i=>.b i
theorem QiG {g g':Gh} {e:Env} {i:Nat} {d:Desc} (h:i<e.sl.length):Qgy g e g' (e.setS i d) (.s i):=
 .inl (by show (e.s i).id<((e.setS i d).s i).id;simp only[Env.setS,Env.s,upd,ZY,h];exact aMp _)
theorem Qhl {g g':Gh} {e:Env} {a I:Act} {w w':World} {i:Nat} {d:Desc} (h:i<e.sl.length):QdR g e a w g' (e.setS i d) I w' (.s i):=
 .inl (by show (e.s i).hv<((e.setS i d).s i).hv;simp only[Env.setS,Env.s,upd,ZY,h];exact aMp _)
theorem QqB {g g':Gh} {e:Env} {a I:Act} {w w':World} {i:Nat} {d:Desc} (h:i<e.bl.length):QdR g e a w g' (e.setB i d) I w' (.b i):=
 .inl (by show (e.b i).hv<((e.setB i d).b i).hv;simp only[Env.setB,Env.b,upd,ZY,h];exact aMp _)
theorem Qfq {l:Cs} {i:Nat} (h:l.length<=i):l.f i=Cel.dead:=l.out i h
theorem Env.lt_of_v {e:Env} {i:Nat} {S:Sh} {F:Fl} {X:S.den} (h:(e.s i).d=.v S F X):i<e.sl.length:=by
 rcases aMg i e.sl.length with I | I
 ·grind
 ·rw[Env.s,Qfq I] at h;cases h
theorem Env.ltb_of_v {e:Env} {i:Nat} {S:Sh} {F:Fl} {X:S.den} (h:(e.b i).d=.v S F X):i<e.bl.length:=by
 rcases aMg i e.bl.length with I | I
 ·grind
 ·rw[Env.b,Qfq I] at h;cases h
theorem Zv {e:Env} {r q:Root} {d:Desc} {S:Sh} {F:Fl} {X:S.den} (h:(e.root r).d=.v S F X):(e.flag r d).root q=if r=q then ⟨(e.root r).ver,d,(e.root r).id,(e.root r).hv⟩ else e.root q:=by
 cases r with
 | s i=>
  have I:=Env.lt_of_v h
  cases q with
  | s j=>simp[Env.flag,Env.root,Env.s,reflag,ZY,I,and_true]
  | b j=>rfl
 | b i=>
  have I:=Env.ltb_of_v h
  cases q with
  | s j=>rfl
  | b j=>simp[Env.flag,Env.root,Env.b,reflag,ZY,I,and_true]
theorem Qpy {e:Env} {r:Root} {d:Desc}:(e.flag r d).sl.length=e.sl.length:=by cases r<;>simp[Env.flag,reflag]
theorem ZN {g g':Gh} (h:g'.pl=g.pl) (a:Act) (w:World) (r:Root):Ql g' a w r=Ql g a w r:=by cases r<;>simp[Ql,h]
theorem Qi7 {g g':Gh} (h:g'.pl=g.pl) (r:Root):QU g' r=QU g r:=by cases r<;>simp[QU,h]
theorem Rel.flag {B:Base} {g g':Gh} {e:Env} {a:Act} {w:World} (h:Rel P B g e a w) (r:Root) {S:Sh} {F F':Fl} {X:S.den} (hd:(e.root r).d=.v S F X)
  (hf:∀p,Qh S F' p=true->Qh S F p=true) (hpl:g'.pl=g.pl)
  (hkeep:∀j,g'.ow j=g.ow j\/(g.ow j=tagR r/\(g'.ow j=.fz\/∃k,g'.ow j=.fl k)))
  (hrep:RepC P S F' g'.Z w (g'.S (tagR r)) (Ql g a w r) X):Rel P B g' (e.flag r (.v S F' X)) a w:=by
 have hz:∀i,g.ow i=.fz->g'.ow i=.fz/\w.heap[i]? = w.heap[i]?:=fun i hi=>⟨(hkeep i).elim (fun h=>h.trans hi) (fun h=>by rw[hi] at h;cases r<;>simp[tagR] at h),rfl⟩
 have ht:∀t,t ≠ tagR r->∀i,g.ow i=t->g'.ow i=t/\w.heap[i]? = w.heap[i]?:=fun t hne i hi=>⟨(hkeep i).elim (fun h=>h.trans hi) (fun h=>absurd (hi.symm.trans h.1) hne),rfl⟩
 have hk:∀q,YQ P g e a w g' (e.flag r (.v S F' X)) a w q:=by
  intro q;refine⟨.inr ⟨?_,Qi7 hpl q,fun S' F'' X' J=>?_⟩,.inr ⟨by rw[Zv hd];split<;>first | (rename_i e;subst e;rfl) | rfl,Qi7 hpl q,fun S' F'' X' J=>by
   rw[Zv hd] at J;split at J
   ·rename_i e;subst e
    simp only[Desc.v.injEq] at J;obtain⟨rfl,_,_⟩:=J;exact⟨F,X,hd⟩
   ·exact⟨F'',X',J⟩⟩,.inr ⟨by rw[Zv hd];split<;>first | (rename_i e;subst e;rfl) | rfl,fun S' F'' X' J=>by
   rw[Zv hd] at J;split at J
   ·rename_i e;subst e
    simp only[Desc.v.injEq] at J;obtain⟨rfl,_,_⟩:=J;exact⟨F,X,hd,fun k _=>by rw[ZN hpl]⟩
   ·exact⟨F'',X',J,fun k _=>by rw[ZN hpl]⟩⟩⟩
  ·rw[Zv hd];split
   ·rename_i e;subst e;rfl
   ·rfl
  ·rw[Zv hd] at J
   split at J
   ·rename_i e;subst e
    simp only[Desc.v.injEq] at J;obtain⟨rfl,rfl,hx⟩:=J;have hx:=eq_of_heq hx
    subst hx;exact⟨F,_,hd,hf,h.root r hd,fun _ _=>rfl,fun k _=>by rw[ZN hpl]⟩
   ·exact⟨F'',_,J,fun _ h=>h,h.root q J,fun _ _=>rfl,fun k _=>by rw[ZN hpl]⟩
 refine⟨⟨h.lens.1.trans Qpy.symm,Qpy.trans h.lens.2⟩,h.defers,fun i=>?_,fun i=>?_,h.st,h.frame,fun i hi=>(hz i (h.fz i hi)).1,fun i h1 h2 h3=>?_,fun i hi=>?_,fun q hq=>⟨(h.ios q hq).1,?_⟩⟩
 ·have hs:(e.flag r (.v S F' X)).s i=(e.flag r (.v S F' X)).root (.s i):=rfl
  rw[hs,Zv hd];by_cases hr:r=.s i
  ·subst hr
   rw[if_pos rfl];have:=h.sl i
   rw[show (e.s i).d=.v S F X from hd] at this
   exact⟨this.1,hrep⟩
  ·rw[if_neg hr]
   exact Qs.step (h.sl i) hz (ht _ (by rintro e;cases r<;>simp_all [tagR])) hk
 ·have hs:(e.flag r (.v S F' X)).b i=(e.flag r (.v S F' X)).root (.b i):=rfl
  rw[hs,Zv hd];have htc:∀i j,g.ow j=.c i->g'.ow j=.c i/\w.heap[j]? = w.heap[j]?:=fun i=>ht _ (by rintro e;cases r<;>simp[tagR] at e)
  by_cases hr:r=.b i
  ·subst hr
   rw[if_pos rfl];have:=h.bl i
   rw[show (e.b i).d=.v S F X from hd] at this
   refine⟨by rw[ZN hpl];exact hrep,fun hb o hp=>?_⟩
   rw[hpl] at hp;obtain⟨h1,h2⟩:=this.2 hb o hp;exact⟨(htc i hb h1).1,h2⟩
  ·rw[if_neg hr]
   have I:=h.bl i
   have other:∀d,(∃hb o,g.pl i=.cells hb o/\g.ow hb=.c i/\∃arr ty v,w.heap[hb]? = some (.cells arr ty (0,0))/\arr[o]? = some v/\v.cells = #[v]/\Qs P g e a w .none d v)->bare d=true->
     ∃hb o,g'.pl i=.cells hb o/\g'.ow hb=.c i/\∃arr ty v,w.heap[hb]? = some (.cells arr ty (0,0))/\arr[o]? = some v/\v.cells = #[v]/\Qs P g' (e.flag r (.v S F' X)) a w .none d v:=by
    rintro d ⟨hb',o,h1,h2,arr,ty,v,h3,h4,h5,h6⟩ hd;exact⟨hb',o,hpl ▸ h1,(htc i hb' h2).1,arr,ty,v,h3,h4,h5,h6.bare hd hz hk⟩
   show Qmr P g' _ a w i (e.b i).d
   cases U:(e.b i).d with
   | dead=>exact trivial
   | und=>rw[U] at I;exact other _ I rfl
   | v S2 F2 X2=>
    rw[U] at I;refine⟨?_,fun hb' o hp=>?_⟩
    ·rw[ZN hpl]
     exact I.1.mono (fun j hj=>(hz j hj).1) (fun j hj=>(ht (.b i) (by rintro e;cases r<;>simp_all [tagR]) j hj).1)
    ·rw[hpl] at hp
     obtain⟨h1,h2⟩:=I.2 hb' o hp;exact⟨(htc i hb' h1).1,h2⟩
   | nil=>rw[U] at I;exact other _ I rfl
   | bor r ver p=>rw[U] at I;exact other _ I rfl
   | loc r ver p=>rw[U] at I;exact other _ I rfl
   | rp s x=>rw[U] at I;exact other _ I rfl
   | rpp s x=>rw[U] at I;exact other _ I rfl
   | clos j caps=>rw[U] at I;exact other _ I rfl
   | tup l=>rw[U] at I;exact I.elim
 ·have:=h.nn i h1 h2 h3
  exact (hkeep i).elim (fun h=>h.trans this) (fun h=>by rw[this] at h;cases r<;>simp[tagR] at h)
 ·refine h.lt i fun h0=>?_
  rcases hkeep i with h1 | h1
  ·exact hi (h1.trans h0)
  ·rw[h0] at h1;cases r<;>simp[tagR] at h1
 ·have hq':=(h.ios q hq).2
  refine⟨by rw[hpl];exact hq'.pl,(ht (.c q.i) (by rintro e;cases r<;>simp[tagR] at e) q.hb hq'.ow).1,fun S2 F2 X2 U=>?_,hq'.there⟩
  rw[show (e.flag r (.v S F' X)).b q.i=(e.flag r (.v S F' X)).root (.b q.i) from rfl,Zv hd] at U
  split at U
  ·rename_i hr
   simp only[Desc.v.injEq] at U;obtain⟨rfl,_,_⟩:=U;exact hq'.sz S F X (by subst hr;exact hd)
  ·exact hq'.sz S2 F2 X2 U
theorem Qkl:∀(p:List Step) {S:Sh} {F:Fl},Qh S .x p=true->Qh S F p=true:=by
 intro p;induction p with
 | nil=>intro S F _;simp[Qh]
 | cons st p I=>
  intro S F h;cases S<;>cases st<;>first | (simp[Qh] at h;done) | exact I h | skip
theorem Qky:∀(q p:List Step) {S:Sh} {F F':Fl},setF S F q .x=some F'->Qh S F' p=true->Qh S F p=true:=by
 intro q;induction q with
 | nil=>intro p S F F' h I;simp only[setF,aLb] at h;subst h;exact Qkl p I
 | cons st q J=>
  intro p S F F' h I;cases S with
  | prod a b=>
   cases st with
   | fst=>
    simp only[setF,aLd] at h;obtain⟨f,h,rfl⟩:=h;cases p with
    | nil=>simp only[Qh]
    | cons st p=>cases st<;>simp only[Qh,Fl.fst_mk,Fl.snd_mk] at I ⊢<;>first | exact J _ h I | exact I | cases I
   | snd=>
    simp only[setF,aLd] at h;obtain⟨f,h,rfl⟩:=h;cases p with
    | nil=>simp only[Qh]
    | cons st p=>cases st<;>simp only[Qh,Fl.fst_mk,Fl.snd_mk] at I ⊢<;>first | exact J _ h I | exact I | cases I
   | idx i=>simp[setF] at h
   | sub l U=>simp[setF] at h
  | list s=>
   cases st with
   | fst=>simp[setF] at h
   | snd=>simp[setF] at h
   | sub l U=>simp[setF] at h
   | idx i=>
    cases q with
    | cons st q=>cases F<;>simp[setF] at h
    | nil=>
     cases F with
     | o f=>
      simp only[setF,aLb] at h;subst h;cases p with
      | nil=>simp only[Qh]
      | cons st p=>
       cases st with
       | fst=>simp[Qh] at I
       | snd=>simp[Qh] at I
       | sub l U=>exact Qkl (F:=.o f) p I
       | idx k=>
        simp only[Qh,aLg] at I ⊢;exact⟨by simp,Qkl p I.2⟩
     | z=>simp[setF] at h
     | x=>simp[setF] at h
     | p a b=>simp[setF] at h
     | h g i0=>simp[setF] at h
  | int k=>cases st<;>simp[setF] at h
  | bool=>cases st<;>simp[setF] at h
  | str=>cases st<;>simp[setF] at h
  | fn1 a r rf=>cases st<;>simp[setF] at h
  | fn2 a b r=>cases st<;>simp[setF] at h
theorem Qsu:∀(p:List Step) {S:Sh} {F:Fl},okS S F=true->Qh S .z p=true->Qh S F p=true:=by
 intro p;induction p with
 | nil=>intro S F _ _;simp[Qh]
 | cons st p I=>
  intro S F ho h;cases S with
  | prod a b=>
   simp[okS,aLg] at ho;cases st<;>first | (simp[Qh] at h;done) | exact I ho.1 h | exact I ho.2 h
  | list s=>
   cases st with
   | fst=>assumption
   | snd=>assumption
   | sub l U=>exact I (by cases F<;>first | exact ho | simp at ho) h
   | idx i=>
    simp only[Qh,aLg] at h ⊢;cases F with
    | z=>simp_all
    | o f=>
     have J:okS s f=true:=by simpa [okS] using ho
     exact⟨rfl,I J h.2⟩
    | x=>simp[okS] at ho
    | p a b=>simp[okS] at ho
    | h g i0=>simp[okS] at ho
  | int k=>cases st<;>simp[Qh] at h
  | bool=>cases st<;>simp[Qh] at h
  | str=>cases st<;>simp[Qh] at h
  | fn1 a r rf=>cases st<;>simp[Qh] at h
  | fn2 a b r=>cases st<;>simp[Qh] at h
theorem QoU:∀(q p:List Step) {S:Sh} {F F':Fl} {X:S.den} {y:Dv},setF S F q .z=some F'->getP S F X q=some y->okS y.sh y.fl=true->Qh S F' p=true->Qh S F p=true:=by
 intro q;induction q with
 | nil=>
  intro p S F F' X y h J ho I;simp[setF,aLb] at h;simp[getP,aLb] at J;subst h J;exact Qsu p ho I
 | cons st q U=>
  intro p S F F' X y h J ho I;cases S with
  | prod a b=>
   cases st with
   | fst=>
    simp[setF,aLd] at h;obtain⟨f,h,rfl⟩:=h;cases p with
    | nil=>rfl
    | cons st p=>cases st<;>simp[Qh,Fl.fst_mk,Fl.snd_mk] at I ⊢<;>first | exact U _ h J ho I | exact I | cases I
   | snd=>
    simp only[setF,aLd] at h;obtain⟨f,h,rfl⟩:=h;cases p with
    | nil=>rfl
    | cons st p=>cases st<;>simp only[Qh,Fl.fst_mk,Fl.snd_mk] at I ⊢<;>first | exact U _ h J ho I | exact I | cases I
   | idx i=>simp[setF] at h
   | sub l h'=>simp[setF] at h
  | list s=>cases F<;>cases st<;>cases q<;>simp[setF] at h
  | int k=>cases st<;>simp[setF] at h
  | bool=>cases st<;>simp[setF] at h
  | str=>cases st<;>simp[setF] at h
  | fn1 a r rf=>cases st<;>simp[setF] at h
  | fn2 a b r=>cases st<;>simp[setF] at h
end Go.Dx
namespace Go.Dx
variable {P:Program}
def QrQ:List Step->List Step
 | []=>[]
 | .sub l h::r=>.sub l h::r
 | _::r=>QrQ r
theorem Qf1:∀p:List Step,p=QjB p++QrQ p
 | []=>rfl
 | .sub _ _::_=>rfl
 | .fst::r=>congrArg (Step.fst :: ·) (Qf1 r)
 | .snd::r=>congrArg (Step.snd :: ·) (Qf1 r)
 | .idx i::r=>congrArg (Step.idx i :: ·) (Qf1 r)
theorem Qeu:∀(p:List Step) {S:Sh} {F:Fl} {X:S.den} {q:List Step},getP S F X (p++q)=(getP S F X p).bind fun y=>getP y.sh y.fl y.x q:=by
 intro p;induction p with
 | nil=>intro S F X q;simp[getP]
 | cons st p I=>
  intro S F X q;cases S<;>cases st<;>first | (simp[getP];done) | exact I
theorem Qe0 {w:World}:∀(p:List Step) {S s:Sh} {c:Nat->Option Value} {q:List Step},getS S p=some s->Qm w S c (p++q)=Qm w s (Qm w S c p) q:=by
 intro p;induction p with
 | nil=>intro S s c q h;simp[getS] at h;subst h;simp[Qm]
 | cons st p I=>
  intro S s c q h;cases S<;>cases st<;>first | (simp[getS] at h;done) | exact I h
theorem QjN:∀(p:List Step) {S:Sh} {F:Fl} {X:S.den} {q:List Step} {y:Dv},getP S F X p=some y->QG S X (p++q)->QG S X p/\QG y.sh y.x q:=by
 intro p;induction p with
 | nil=>intro S F X q y h I;simp[getP] at h;subst h;exact⟨by simp[QG],I⟩
 | cons st p J=>
  intro S F X q y h I;cases S<;>cases st<;>first | (simp[getP] at h;done) | exact J h I | exact⟨⟨I.1,(J h I.2).1⟩,(J h I.2).2⟩
theorem QtM:∀(p:List Step) {S:Sh} {X:S.den} {y:Dv},getP S .x X p=some y->y.fl=.x:=by
 intro p;induction p with
 | nil=>intro S X y h;simp[getP] at h;subst h;rfl
 | cons st p I=>intro S X y h;cases S<;>cases st<;>first | (simp[getP] at h;done) | exact I h
theorem Qez:∀(p:List Step) {S:Sh} {F:Fl} {X:S.den} {y:Dv},getP S F X p=some y->y.fl ≠ .x->Qh S F p=true:=by
 intro p;induction p with
 | nil=>intro S F X y _ _;simp[Qh]
 | cons st p I=>
  intro S F X y h ho;cases S with
  | prod a b=>cases st<;>first | (simp[getP] at h;done) | exact I h ho
  | list s=>
   cases st with
   | fst=>simp[getP] at h
   | snd=>simp[getP] at h
   | sub l J=>exact I h ho
   | idx i=>
    simp[Qh,aLg];refine⟨?_,I h ho⟩;cases F with
    | z=>rfl
    | o f=>rfl
    | x=>exact absurd (QtM p h) ho
    | p a b=>exact absurd (QtM p h) ho
    | h g i0=>rfl
  | int k=>cases st<;>simp[getP] at h
  | bool=>cases st<;>simp[getP] at h
  | str=>cases st<;>simp[getP] at h
  | fn1 a r rf=>cases st<;>simp[getP] at h
  | fn2 a b r=>cases st<;>simp[getP] at h
theorem RepV.shared {s:Sh} {Z:Nat->Prop} {w:World} {S S':Nat->Prop} {v:Value} {x:s.den} (h:RepV P s .z Z w S v x):RepV P s .z Z w S' v x:=
 ⟨h.1,(RepC.shared h.2).mono (fun _ h=>h) (fun _ h=>h.elim)⟩
theorem Qac {f:Fl} (h:f.isz=true):f=.z:=by cases f<;>simp_all [Fl.isz]
theorem Qmu:∀{s:Sh},okS s .z=true:=by
 intro s;induction s with
 | prod a b I J=>simp[okS,Fl.fst,Fl.snd,I,J]
 | _=>rfl
theorem Rel.look {B:Base} {g:Gh} {e:Env} {a:Act} {w:World} (h:Rel P B g e a w) {r:Root} {ver:Nat} {p:List Step} {y:Dv} (I:e.look r ver p=some y) :
  (e.root r).stampB p=ver/\∃S F X,(e.root r).d=.v S F X/\getP S F X p=some y:=by
 simp[Env.look] at I;cases hb:Nat.beq ((e.root r).stampB p) ver with
 | false=>simp_all
 | true=>
  refine⟨aLw hb,?_⟩
  grind
theorem Qjr {e:Env} {r:Root} {ver:Nat} {p:List Step} {y:Dv} (I:e.lookL r ver p=some y) :
  (e.root r).stamp p=ver/\∃S F X,(e.root r).d=.v S F X/\getP S F X p=some y:=by
 simp[Env.lookL] at I;cases hb:Nat.beq ((e.root r).stamp p) ver with
 | false=>simp_all
 | true=>
  refine⟨aLw hb,?_⟩
  grind
theorem Rel.bor {B:Base} {g:Gh} {e:Env} {a:Act} {w:World} (h:Rel P B g e a w) {r:Root} {ver:Nat} {p:List Step} {v:Value} {y:Dv} (hb:Qbq g e a w r ver p v) (J:e.look r ver p=some y)
  (U:y.fl ≠ .x):RepV P y.sh y.fl g.Z w (g.S (tagR r)) v y.x:=by
 obtain⟨hv,S,F,X,hd,I⟩:=h.look J;obtain⟨h1,h2⟩:=hb.2 hv S F X hd;obtain⟨h3,h4⟩:=h2 (Qez p I U) _ (ZE p I);have hr:=h.root r hd
 refine⟨h3,RepC.congr h4 (RepC.get p (hr.mono (fun _ h=>h) (fun i hi=>?_)) h1 I)⟩
 cases r<;>exact hi
structure Flight (g g':Gh) (k:Nat):Prop where
 pl:g'.pl=g.pl
 ow:∀i,g'.ow i=g.ow i\/(g'.ow i=.fl k/\((∃j,g.ow i=.s j)\/∃j,g.ow i=.b j))
theorem Flight.refl (g:Gh) (k:Nat):Flight g g k:=⟨rfl,fun _=>.inl rfl⟩
noncomputable def Gh.re (g:Gh) (T:Nat->Prop) (t:Tag):Gh:=⟨fun i=>@ite _ (T i) (Classical.propDecidable _) t (g.ow i),g.pl⟩
theorem Gh.re_in {g:Gh} {T:Nat->Prop} {t:Tag} {i:Nat} (h:T i):(g.re T t).ow i=t:=by simp[Gh.re,h]
theorem Gh.re_out {g:Gh} {T:Nat->Prop} {t:Tag} {i:Nat} (h:¬T i):(g.re T t).ow i=g.ow i:=by simp[Gh.re,h]
theorem Qee {B:Base} {g:Gh} {e e':Env} {a:Act} {w:World} (h:Rel P B g e a w) (k:Nat) (hk:∀i,g.ow i ≠ .fl k) {t:Option Nat} {d:Desc} {v:Value} {T:Tag} {want:Sh} {y:Dv}
  (hd:Qs P g e a w T d v) (ht:∀i,t=some i->(e.s i).d=d/\a.tmps.getD i undef=v/\T=.s i) (I:e.take t want d=some (e',y)) :
  ∃g',Flight g g' k/\Rel P B g' e' a w/\RepV P y.sh y.fl g'.Z w (g'.S (.fl k)) v y.x:=by
 cases d with
 | nil=>
  cases want with
  | list s=>
   simp only[Env.take,aLb,aLe] at I;obtain⟨rfl,rfl⟩:=I;have hv:v=.slice none 0 0:=hd
   subst hv;exact⟨g,.refl g k,h,rfl,none,0,0,rfl,rfl,aMb _,.inl ⟨rfl,rfl,rfl⟩⟩
  | _=>simp[Env.take] at I
 | v s f x=>
  simp only[Env.take] at I;cases hz:f.isz with
  | true=>
   rw[hz,aLB] at I;simp only[aLb,aLe] at I;obtain⟨rfl,rfl⟩:=I;obtain rfl:=Qac hz;exact⟨g,.refl g k,h,RepV.shared hd⟩
  | false=>
   rw[hz,aLC] at I;cases t with
   | none=>simp at I
   | some i=>
    simp only[aLb,aLe] at I;obtain⟨rfl,rfl⟩:=I;obtain⟨h1,h2,rfl⟩:=ht i rfl;have hi:=Env.lt_of_v h1
    have hS:∀j,(e.setS i .dead).s j=if i=j then ⟨(e.s i).ver+1,.dead,(e.s i).id+1,(e.s i).hv+1⟩ else e.s j:=by
     intro j;simp only[Env.setS,Env.s,upd,ZY,hi,and_true]
    have J:∀j,g.ow j ≠ .s i->(g.re (g.S (.s i)) (.fl k)).ow j=g.ow j:=fun j hj=>Gh.re_out hj
    refine⟨g.re (g.S (.s i)) (.fl k),⟨rfl,fun j=>?_⟩,?_,?_⟩
    ·by_cases hj:g.ow j=.s i
     ·exact .inr ⟨Gh.re_in hj,.inl ⟨i,hj⟩⟩
     ·exact .inl (J j hj)
    ·refine h.step (fun j=>j=i) (fun _=>False) (by simpa [Env.setS,upd] using h.lens) h.defers (fun j hj=>⟨by rw[hS,if_neg (Ne.symm hj)],rfl⟩) (fun j _=>⟨rfl,rfl⟩)
      (fun j hj=>by subst hj;rw[hS,if_pos rfl];exact aMp _) (fun _ h=>h.elim) (fun j hj=>by subst hj;exact QiG hi) (fun _ h=>h.elim) (fun j hj=>by subst hj;exact Qhl hi) (fun _ h=>h.elim) (fun j hj=>⟨(J j (by rw[hj];simp)).trans hj,rfl⟩)
      (fun j m hj hm=>⟨(J m (by rw[hm];simp;exact hj)).trans hm,rfl⟩) (fun j m hj hm=>⟨(J m (by rw[hm];simp)).trans hm,rfl⟩) (fun j m hj hm=>⟨(J m (by rw[hm];simp)).trans hm,rfl⟩)
      (Streams.refl _) (fun _ _ _=>rfl) (fun j h1 h2 h3=>?_) (fun j hj=>?_) (fun _ _ h=>h.elim) (fun _ j hj=>?_) (fun _ j hj=>hj.elim)
     ·have:=h.nn j h1 h2 h3;exact (J j (by rw[this];simp)).trans this
     ·refine h.lt j fun h0=>hj ?_;exact (J j (by rw[h0];simp)).trans h0
     ·subst hj;rw[hS,if_pos rfl];exact trivial
    ·refine RepV.frame (fun j hj=>(J j (by rw[hj];simp)).trans hj) (fun j hj=>Gh.re_in hj) (fun _ _=>rfl) hd
 | bor r ver p=>
  simp only[Env.take,aLa] at I;obtain⟨y0,hl,I⟩:=I;obtain⟨hv,S,F,X,hdr,hg⟩:=h.look hl;cases hz:y0.fl.isz with
  | true=>
   rw[hz,aLB] at I;simp only[aLb,aLe] at I;obtain⟨rfl,rfl⟩:=I;have hyz:=Qac hz
   have:=h.bor hd hl (by rw[hyz];simp)
   refine⟨g,.refl g k,h,?_⟩;obtain⟨sh,fl,x⟩:=y0;simp only at hyz;subst hyz;exact RepV.shared this
  | false=>
   rw[hz,aLC] at I;cases hxx:y0.fl.isx with
   | true=>rw[hxx,aLB] at I;cases I
   | false=>
   rw[hxx,aLC,hdr] at I;simp only[aLd,aLe] at I;obtain⟨F',hF',rfl,rfl⟩:=I;obtain⟨h1,h2⟩:=hd.2 hv S F X hdr;have hsp:=Qf1 p
   rw[hsp,Qeu] at hg;obtain⟨y1,hg1,hg2⟩:=aLa.1 hg;rw[hsp] at h1;obtain⟨hp1,hp2⟩:=QjN _ hg1 h1;have hroot:=h.root r hdr
   obtain⟨T0,hT0,hrep,hrest⟩:=RepC.take _ hroot hp1 hF' hg1;have hget:=RepC.get _ hrep hp2 hg2
   rw[<-Qe0 _ (ZE _ hg1),<-hsp] at hget;have hgg:getP S F X p=some y0:=by rw[hsp,Qeu];exact hg
   have U:∀j,T0 j->g.ow j=tagR r:=fun j hj=>by have:=hT0 j hj;cases r<;>exact this
   have hne:∀t,t ≠ tagR r->∀j,g.ow j=t->(g.re T0 (.fl k)).ow j=t:=fun t hne j hj=>(Gh.re_out fun hT=>hne (hj.symm.trans (U j hT))).trans hj
   refine⟨g.re T0 (.fl k),⟨rfl,fun j=>?_⟩,?_,?_⟩
   ·by_cases hj:T0 j
    ·refine .inr ⟨Gh.re_in hj,?_⟩
     have:=U j hj
     cases r with
     | s i=>exact .inl ⟨i,this⟩
     | b i=>exact .inr ⟨i,this⟩
    ·exact .inl (Gh.re_out hj)
   ·refine h.flag r hdr (fun q=>Qky _ q hF') rfl (fun j=>?_) ?_
    ·by_cases hj:T0 j
     ·exact .inr ⟨U j hj,.inr ⟨k,Gh.re_in hj⟩⟩
     ·exact .inl (Gh.re_out hj)
    ·refine hrest.mono (fun j hj=>hne .fz (by cases r<;>simp[tagR]) j hj) (fun j hj=>?_)
     refine (Gh.re_out hj.2).trans ?_;have:=hj.1;cases r<;>exact this
   ·
    have hx:y0.fl ≠ .x:=by intro hx;rw[hx] at hxx;cases hxx
    obtain⟨h3,h4⟩:=h2 (Qez p hgg hx) _ (ZE p hgg);refine⟨h3,RepC.congr h4 (hget.mono (fun j hj=>hne .fz (by cases r<;>simp[tagR]) j hj) (fun j hj=>Gh.re_in hj))⟩
 | dead=>simp[Env.take] at I
 | und=>simp[Env.take] at I
 | loc r ver p=>simp[Env.take] at I
 | rp s x=>simp[Env.take] at I
 | rpp s x=>simp[Env.take] at I
 | clos j caps=>simp[Env.take] at I
 | tup l=>simp[Env.take] at I
end Go.Dx
namespace Go.Dx
variable {P:Program}
theorem QuJ (a:Act) (d:Option Tmp) (v:Value):(a.put d v).tmps.size=a.tmps.size:=by cases d<;>simp[Act.put]
theorem put_defers (a:Act) (d:Option Tmp) (v:Value):(a.put d v).defers=a.defers:=by cases d<;>simp[Act.put]
theorem Qhd (a:Act) (i j:Nat) (v:Value) (h:i<a.tmps.size):(a.put (some i) v).tmps.getD j undef=if i=j then v else a.tmps.getD j undef:=by
 simp[Act.put]
 grind
theorem QfV {e:Env} {i j:Nat} {d:Desc} (h:i<e.sl.length):(e.setS i d).s j=if i=j then ⟨(e.s i).ver+1,d,(e.s i).id+1,(e.s i).hv+1⟩ else e.s j:=by
 simp[Env.setS,Env.s,upd,ZY,h]
theorem QpS {e:Env} {i j:Nat} {d:Desc} (h:i<e.bl.length):(e.setB i d).b j=if i=j then ⟨(e.b i).ver+1,d,(e.b i).id+1,(e.b i).hv+1⟩ else e.b j:=by
 simp[Env.setB,Env.b,upd,ZY,h]
theorem Rel.dst {B:Base} {g:Gh} {e:Env} {a:Act} {w:World} (h:Rel P B g e a w) (k:Nat) (dst:Option Tmp) {d:Desc} {v:Value} (hd:Qs P g e a w (.fl k) d v) :
  ∃g',g'.pl=g.pl/\(∀j,g'.ow j=g.ow j\/(∃i,g.ow j=.s i)\/g.ow j=.fl k)/\Rel P B g' (e.dst dst d) (a.put dst v) w:=by
 cases dst with
 | none=>exact⟨g,rfl,fun _=>.inl rfl,h⟩
 | some i=>
  by_cases hi:i<e.sl.length
  ·have J:i<a.tmps.size:=by rw[h.len];exact hi
   let ow':Nat->Tag:=fun j=>if g.ow j=.fl k then .s i else if g.ow j=.s i then .none else g.ow j
   have U:∀j,g.ow j=.fl k->ow' j=.s i:=fun j hj=>by simp[ow',hj]
   have I:∀j,g.ow j ≠ .fl k->g.ow j ≠ .s i->ow' j=g.ow j:=fun j h1 h2=>by simp[ow',h1,h2]
   have hz:∀j,g.ow j=.fz->ow' j=.fz:=fun j hj=>(I j (by rw[hj];simp) (by rw[hj];simp)).trans hj
   refine⟨⟨ow',g.pl⟩,rfl,fun j=>?_,?_⟩
   ·grind
   ·refine h.step (fun j=>j=i) (fun _=>False) (by rw[QuJ];simpa [Env.dst,Env.setS,upd] using h.lens) (by rw[put_defers];exact h.defers)
     (fun j hj=>⟨by show (e.setS i d).s j=_;rw[QfV hi,if_neg (Ne.symm hj)],by rw[Qhd a i j v J,if_neg (Ne.symm hj)]⟩) (fun j _=>⟨rfl,rfl⟩)
     (fun j hj=>by subst hj;show _<((e.setS j d).s j).ver;rw[QfV hi,if_pos rfl];exact aMp _) (fun _ h=>h.elim) (fun j hj=>by subst hj;exact QiG hi) (fun _ h=>h.elim) (fun j hj=>by subst hj;exact Qhl hi) (fun _ h=>h.elim) (fun j hj=>⟨hz j hj,rfl⟩)
     (fun j m hj hm=>⟨(I m (by rw[hm];simp) (by rw[hm];simp;exact hj)).trans hm,rfl⟩) (fun j m hj hm=>⟨(I m (by rw[hm];simp) (by rw[hm];simp)).trans hm,rfl⟩)
     (fun j m hj hm=>⟨(I m (by rw[hm];simp) (by rw[hm];simp)).trans hm,rfl⟩)
     (Streams.refl _) (fun _ _ _=>rfl) (fun j h1 h2 h3=>?_) (fun j hj=>?_) (fun _ _ h=>h.elim) (fun hk j hj=>?_) (fun _ j hj=>hj.elim)
    ·have:=h.nn j h1 h2 h3;exact (I j (by rw[this];simp) (by rw[this];simp)).trans this
    ·refine h.lt j fun h0=>hj ?_;exact (I j (by rw[h0];simp) (by rw[h0];simp)).trans h0
    ·subst hj
     rw[show (e.dst (some j) d).s j=⟨(e.s j).ver+1,d,(e.s j).id+1,(e.s j).hv+1⟩ by show (e.setS j d).s j=_;rw[QfV hi,if_pos rfl],Qhd a j j v J,if_pos rfl]
     exact Qs.step hd (fun m hm=>⟨hz m hm,rfl⟩) (fun m hm=>⟨U m hm,rfl⟩) hk
  ·have J:¬i<a.tmps.size:=by rw[h.len];exact hi
   refine⟨g,rfl,fun _=>.inl rfl,?_⟩
   have h1:e.dst (some i) d=e:=by
    show e.setS i d=e
    cases e with
    | mk sl bl=>simp only[Env.setS,upd,Env.mk.injEq,and_true];exact Cs.set_ge (Nat.le_of_not_lt hi)
   have h2:a.put (some i) v=a:=by
    cases a with
    | mk t df=>simp only[Act.put,Act.mk.injEq,and_true];exact Array.setIfInBounds_eq_of_size_le (Nat.le_of_not_lt J)
   rw[h1,h2];exact h
theorem Qs.any {g:Gh} {e:Env} {a:Act} {w:World} {t I:Tag} {d:Desc} {v:Value} (hb:Dx.bare d=true) (h:Qs P g e a w t d v):Qs P g e a w I d v:=by
 cases d with
 | v s f x=>
  cases f with
  | z=>exact RepV.shared h
  | x=>simp[Dx.bare,Fl.isz] at hb
  | o f=>simp[Dx.bare,Fl.isz] at hb
  | p a b=>simp[Dx.bare,Fl.isz] at hb
  | h f0 i0=>simp[Dx.bare,Fl.isz] at hb
 | tup l=>simp[Dx.bare] at hb
 | dead=>assumption
 | und=>exact h
 | nil=>exact h
 | bor r ver p=>exact h
 | loc r ver p=>exact h
 | rp s x=>exact h
 | rpp s x=>exact h
 | clos j c=>exact h
theorem QsA (s:ByteArray):(⟨s.data.toList.toArray⟩:ByteArray)=s:=by simp_all
theorem Qto {g:Gh} {e:Env} {a:Act} {w:World} (v:Value):Qs P g e a w .none (QiY v) v:=by
 unfold QiY;split
 ·exact⟨rfl,fun _=>rfl⟩
 ·exact⟨rfl,fun _=>rfl⟩
 ·rename_i s;exact⟨rfl,fun _=>by rw[QsA];rfl⟩
 ·rfl
 ·exact trivial
theorem QqP (v:Value):Dx.bare (QiY v)=true:=by unfold QiY;split<;>rfl
theorem QC {B:Base} {g:Gh} {e:Env} {a:Act} {w:World} (h:Rel P B g e a w) (x:Operand) :
  ∃T,Qs P g e a w T (e.opd x) (a.eval x)/\(∀i,x.slot=some i->(e.s i).d=e.opd x/\a.tmps.getD i undef=a.eval x/\T=.s i)/\(x.slot=none->Dx.bare (e.opd x)=true):=by
 cases x with
 | tmp t=>exact⟨.s t,h.sl t,fun i hi=>by simp[Operand.slot] at hi;subst hi;exact⟨rfl,rfl,rfl⟩,fun h=>by simp[Operand.slot] at h⟩
 | const v=>exact⟨.none,Qto v,fun i hi=>by simp[Operand.slot] at hi,fun _=>QqP v⟩
 | global I=>exact⟨.none,trivial,fun i hi=>by simp[Operand.slot] at hi,fun _=>rfl⟩
 | func f=>exact⟨.none,⟨[],rfl,rfl,fun i d u hd=>by simp at hd⟩,fun i hi=>by simp[Operand.slot] at hi,fun _=>rfl⟩
theorem QgA {B:Base} {g:Gh} {e:Env} {a:Act} {w:World} (h:Rel P B g e a w) {T:Tag} {d:Desc} {v:Value} {y:Dv} (hd:Qs P g e a w T d v) (hv:e.val d=some y) (I:y.fl ≠ .x) :
  ∃S,RepV P y.sh y.fl g.Z w S v y.x/\∀i,S i->g.ow i=T\/∃r,g.ow i=tagR r:=by
 cases d with
 | v s f x=>simp[Env.val] at hv;subst hv;exact⟨_,hd,fun i hi=>.inl hi⟩
 | bor r ver p=>exact⟨_,h.bor hd hv I,fun i hi=>.inr ⟨r,hi⟩⟩
 | dead=>simp[Env.val] at hv
 | und=>simp[Env.val] at hv
 | nil=>simp[Env.val] at hv
 | loc r ver p=>simp[Env.val] at hv
 | rp s x=>simp[Env.val] at hv
 | rpp s x=>simp[Env.val] at hv
 | clos j c=>simp[Env.val] at hv
 | tup l=>simp[Env.val] at hv
theorem Yo {s:Sh} {f:Fl} (h:okS s f=true):f ≠ .x:=by rintro rfl;rw[Qw5] at h;cases h
theorem QbC {B:Base} {g:Gh} {e:Env} {a:Act} {w:World} (h:Rel P B g e a w) {T:Tag} {d:Desc} {v:Value} {y:(s:Sh)×s.den} (hd:Qs P g e a w T d v) (hv:e.rd d=some y) :
  ∃S f,okS y.1 f=true/\RepV P y.1 f g.Z w S v y.2/\∀i,S i->g.ow i=T\/∃r,g.ow i=tagR r:=by
 simp[Env.rd,aLa] at hv;obtain⟨u,hu,hv⟩:=hv;cases ho:okS u.sh u.fl with
 | false=>simp_all
 | true=>
  simp[ho] at hv;subst hv;obtain⟨S,h1,h2⟩:=QgA h hd hu (Yo ho)
  grind
theorem Jm {k:IntKind} {f:Fl} {Z S:Nat->Prop} {w:World} {v:Value} {n:Int} (ho:okS (.int k) f=true) (h:RepV P (.int k) f Z w S v n):v=.int k n:=by
 have h1:v.cells = #[v]:=h.1
 have h2:=h.2 (Yo ho)
 simp[Qg] at h2
 simp_all
theorem Qfj {f:Fl} {Z S:Nat->Prop} {w:World} {v:Value} {b:Bool} (ho:okS .bool f=true) (h:RepV P .bool f Z w S v b):v=.bool b:=by
 have h1:v.cells = #[v]:=h.1
 have h2:=h.2 (Yo ho)
 simp[Qg] at h2
 simp_all
theorem JV {f:Fl} {Z S:Nat->Prop} {w:World} {v:Value} {l:List UInt8} (ho:okS .str f=true) (h:RepV P .str f Z w S v l):v=.string ⟨l.toArray⟩:=by
 have h1:v.cells = #[v]:=h.1
 have h2:=h.2 (Yo ho)
 simp[Qg] at h2
 simp_all
theorem QuN {s:Sh} {f:Fl} {Z S:Nat->Prop} {w:World} {v:Value} {l:List s.den} (ho:okS (.list s) f=true) (h:RepV P (.list s) f Z w S v l):∃A cap,v=.slice A l.length cap/\l.length<=cap:=by
 have h1:v.cells = #[v]:=h.1
 cases f with
 | z=>obtain⟨A,n,cap,h2,h3,h4,_⟩:=h.2;simp only[Qg,h1] at h2;simp at h2;subst h2;subst h3;exact⟨A,cap,rfl,h4⟩
 | o g=>obtain⟨A,n,cap,h2,h3,h4,_⟩:=h.2;simp only[Qg,h1] at h2;simp at h2;subst h2;subst h3;exact⟨A,cap,rfl,h4⟩
 | x=>simp[okS] at ho
 | p a b=>simp[okS] at ho
 | h f0 i0=>simp[okS] at ho
theorem QbM {k:IntKind} {Z S:Nat->Prop} {w:World} (n:Int):RepV P (.int k) .z Z w S (.int k n) n:=⟨rfl,fun _=>rfl⟩
theorem QbY {Z S:Nat->Prop} {w:World} (b:Bool):RepV P .bool .z Z w S (.bool b) b:=⟨rfl,fun _=>rfl⟩
theorem QfF {Z S:Nat->Prop} {w:World} (l:List UInt8):RepV P .str .z Z w S (.string ⟨l.toArray⟩) l:=⟨rfl,fun _=>rfl⟩
def Eff.gives:Eff->Env->Prop
 | .done e,e'=>e'=e
 | .grd c e,e'=>c=true/\e'=e
 | .call _ m f,e'=>∃y,m=some y/\f y=some e'
theorem Qg0 {R:Type} {x:Option Eff} {k:Env->Option R} {r:R} (h:runE x k=some r):∃f e',x=some f/\f.gives e'/\k e'=some r:=by
 cases x with
 | none=>simp[runE] at h
 | some f=>
  cases f with
  | done e=>exact⟨_,e,rfl,rfl,h⟩
  | grd c e=>
   cases c with
   | false=>simp[runE] at h
   | true=>exact⟨_,e,rfl,⟨rfl,rfl⟩,h⟩
  | call β m f=>
   simp[runE,aLa] at h;obtain⟨y,hm,h⟩:=h;cases I:f y with
   | none=>simp_all
   | some e=>exact⟨_,e,rfl,⟨y,hm,I⟩,by simpa [I] using h⟩
def QD (P:Program) (B:Base) (a:Act) (w:World) (o:Oper) (e':Env):Prop:=
 ∀(K:Act->World->Prop) (Q:Exit->Act->World->Prop),(∀g' I w',Rel P B g' e' I w'->(∃v,I=a.put o.dst v)->K I w')->o.wp P a w K Q
theorem QD.value {B:Base} {a:Act} {w w':World} {o:Oper} {e':Env} {v:Value} (I:(execOp a.eval o).run P w=.ok (.value v) w') (h:∃g',Rel P B g' e' (a.put o.dst v) w'):QD P B a w o e':=by
 intro K Q J;obtain⟨g',h⟩:=h;unfold Oper.wp;rw[I];exact J _ _ _ h ⟨_,rfl⟩
theorem QD.skip {B:Base} {a:Act} {w w':World} {o:Oper} {e':Env} (I:(execOp a.eval o).run P w=.ok .skip w') (h:∃g',Rel P B g' e' (a.put o.dst undef) w'):QD P B a w o e':=by
 intro K Q J;obtain⟨g',h⟩:=h;unfold Oper.wp;rw[I];exact J _ _ _ h ⟨_,rfl⟩
end Go.Dx
namespace Go.Dx
variable {P:Program} {B:Base} {g:Gh} {e:Env} {a:Act} {w:World} {C:Ctx}
theorem Rel.clean (h:Rel P B g e a w):∃g',g'.pl=g.pl/\(∀i k,g'.ow i ≠ .fl k)/\Rel P B g' e a w:=by
 let ow':Nat->Tag:=fun j=>match g.ow j with | .fl _=>.none | t=>t
 have I:∀i k,ow' i ≠ .fl k:=by
  grind
 have ho:∀i,(∀k,g.ow i ≠ .fl k)->ow' i=g.ow i:=by
  grind
 refine⟨⟨ow',g.pl⟩,rfl,I,?_⟩;exact h.step (fun _=>False) (fun _=>False) h.lens h.defers (fun _ _=>⟨rfl,rfl⟩) (fun _ _=>⟨rfl,rfl⟩) (fun _ h=>h.elim) (fun _ h=>h.elim) (fun _ h=>h.elim) (fun _ h=>h.elim) (fun _ h=>h.elim) (fun _ h=>h.elim)
  (fun i hi=>⟨(ho i (by rw[hi];simp)).trans hi,rfl⟩) (fun i j _ hj=>⟨(ho j (by rw[hj];simp)).trans hj,rfl⟩) (fun i j _ hj=>⟨(ho j (by rw[hj];simp)).trans hj,rfl⟩) (fun i j _ hj=>⟨(ho j (by rw[hj];simp)).trans hj,rfl⟩)
  (Streams.refl _) (fun _ _ _=>rfl) (fun i h1 h2 h3=>(ho i (by rw[h.nn i h1 h2 h3];simp)).trans (h.nn i h1 h2 h3)) (fun i hi=>h.lt i fun h0=>hi (by show ow' i=.none;simp[ow',h0])) (fun _ _ h=>h.elim) (fun _ _ h=>h.elim) (fun _ _ h=>h.elim)
theorem QmZ {B:Base} {g:Gh} {e:Env} {a:Act} {w:World} (h:Rel P B g e a w) (r:Root) {S:Sh} {F F':Fl} {X:S.den} {p:List Step} {y:Dv} (hd:(e.root r).d=.v S F X)
  (hg:getP S F X p=some y) (ho:okS y.sh y.fl=true) (hF:setF S F p .z=some F') :
  ∃g',g'.pl=g.pl/\(∀j,g'.ow j=g.ow j\/(g.ow j=tagR r/\g'.ow j=.fz))/\Rel P B g' (e.flag r (.v S F' X)) a w:=by
 have J:=h.root r hd
 obtain⟨T0,hT0,U⟩:=RepC.share _ J hF hg ho;have I:∀j,T0 j->g.ow j=tagR r:=fun j hj=>by have:=hT0 j hj;cases r<;>exact this
 refine⟨g.re T0 .fz,rfl,fun j=>?_,?_⟩
 ·by_cases hj:T0 j
  ·exact .inr ⟨I j hj,Gh.re_in hj⟩
  ·exact .inl (Gh.re_out hj)
 ·refine h.flag r hd (fun q=>QoU _ q hF hg ho) rfl (fun j=>?_) ?_
  ·by_cases hj:T0 j
   ·exact .inr ⟨I j hj,.inl (Gh.re_in hj)⟩
   ·exact .inl (Gh.re_out hj)
  ·refine U.mono (fun j hj=>?_) (fun j hj=>(Gh.re_out hj.2).trans (by have:=hj.1;cases r<;>exact this))
   rcases hj with hj | hj
   ·exact (Gh.re_out fun hT=>by have:=I j hT;rw[show g.ow j=.fz from hj] at this;cases r<;>simp[tagR] at this).trans hj
   ·exact Gh.re_in hj
theorem Env.freeze_some {e e':Env} {r:Root} {p:List Step} (I:e.freeze r p=some e'):∃S F X y F',(e.root r).d=.v S F X/\getP S F X (QjB p)=some y/\okS y.sh y.fl=true/\setF S F (QjB p) .z=some F'/\e'=e.flag r (.v S F' X):=by
 unfold Env.freeze at I;split at I
 ·rename_i S F X hd
  obtain⟨y,J,I⟩:=aLa.1 I;cases ho:okS y.sh y.fl with
  | false=>simp_all
  | true=>
   rw[ho] at I;obtain⟨F',U,rfl⟩:=aLd.1 I
   grind
 simp_all
theorem Qxb (h:Rel P B g e a w) {r:Root} {ver:Nat} {p:List Step} {v:Value} {y:Dv} (hb:Qbq g e a w r ver p v) (J:e.look r ver p=some y) (I:y.fl=.z) {T:Tag}:Qs P g e a w T (.v y.sh .z y.x) v:=by
 have:=h.bor hb J (by rw[I];simp)
 obtain⟨sh,fl,x⟩:=y;simp only at I;subst I;exact RepV.shared this
theorem Qr0 (h:Rel P B g e a w) {r:Root} {ver:Nat} {p:List Step} {v:Value} {y:Dv} {e':Env} (hb:Qbq g e a w r ver p v) (hl:e.look r ver p=some y) (ho:okS y.sh y.fl=true)
  (hf:e.freeze r p=some e'):∃g',g'.pl=g.pl/\(∀j,g'.ow j=g.ow j\/(g.ow j=tagR r/\g'.ow j=.fz))/\Rel P B g' e' a w/\RepV P y.sh .z g'.Z w QP v y.x:=by
 obtain⟨S,F,X,y1,F',hd,U,ho1,hF,rfl⟩:=Env.freeze_some hf;obtain⟨g',hpl,hk,J⟩:=QmZ h r hd U ho1 hF;refine⟨g',hpl,hk,J,?_⟩;obtain⟨hv,S2,F2,X2,hd2,hg⟩:=h.look hl;rw[hd] at hd2;simp at hd2;obtain⟨rfl,rfl,hx⟩:=hd2;subst hx;obtain⟨h1,h2⟩:=hb.2 hv S F X hd;have hsp:=Qf1 p
 have hd':((e.flag r (.v S F' X)).root r).d=.v S F' X:=by rw[Zv hd,if_pos rfl]
 have I:=J.root r hd'
 have hget0:∀(q:List Step) {S:Sh} {F F':Fl} {X:S.den} {y:Dv},setF S F q .z=some F'->getP S F X q=some y->getP S F' X q=some ⟨y.sh,.z,y.x⟩:=by
  intro q;induction q with
  | nil=>intro S F F' X y h1 h2;simp only[setF,aLb] at h1;simp only[getP,aLb] at h2;subst h1 h2;simp only[getP]
  | cons st q ih=>
   intro S F F' X y h1 h2;cases S with
   | prod a b=>
    cases st with
    | fst=>simp only[setF,aLd] at h1;obtain⟨f,h1,rfl⟩:=h1;simp only[getP,Fl.fst_mk] at h2 ⊢;exact ih h1 h2
    | snd=>simp only[setF,aLd] at h1;obtain⟨f,h1,rfl⟩:=h1;simp only[getP,Fl.snd_mk] at h2 ⊢;exact ih h1 h2
    | idx i=>simp[setF] at h1
    | sub l h'=>simp[setF] at h1
   | list s=>cases st<;>simp[setF] at h1
   | int k=>cases st<;>simp[setF] at h1
   | bool=>cases st<;>simp[setF] at h1
   | str=>cases st<;>simp[setF] at h1
   | fn1 a r rf=>cases st<;>simp[setF] at h1
   | fn2 a b r=>cases st<;>simp[setF] at h1
 have hgz:∀(q:List Step) {S:Sh} {F:Fl} {X:S.den} {y:Dv},getP S F X q=some y->getP S .z X q=some ⟨y.sh,.z,y.x⟩:=by
  intro q;induction q with
  | nil=>intro S F X y h2;simp only[getP,aLb] at h2;subst h2;simp only[getP]
  | cons st q ih=>intro S F X y h2;cases S<;>cases st<;>first | (simp[getP] at h2;done) | exact ih h2
 have hg':getP S F' X p=some ⟨y.sh,.z,y.x⟩:=by
  rw[hsp,Qeu] at hg;obtain⟨y2,hg2,hg3⟩:=aLa.1 hg;rw[U] at hg2;simp only[aLb] at hg2;subst hg2;rw[hsp,Qeu,hget0 _ hF U];exact hgz _ hg3
 obtain⟨h3,h4⟩:=h2 (Qez p hg (Yo ho)) _ (ZE p hg);have hgetC:=RepC.get p I h1 hg'
 refine⟨h3,RepC.congr (fun k hk=>?_) (RepC.shared hgetC)⟩
 rw[h4 k hk];have:=ZN hpl a w r
 rw[this]
theorem Qqk (h:Rel P B g e a w) {frz:Fz} {t:Option Nat} {d d':Desc} {e':Env} {T:Tag} {v:Value} (hd:Qs P g e a w T d v)
  (ht:∀i,t=some i->(e.s i).d=d/\a.tmps.getD i undef=v/\T=.s i) (I:Q4 e frz t d=some (e',d')) :
  ∃g',g'.pl=g.pl/\Rel P B g' e' a w/\bare d'=true/\Qs P g' e' a w .none d' v:=by
 cases d with
 | v s f x=>
  simp only[Q4] at I;cases hz:f.isz with
  | true=>
   rw[hz,aLB] at I;simp only[aLb,aLe] at I;obtain⟨rfl,rfl⟩:=I;obtain rfl:=Qac hz;exact⟨g,rfl,h,rfl,RepV.shared hd⟩
  | false=>
   rw[hz,aLC] at I;cases t with
   | none=>simp at I
   | some i=>
    obtain⟨h1,h2,rfl⟩:=ht i rfl;have U:some (e,Desc.bor (.s i) (e.s i).hv [])=some (e',d')->∃g',g'.pl=g.pl/\Rel P B g' e' a w/\bare d'=true/\Qs P g' e' a w .none d' v:=by
     intro I;simp only[aLb,aLe] at I;obtain⟨rfl,rfl⟩:=I;refine⟨g,rfl,h,rfl,aMb _,fun _ S F X hdr=>?_⟩
     rw[show (e.root (.s i)).d=.v s f x from h1] at hdr
     simp only[Desc.v.injEq] at hdr;obtain⟨rfl,rfl,hx⟩:=hdr;have hx:=eq_of_heq hx
     subst hx;refine⟨by simp only[QG],fun _ s' hs=>?_⟩
     simp only[getS,aLb] at hs;subst hs;refine⟨hd.1,fun k _=>?_⟩
     simp only[Qm,Ql,h2]
    cases frz with
    | no=>exact U I
    | tk=>exact U I
    | fz=>
     cases ho:okS s f with
     | false=>simp[ho] at I
     | true=>
      simp only[ho,aLB,aLb,aLe] at I;obtain⟨rfl,rfl⟩:=I;obtain⟨g',hpl,hk,J⟩:=QmZ (p:=[]) (y:=⟨s,f,x⟩) (F':=.z) h (.s i) h1 (by simp only[getP]) ho (by simp only[setF])
      refine⟨g',hpl,J,rfl,?_⟩;have:=J.sl i
      rw[show ((e.flag (.s i) (.v s .z x)).s i).d=.v s .z x by show ((e.flag (.s i) (.v s .z x)).root (.s i)).d=_;rw[Zv (r:=.s i) h1,if_pos rfl],h2] at this
      exact RepV.shared this
 | bor r ver p=>
  simp only[Q4,aLa] at I;obtain⟨y,hl,I⟩:=I;cases hz:y.fl.isz with
  | true=>
   rw[hz,aLB] at I;simp only[aLb,aLe] at I;obtain⟨rfl,rfl⟩:=I;have hyz:=Qac hz
   refine⟨g,rfl,h,by rw[hyz];rfl,?_⟩
   rw[hyz];exact Qxb h hd hl hyz
  | false=>
   rw[hz,aLC] at I;cases frz with
   | no=>
    simp only[aLb,aLe] at I;obtain⟨rfl,rfl⟩:=I;exact⟨g,rfl,h,rfl,hd⟩
   | tk=>
    simp only[aLb,aLe] at I;obtain⟨rfl,rfl⟩:=I;exact⟨g,rfl,h,rfl,hd⟩
   | fz=>
    cases ho:okS y.sh y.fl with
    | false=>simp[ho] at I
    | true=>
     simp only[ho,aLB,aLd,aLe] at I;obtain⟨e1,hf,rfl,rfl⟩:=I;obtain⟨g',hpl,_,J,hrep⟩:=Qr0 h hd hl ho hf;exact⟨g',hpl,J,rfl,RepV.shared hrep⟩
 | dead=>simp only[Q4,bare,aLB,aLb,aLe] at I;obtain⟨rfl,rfl⟩:=I;exact⟨g,rfl,h,rfl,trivial⟩
 | und=>simp only[Q4,bare,aLB,aLb,aLe] at I;obtain⟨rfl,rfl⟩:=I;exact⟨g,rfl,h,rfl,hd⟩
 | nil=>simp only[Q4,bare,aLB,aLb,aLe] at I;obtain⟨rfl,rfl⟩:=I;exact⟨g,rfl,h,rfl,hd⟩
 | loc r ver p=>simp only[Q4,bare,aLB,aLb,aLe] at I;obtain⟨rfl,rfl⟩:=I;exact⟨g,rfl,h,rfl,hd⟩
 | rp s x=>simp only[Q4,bare,aLB,aLb,aLe] at I;obtain⟨rfl,rfl⟩:=I;exact⟨g,rfl,h,rfl,hd⟩
 | rpp s x=>simp only[Q4,bare,aLB,aLb,aLe] at I;obtain⟨rfl,rfl⟩:=I;exact⟨g,rfl,h,rfl,hd⟩
 | clos j c=>simp only[Q4,bare,aLB,aLb,aLe] at I;obtain⟨rfl,rfl⟩:=I;exact⟨g,rfl,h,rfl,hd⟩
 | tup l=>simp[Q4,bare] at I
theorem Q7 (h:Rel P B g e a w) (dst:Option Tmp) {d:Desc} {v:Value} {T:Tag} (hb:bare d=true) (hd:Qs P g e a w T d v):∃g',Rel P B g' (e.dst dst d) (a.put dst v) w:=by
 obtain⟨g',_,_,I⟩:=h.dst 0 dst (hd.any hb)
 grind
theorem Env.lt_of_tup {e:Env} {i:Nat} {l:List Dv} (h:(e.s i).d=.tup l):i<e.sl.length:=by
 rcases aMg i e.sl.length with h1 | h1
 ·grind
 ·rw[Env.s,Qfq h1] at h;cases h
theorem Rel.takeTup (h:Rel P B g e a w) {i:Nat} (hi:i<e.sl.length) (hk:∀j,g.ow j ≠ .fl 0) {l:List Dv} {v:Value} (hd:Qs P g e a w (.s i) (.tup l) v) :
  ∃g',Rel P B g' (e.setS i .dead) a w/\Qs P g' (e.setS i .dead) a w (.fl 0) (.tup l) v:=by
 have J:∀j,(e.setS i .dead).s j=if i=j then ⟨(e.s i).ver+1,.dead,(e.s i).id+1,(e.s i).hv+1⟩ else e.s j:=by
  intro j;simp[Env.setS,Env.s,upd,ZY,hi]
 have I:∀j,g.ow j ≠ .s i->(g.re (g.S (.s i)) (.fl 0)).ow j=g.ow j:=fun j hj=>Gh.re_out hj
 refine⟨g.re (g.S (.s i)) (.fl 0),?_,?_⟩
 ·refine h.step (fun j=>j=i) (fun _=>False) (by simpa [Env.setS,upd] using h.lens) h.defers (fun j hj=>⟨by rw[J,if_neg (Ne.symm hj)],rfl⟩) (fun j _=>⟨rfl,rfl⟩)
   (fun j hj=>by subst hj;rw[J,if_pos rfl];exact aMp _) (fun _ h=>h.elim) (fun j hj=>by subst hj;exact QiG hi) (fun _ h=>h.elim) (fun j hj=>by subst hj;exact Qhl hi) (fun _ h=>h.elim) (fun j hj=>⟨(I j (by rw[hj];simp)).trans hj,rfl⟩)
   (fun j m hj hm=>⟨(I m (by rw[hm];simp;exact hj)).trans hm,rfl⟩) (fun j m hj hm=>⟨(I m (by rw[hm];simp)).trans hm,rfl⟩) (fun j m hj hm=>⟨(I m (by rw[hm];simp)).trans hm,rfl⟩)
   (Streams.refl _) (fun _ _ _=>rfl) (fun j h1 h2 h3=>?_) (fun j hj=>?_) (fun _ _ h=>h.elim) (fun _ j hj=>?_) (fun _ j hj=>hj.elim)
  ·have:=h.nn j h1 h2 h3;exact (I j (by rw[this];simp)).trans this
  ·refine h.lt j fun h0=>hj ?_;exact (I j (by rw[h0];simp)).trans h0
  ·subst hj;rw[J,if_pos rfl];exact trivial
 ·obtain⟨vs,h1,h2,q,h3⟩:=hd
  exact⟨vs,h1,h2,q,fun k y u U hu=>(h3 k y u U hu).frame (fun j hj=>(I j (by rw[hj];simp)).trans hj) (fun j hj=>⟨Gh.re_in hj.1,hj.2⟩) (fun _ _=>rfl)⟩
theorem Qt4 (h:Rel P B g e a w) {frz:Fz} {o:Oper} {x:Operand} (ho:o.op=.move x) {f:Eff} {e':Env} (J:Qn C frz e o=some f) (hf:f.gives e'):QD P B a w o e':=by
 obtain⟨T,hd,ht,_⟩:=QC h x;simp[Qn,ho] at J;split at J
 ·rename_i l t hl hsl
  simp at J;subst J;obtain rfl:e'=_:=hf;have hxd:e.opd x=.tup l:=by
   revert hl;cases e.opd x<;>simp[Desc.tupOf]
   grind
  obtain⟨g0,_,hcl,h0⟩:=h.clean;obtain⟨T0,U,ht0,_⟩:=QC h0 x;obtain⟨q1,q2,rfl⟩:=ht0 t hsl;rw[hxd] at U q1;have hi:=Env.lt_of_tup q1
  obtain⟨g1,I,hdd⟩:=h0.takeTup hi (fun i=>hcl i 0) U
  obtain⟨g2,_,_,h2⟩:=I.dst 0 o.dst hdd;exact .value (w':=w) (by simp[execOp,ho]) ⟨g2,h2⟩
 simp only[aLa] at J;obtain⟨⟨e1,d1⟩,h1,h2⟩:=J;simp at h2;subst h2;obtain rfl:e'=_:=hf;obtain⟨g1,_,I,hb,hd1⟩:=Qqk h hd ht h1;exact .value (w':=w) (by simp[execOp,ho]) (Q7 I o.dst hb hd1)
theorem QqN (h:Rel P B g e a w) {frz:Fz} {o:Oper} {x:Operand} (ho:o.op=.assign x) {f:Eff} {e':Env} (J:Qn C frz e o=some f) (U:f.gives e'):QD P B a w o e':=by
 obtain⟨g0,_,hcl,h0⟩:=h.clean;clear h;have h:=h0
 obtain⟨T,hd,ht,_⟩:=QC h x;have hk:∀i,g0.ow i ≠ .fl 0:=fun i=>hcl i 0
 simp only[Qn,ho] at J;have fin:∀{want:Sh} {t:Option Nat} {e1:Env} {y:Dv},(∀i,t=some i->(e.s i).d=e.opd x/\a.tmps.getD i undef=a.eval x/\T=.s i)->e.take t want (e.opd x)=some (e1,y)->f=.done (Qh4 e1 o.dst y)->QD P B a w o e':=by
  intro want t e1 y ht' htake hfe;subst hfe;obtain rfl:e'=_:=U;obtain⟨g1,_,hrel,hrep⟩:=Qee h 0 hk hd ht' htake;obtain⟨g',_,_,h'⟩:=hrel.dst 0 o.dst (d:=.v y.sh y.fl y.x) hrep;exact .value (v:=a.eval x) (w':=w) (by simp[execOp,ho]) ⟨g',h'⟩
 cases I:e.opd x with
 | v s f0 x0=>
  simp only[I,aLa] at J;obtain⟨⟨e1,y⟩,h1,h2⟩:=J
  grind
 | bor r ver p=>
  simp only[I,aLa] at J;obtain⟨⟨e1,y⟩,h1,h2⟩:=J
  grind
 | nil=>
  simp only[I,aLa] at J;obtain⟨ti,_,⟨e1,y⟩,h1,h2⟩:=J
  grind
 | tup l=>simp[I,bare] at J
 | und=>
  simp only[I,bare,aLB,aLb] at J;subst J;obtain rfl:e'=_:=U;exact .value (v:=a.eval x) (w':=w) (by simp[execOp,ho]) (Q7 h o.dst rfl (T:=T) (I ▸ hd))
 | dead=>
  simp only[I,bare,aLB,aLb] at J;subst J;obtain rfl:e'=_:=U;exact .value (v:=a.eval x) (w':=w) (by simp[execOp,ho]) (Q7 h o.dst rfl (T:=T) trivial)
 | loc r ver p=>
  simp only[I,bare,aLB,aLb] at J;subst J;obtain rfl:e'=_:=U;exact .value (v:=a.eval x) (w':=w) (by simp[execOp,ho]) (Q7 h o.dst rfl (T:=T) (I ▸ hd))
 | rp s y=>
  simp only[I,bare,aLB,aLb] at J;subst J;obtain rfl:e'=_:=U;exact .value (v:=a.eval x) (w':=w) (by simp[execOp,ho]) (Q7 h o.dst rfl (T:=T) (I ▸ hd))
 | rpp s y=>
  simp only[I,bare,aLB,aLb] at J;subst J;obtain rfl:e'=_:=U;exact .value (v:=a.eval x) (w':=w) (by simp[execOp,ho]) (Q7 h o.dst rfl (T:=T) (I ▸ hd))
 | clos j c=>
  simp only[I,bare,aLB,aLb] at J;subst J;obtain rfl:e'=_:=U;exact .value (v:=a.eval x) (w':=w) (by simp[execOp,ho]) (Q7 h o.dst rfl (T:=T) (I ▸ hd))
theorem Qn5 (h:Rel P B g e a w) {T:Tag} {d:Desc} {v:Value} {b:Bool} (hd:Qs P g e a w T d v) (J:e.rdBool d=some b):v=.bool b:=by
 unfold Env.rdBool at J;split at J
 ·rename_i b' hb
  simp at J;subst J;obtain⟨S,f,ho,I,_⟩:=QbC h hd hb;exact Qfj ho I
 simp_all
theorem Qfo (h:Rel P B g e a w) {T:Tag} {d:Desc} {v:Value} {k:IntKind} {n:Int} (hd:Qs P g e a w T d v) (J:e.rdInt d=some (k,n)):v=.int k n:=by
 unfold Env.rdInt at J;split at J
 ·rename_i k' U hb
  obtain⟨rfl,rfl⟩:=J;obtain⟨S,f,ho,I,_⟩:=QbC h hd hb;exact Jm ho I
 simp_all
end Go.Dx
namespace Go.Dx
variable {P:Program} {B:Base} {g:Gh} {e:Env} {a:Act} {w:World} {C:Ctx}
def YP:Sh->List Value
 | .int k=>[.int k 0] | .bool=>[.bool false] | .str=>[.string ⟨#[]⟩] | .list _=>[.slice none 0 0]
 | .prod a b=>YP a++YP b
 | .fn1 ..=>[.nilFunc] | .fn2 ..=>[.nilFunc]
def zeroV:Sh->Value
 | .prod a b=>.agg (YP (.prod a b)).toArray
 | s=>(YP s).headD .nilFunc
def ZX (C:Ctx):Nat->List (Nat×TypeId)->Sh->Prop
 | _,[],_=>False
 | off,[(o,t)],s=>o=off/\∃ti,C.ty t=some ti/\ti.sh=s
 | off,(o,t)::f::l,s=>∃a b,s=.prod a b/\o=off/\(∃ti,C.ty t=some ti/\ti.sh=a)/\ZX C (off+a.size) (f::l) b
structure TyOk (P:Program) (C:Ctx) (t:TypeId) (ti:TI):Prop where
 info:∃i,P.info? t=some i/\i.size=ti.sh.size/\i.bytes<=131072/\0<i.bytes/\(match ti.td with | .ptr _=>True | .func=>True | .other=>True | _=>i.zero=some (zeroV ti.sh))
 und:match ti.td with
  | .int k=>P.underlying t=some (.int k)/\ti.sh=.int k
  | .bool=>P.underlying t=some .bool/\ti.sh=.bool
  | .str=>P.underlying t=some .string/\ti.sh=.str
  | .slice e=>P.underlying t=some (.slice e)/\∃te,C.ty e=some te/\ti.sh=.list te.sh
  | .ptr e=>P.underlying t=some (.pointer e)/\ti.sh=.fn2 .bool .bool .bool
  | .struct fs=>(∃fields:Array Field,P.underlying t=some (.struct fields)/\fields.toList.map (fun f=>(f.offset,f.type))=fs/\∀f ∈ fields.toList,f.name ≠ "_")/\ZX C 0 fs ti.sh/\2<=fs.length/\
    P.eqGuardType P.depth t=false/\P.stoodInHeld t=false
  | .func=>(∃x y r,P.underlying t=some (.func x y r))/\((∃x y r,ti.sh=.fn1 x y r)\/∃x y r,ti.sh=.fn2 x y r)
  | .other=>False
def QR (P:Program) (C:Ctx):Prop:=∀t ti,C.ty t=some ti->TyOk P C t ti
theorem QiX {op:BinOp} {t:TypeId} {x y:Operand} {ty:TypeId} {o:Oper} (ho:o.op=.binOp op t x y ty) {v:Value} (I:(eqGuard op t x y (a.eval x) (a.eval y)).run P w=.ok () w)
  (hb:(binOp op t (a.eval x) (a.eval y)).run P w=.ok v w):(execOp a.eval o).run P w=.ok (.value v) w:=by
 simp[execOp,ho,I,hb]
theorem Qq6 {op:BinOp} {t:TypeId} {x y:Operand} {k k':IntKind} {m n:Int}:(eqGuard op t x y (.int k m) (.int k' n)).run P w=.ok () w:=by
 unfold eqGuard;cases op<;>simp
theorem QqW {op:BinOp} {t:TypeId} {x y:Operand} {m n:ByteArray}:(eqGuard op t x y (.string m) (.string n)).run P w=.ok () w:=by
 unfold eqGuard;cases op<;>simp
theorem Qqa {op:BinOp} {t:TypeId} {x y:Operand} {m n:Bool}:(eqGuard op t x y (.bool m) (.bool n)).run P w=.ok () w:=by
 unfold eqGuard;cases op<;>simp
theorem Qnj {α:Type} [DecidableEq α] (m n:α):(m == n)=decide (m=n):=by rfl
theorem Qb7 {op:BinOp} {t:TypeId} {k:IntKind} {m n:Int} (v:Value) (h:(match op with
  | .add=>some (Value.int k (k.wrap (m+n))) | .sub=>some (Value.int k (k.wrap (m - n))) | .mul=>some (Value.int k (k.wrap (m * n)))
  | .quo=>if n=0 then none else some (Value.int k (k.wrap (m.tdiv n))) | .rem=>if n=0 then none else some (Value.int k (m.tmod n))
  | op=>(cmpI op m n).map Value.bool)=some v):(binOp op t (.int k m) (.int k n)).run P w=.ok v w:=by
 cases op<;>simp_all [binOp,Op.intArith,Op.intDiv,Op.intCmp,cmpI,bne,Qnj]
theorem QD.plain (h:Rel P B g e a w) {o:Oper} {v:Value} {s:Sh} {x:s.den} (I:(execOp a.eval o).run P w=.ok (.value v) w) (hv:RepV P s .z g.Z w QP v x):QD P B a w o (e.dst o.dst (.v s .z x)):=
 .value I (Q7 h o.dst rfl (T:=.none) (RepV.shared hv))
theorem QmK {s:Sh} (I:s.flat=true) {f:Fl} {S Z:Nat->Prop} {c:Nat->Option Value} {x:s.den} (ho:okS s f=true) (J:RepC P s f Z w S c x):RepC P s .z Z w QP c x:=by
 induction s generalizing f S c with
 | int k=>intro _;exact J (Yo ho)
 | bool=>intro _;exact J (Yo ho)
 | str=>intro _;exact J (Yo ho)
 | list s ih=>simp[Sh.flat] at I
 | prod a b U ihb=>
  simp[Sh.flat,okS] at I ho;obtain⟨t,ra,rb⟩:=J;exact⟨fun _=>true,(U I.1 ho.1 ra).mono (fun _ h=>h) (fun _ h=>h.elim),(ihb I.2 ho.2 rb).mono (fun _ h=>h) (fun _ h=>h.elim)⟩
 | fn1 a r rf=>simp[Sh.flat] at I
 | fn2 a b r=>simp[Sh.flat] at I
theorem Qs5 (h:Rel P B g e a w) {frz:Fz} {o:Oper} {c x y:Operand} (ho:o.op=.pick c x y) {f:Eff} {e':Env} (hs:Qn C frz e o=some f) (hf:f.gives e'):QD P B a w o e':=by
 simp only[Qn,ho,aLa] at hs;obtain⟨b,hb,d,hd,h2⟩:=hs;simp at h2;subst h2;obtain rfl:e'=_:=hf;obtain⟨Tc,hc,_,_⟩:=QC h c;obtain⟨Tx,hx,_,_⟩:=QC h x;obtain⟨Ty,hy,_,_⟩:=QC h y;have hcv:=Qn5 h hc hb
 have I:(execOp a.eval o).run P w=.ok (.value (if b then a.eval x else a.eval y)) w:=by simp[execOp,ho,hcv,asBool]
 unfold Qjb at hd;cases hdd:(e.opd x).data&&(e.opd y).data<;>simp[hdd,aLC] at hd
 rotate_left
 ·split at hd
  rotate_left
  ·grind
  rename_i u u' hu hu';obtain⟨y',hy',hd⟩:=aLa.1 hd;cases U:u.1.flat with
  | false=>simp_all
  | true=>
   rw[U,aLB] at hd;simp at hd;subst hd;obtain⟨S1,f1,o1,r1,_⟩:=QbC h hx hu;obtain⟨S2,f2,o2,r2,_⟩:=QbC h hy hu';have hu'':=ZK hy'
   subst hu'';refine .plain h I ?_;cases b with
   | true=>exact⟨r1.1,QmK U o1 r1.2⟩
   | false=>exact⟨r2.1,QmK U o2 r2.2⟩
 ·cases J:bare (e.opd x)&&bare (e.opd y)&&!(e.opd x).isB&&!(e.opd y).isB with
  | false=>simp_all
  | true=>
   simp[J,aLB,aLb] at hd;simp at J;subst hd;cases b with
   | true=>exact .value I (Q7 h o.dst J.1.1.1 hx)
   | false=>exact .value I (Q7 h o.dst J.1.1.2 hy)
theorem Qs4 (h:Rel P B g e a w) {frz:Fz} {o:Oper} {op:UnOp} {t:TypeId} {x:Operand} (ho:o.op=.unOp op t x) {f:Eff} {e':Env} (I:Qn C frz e o=some f) (hf:f.gives e'):QD P B a w o e':=by
 obtain⟨Tx,hx,_,_⟩:=QC h x;simp[Qn,ho] at I;split at I
 ·rename_i b hb
  simp at I;subst I;obtain rfl:e'=_:=hf;obtain⟨S1,f1,J,U,_⟩:=QbC h hx hb;have hv:=Qfj J U
  exact .plain h (by simp[execOp,ho,hv,Op.unary]) (QbY _)
 ·rename_i k n hb
  simp at I;subst I;obtain rfl:e'=_:=hf;obtain⟨S1,f1,J,U,_⟩:=QbC h hx hb;have hv:=Jm J U
  exact .plain h (by simp[execOp,ho,hv,Op.unary,Op.intArith]) (QbM _)
 simp_all
theorem Qiv (m n:List UInt8):((⟨m.toArray⟩:ByteArray).toList == (⟨n.toArray⟩:ByteArray).toList)=decide (m=n):=by
 by_cases h:m=n<;>simp[h]
end Go.Dx
namespace Go.Dx
variable {P:Program} {B:Base} {g:Gh} {e:Env} {a:Act} {w:World} {C:Ctx}
theorem TyOk.und_desc {t:TypeId} {ti:TI} (h:TyOk P C t ti):∃d,P.underlying t=some d:=by
 have:=h.und
 revert this;cases ti.td<;>simp only<;>intro this
 ·simp_all
 ·simp_all
 ·simp_all
 ·simp_all
 ·simp_all
 ·grind
 ·grind
 simp_all
theorem ZX.prod {off:Nat} {fs:List (Nat×TypeId)} {s:Sh} (h:ZX C off fs s) (h2:2<=fs.length):QY s=true:=by
 match fs,h with
 | [_],_=>simp_all
 | _::_::_,h=>obtain⟨a,b,rfl,_⟩:=h;rfl
theorem Qch {t:TypeId} {ti:TI} (h:TyOk P C t ti) (w:World):(isAgg t).run P w=.ok (QY ti.sh) w:=by
 have:=h.und
 revert this;cases I:ti.td<;>simp only<;>intro this
 ·simp[isAgg,run_underlying this.1,this.2,QY]
 ·simp[isAgg,run_underlying this.1,this.2,QY]
 ·simp[isAgg,run_underlying this.1,this.2,QY]
 ·obtain⟨h1,te,_,h2⟩:=this;simp[isAgg,run_underlying h1,h2,QY]
 ·simp[isAgg,run_underlying this.1,this.2,QY]
 ·obtain⟨⟨fields,h1,_⟩,h2,h3,_⟩:=this;simp[isAgg,run_underlying h1,h2.prod h3]
 ·obtain⟨⟨x,y,r,h1⟩,h2⟩:=this
  rcases h2 with ⟨_,_,_,h2⟩ | ⟨_,_,_,h2⟩<;>simp[isAgg,run_underlying h1,h2,QY]
 simp_all
theorem run_sizeOf {t:TypeId} {ti:TI} (h:TyOk P C t ti) (w:World):(sizeOf t).run P w=.ok ti.sh.size w:=by
 obtain⟨i,hi,I,_⟩:=h.info;simp[sizeOf,typeInfo,run_program,hi,I]
theorem cells_one {s:Sh}:∀{f:Fl} {Z S:Nat->Prop} {w:World} {c:Nat->Option Value} {x:s.den},okS s f=true->RepC P s f Z w S c x->∀k,k<s.size->∃v,c k=some v/\v.oneCell'=true:=by
 induction s with
 | int k=>intro f Z S w c x ho r i hi;obtain rfl:i=0:=(by simp[Sh.size] at hi;exact hi);exact⟨_,r (Yo ho),rfl⟩
 | bool=>intro f Z S w c x ho r i hi;obtain rfl:i=0:=(by simp[Sh.size] at hi;exact hi);exact⟨_,r (Yo ho),rfl⟩
 | str=>intro f Z S w c x ho r i hi;obtain rfl:i=0:=(by simp[Sh.size] at hi;exact hi);exact⟨_,r (Yo ho),rfl⟩
 | list s ih=>
  intro f Z S w c x ho r i hi;obtain rfl:i=0:=by simp[Sh.size] at hi;exact hi
  cases f with
  | z=>obtain⟨A,n,cap,h,_⟩:=r;exact⟨_,h,rfl⟩
  | o g=>obtain⟨A,n,cap,h,_⟩:=r;exact⟨_,h,rfl⟩
  | x=>simp[okS] at ho
  | p a b=>simp[okS] at ho
  | h f0 i0=>simp[okS] at ho
 | prod a b I J=>
  intro f Z S w c x ho r i hi;obtain⟨t,ra,rb⟩:=r;simp[okS,aLg] at ho;simp[Sh.size_prod] at hi;by_cases h:i<a.size
  ·grind
  ·have:=J ho.2 rb (i - a.size) (by omega)
   simp_all
 | fn1 a r rf I U=>intro f Z S w c x ho r i hi;obtain rfl:i=0:=(by simp[Sh.size] at hi;exact hi);obtain⟨v,h,_⟩:=r (Yo ho);exact⟨v,h⟩
 | fn2 a b r I J U=>intro f Z S w c x ho r i hi;obtain rfl:i=0:=(by simp[Sh.size] at hi;exact hi);obtain⟨v,h,_⟩:=r (Yo ho);exact⟨v,h⟩
theorem Quj {v:Value} (h:v.oneCell'=true):v.cells = #[v]:=by cases v<;>first | rfl | cases h
theorem Qfg {s:Sh} {f:Fl} {Z S:Nat->Prop} {w:World} {c:Nat->Option Value} {x:s.den} (ho:okS s f=true) (h:RepC P s f Z w S c x):∀k,k<s.size->∃v,c k=some v/\v.cells = #[v]:=
 fun k hk=>let ⟨v,h1,h2⟩:=cells_one ho h k hk;⟨v,h1,Quj h2⟩
theorem Qjj {t:TypeId} {ti:TI} (h:TyOk P C t ti) {xs:Array Value} {off:Nat} {f:Fl} {Z S:Nat->Prop} {x:ti.sh.den} (ho:okS ti.sh f=true) (hr:RepC P ti.sh f Z w S (fun k=>xs[off+k]?) x) :
  ∃v,(part t xs off).run P w=.ok v w/\RepV P ti.sh f Z w S v x:=by
 have J:off+ti.sh.size<=xs.size:=by
  obtain⟨v,hv,_⟩:=Qfg ho hr (ti.sh.size - 1) (by have:=Sh.size_pos ti.sh;omega)
  grind
 unfold part;cases I:QY ti.sh with
 | true=>
  refine⟨.agg (xs.extract off (off+ti.sh.size)),by simp[Qch h,I,run_sizeOf h],?_,?_⟩
  ·revert I;cases U:ti.sh with
   | prod a b=>intro _;exact⟨_,rfl,by rw[U] at J;simp only[Sh.size_prod] at J;simp[ Sh.size_prod];omega⟩
   | _=>intro I;simp[QY] at I
  ·refine RepC.congr (fun k hk=>?_) hr
   simp only[Qg,Value.cells,Array.getElem?_extract]
   simp_all
 | false=>
  obtain⟨v,hv,hc⟩:=Qfg ho hr 0 (Sh.size_pos _);refine⟨v,by simp[Qch h,I,show xs[off]? = some v by simpa using hv],?_,?_⟩
  ·revert I;cases U:ti.sh with
   | prod a b=>intro I;simp[QY] at I
   | _=>intro _;exact hc
  ·refine RepC.congr (fun k hk=>?_) hr
   have hk0:k=0:=by
    revert I hk;cases ti.sh<;>intro I hk<;>first | (simp[QY] at I;done) | (simp[Sh.size] at hk;exact hk)
   subst hk0;simp only[Qg,hc]
   simp_all
theorem Qwi (m n:Int):(m == n)=decide (m=n):=Qnj m n
theorem Qre {Z:Nat->Prop}:∀(d:Nat) {t:TypeId} {ti:TI} {v u:Value} {x y:ti.sh.den},QR P C->C.ty t=some ti->ti.sh.flat=true->ti.sh.rk<=d->RepV P ti.sh .z Z w QP v x->RepV P ti.sh .z Z w QP u y->
  (Op.equalIn (d+1) t v u).run P w=.ok (ti.sh.beq x y) w:=by
 intro d;induction d with
 | zero=>intro t ti v u x y _ _ _ hr;exfalso;revert hr;cases ti.sh<;>simp[Sh.rk]
 | succ d ih=>
  intro t ti v u x y hT ht J hrk hv hu;have hty:=hT t ti ht
  have I:=hty.und
  revert I;cases htd:ti.td with
  | int k=>
   intro I;obtain⟨h1,h2⟩:=I;obtain⟨sh,by_,td⟩:=ti;simp only at h2;subst h2;obtain rfl:=Jm rfl hv;obtain rfl:=Jm rfl hu;rw[run_equalIn_int _ _ _ _ _ _ _ h1,Qwi];rfl
  | bool=>
   intro I;obtain⟨h1,h2⟩:=I;obtain⟨sh,by_,td⟩:=ti;simp only at h2;subst h2;obtain rfl:=Qfj rfl hv;obtain rfl:=Qfj rfl hu;rw[run_equalIn_bool' _ _ _ _ _ h1];simp only[Sh.beq];rw[Qnj]
  | str=>
   intro I;obtain⟨h1,h2⟩:=I;obtain⟨sh,by_,td⟩:=ti;simp only at h2;subst h2;obtain rfl:=JV rfl hv;obtain rfl:=JV rfl hu;rw[run_equalIn_string _ _ _ _ _ h1,Qiv];rfl
  | slice el=>intro I;obtain⟨h1,te,_,h2⟩:=I;rw[h2] at J;simp[Sh.flat] at J
  | ptr el=>intro I;rw[I.2] at J;simp[Sh.flat] at J
  | struct fs=>
   intro I;obtain⟨⟨fields,h1,h2,h3⟩,h4,h5,h6,h7⟩:=I;have hfo:P.fieldsOf t=fields:=by simp[Program.fieldsOf,h1]
   have key:∀(l:List Field) (off:Nat) {s:Sh} {x y:s.den} {xs ys:Array Value},ZX C off (l.map fun f=>(f.offset,f.type)) s->(∀f ∈ l,f.name ≠ "_")->s.flat=true->s.rk<=d+1->(2<=l.length\/s.rk<=d)->
     RepC P s .z Z w QP (fun k=>xs[off+k]?) x->RepC P s .z Z w QP (fun k=>ys[off+k]?) y->(Op.eqFields (d+1) xs ys l).run P w=.ok (s.beq x y) w:=by
    intro l;induction l with
    | nil=>intro off s x y xs ys hs;exact hs.elim
    | cons f l ihl=>
     intro off s x y xs ys hs hn J hrk hor hx hy;cases l with
     | nil=>
      obtain⟨ho,tf,U,hsh⟩:=hs;subst hsh;obtain⟨v,hv,rv⟩:=Qjj (w:=w) (hT _ _ U) Qmu (ho ▸ hx);obtain⟨u,hu,ru⟩:=Qjj (w:=w) (hT _ _ U) Qmu (ho ▸ hy);have:=ih hT U J (by simpa using hor) rv ru
      simp only[Op.eqFields,hn f (by simp),ne_eq,not_false_eq_true,if_true]
      cases hb:tf.sh.beq x y<;>simp[hv,hu,this,hb]
     | cons f' l=>
      obtain⟨a',b',rfl,ho,⟨tf,U,hsh⟩,hs⟩:=hs;subst hsh;obtain⟨t1,ra,rb⟩:=hx;obtain⟨t2,qa,qb⟩:=hy;simp only[Sh.flat,aLg] at J;simp only[Sh.rk] at hrk;obtain⟨v,hv,rv⟩:=Qjj (w:=w) (hT _ _ U) Qmu (ho ▸ (RepC.shared ra));obtain⟨u,hu,ru⟩:=Qjj (w:=w) (hT _ _ U) Qmu (ho ▸ (RepC.shared qa));have h1:=ih hT U J.1 (by omega) rv ru
      have h2:=ihl (off+tf.sh.size) hs (fun f hf=>hn f (by simp[hf])) J.2 (by omega) (.inr (by omega)) (RepC.congr (c':=fun k=>xs[off+tf.sh.size+k]?) (fun k _=>by simp[aMh]) (RepC.shared rb)) (RepC.congr (c':=fun k=>ys[off+tf.sh.size+k]?) (fun k _=>by simp[aMh]) (RepC.shared qb))
      rw[show Op.eqFields (d+1) xs ys (f::f'::l)=(if f.name ≠ "_" then do
       let a <-part f.type xs f.offset
       let b <-part f.type ys f.offset
       let r <-Op.equalIn (d+1) f.type a b
       if (!r)=true then pure false else Op.eqFields (d+1) xs ys (f'::l)
       else Op.eqFields (d+1) xs ys (f'::l)) from rfl]
      simp only[hn f (by simp),ne_eq,not_false_eq_true,if_true]
      simp only[Sh.beq];cases hb:tf.sh.beq x.1 y.1<;>simp[hv,hu,h1,hb,h2]
   have hprod:=h4.prod h5
   obtain⟨sh,by_,td⟩:=ti;simp only at hprod h4 J hrk hv hu ⊢;cases sh with
   | prod a' b'=>
    obtain⟨xs,rfl,hxs⟩:=hv.1;obtain⟨ys,rfl,hys⟩:=hu.1;rw[run_equalIn_agg _ _ _ _ _ (by rw[hfo];exact h1) h7,hfo]
    refine key fields.toList 0 (by rw[h2];exact h4) h3 J hrk (.inl ?_) (RepC.congr (c':=fun k=>xs[0+k]?) (fun k _=>by simp[Qg,Value.cells]) hv.2) (RepC.congr (c':=fun k=>ys[0+k]?) (fun k _=>by simp[Qg,Value.cells]) hu.2)
    grind
   | _=>simp[QY] at hprod
  | func=>intro I;rcases I.2 with ⟨_,_,_,h2⟩ | ⟨_,_,_,h2⟩<;>(rw[h2] at J;simp[Sh.flat] at J)
  | other=>intro I;exact I.elim
theorem QuF {s:Sh} {xs:Array Value} (h:Ys s (.agg xs)):QY s=true:=by
 have key:xs = #[.agg xs]->False:=by
  intro h;have:SizeOf.sizeOf xs=SizeOf.sizeOf #[Value.agg xs]:=by rw[<-h]
  grind
 cases s with
 | prod a b=>rfl
 | int k=>exact (key h).elim
 | bool=>exact (key h).elim
 | str=>exact (key h).elim
 | list s=>exact (key h).elim
 | fn1 a r rf=>exact (key h).elim
 | fn2 a b r=>exact (key h).elim
theorem QtT {Z:Nat->Prop} {s:Sh} (I:s.flat=true) {v u:Value} {x y:s.den} (hv:RepV P s .z Z w QP v x) (hu:RepV P s .z Z w QP u y) :
  (∃k,s=.int k)\/s=.str\/(∃b b',v=.bool b/\u=.bool b')\/∃xs ys,v=.agg xs/\u=.agg ys:=by
 cases s with
 | int k=>simp_all
 | str=>simp_all
 | bool=>exact .inr (.inr (.inl ⟨_,_,Qfj rfl hv,Qfj rfl hu⟩))
 | prod a b=>obtain⟨xs,h1,_⟩:=hv.1;obtain⟨ys,h2,_⟩:=hu.1;exact .inr (.inr (.inr ⟨xs,ys,h1,h2⟩))
 | list s=>simp[Sh.flat] at I
 | fn1 a r rf=>simp[Sh.flat] at I
 | fn2 a b r=>simp[Sh.flat] at I
theorem Qwe {t:TypeId} {k:IntKind} {m n:Int} (h:0<=n):(binOp .shr t (.int k m) (.int k n)).run P w=.ok (.int k (m.fdiv (2 ^ (min n.toNat k.bits)))) w:=by
 have I:¬n<0:=by omega
 simp[binOp,Op.shift,I]
theorem Qr2 (hT:QR P C) (h:Rel P B g e a w) {frz:Fz} {o:Oper} {op:BinOp} {t ty:TypeId} {x y:Operand} (ho:o.op=.binOp op t x y ty) {f:Eff} {e':Env} (I:Qn C frz e o=some f) (J:f.gives e'):QD P B a w o e':=by
 obtain⟨Tx,hx,_,_⟩:=QC h x;obtain⟨Ty,hy,_,_⟩:=QC h y;simp only[Qn,ho] at I;unfold binE at I;split at I
 ·rename_i k m k' n hm hn
  obtain⟨S1,f1,o1,r1,_⟩:=QbC h hx hm;obtain⟨S2,f2,o2,r2,_⟩:=QbC h hy hn;have hv:=Jm o1 r1
  have hu:=Jm o2 r2
  by_cases hk:k=k'
  ·subst hk
   rw[if_pos rfl] at I;have fin:∀(v:Value) (s:Sh) (z:s.den),(binOp op t (.int k m) (.int k n)).run P w=.ok v w->RepV P s .z g.Z w QP v z->e'=e.dst o.dst (.v s .z z)->QD P B a w o e':=by
    intro v s z hb hr he;subst he;exact .plain h (QiX ho (by rw[hv,hu];exact Qq6) (by rw[hv,hu];exact hb)) hr
   cases op with
   | add=>simp only[aLb] at I;subst I;exact fin _ _ _ (Qb7 _ rfl) (QbM _) J
   | sub=>simp only[aLb] at I;subst I;exact fin _ _ _ (Qb7 _ rfl) (QbM _) J
   | mul=>simp only[aLb] at I;subst I;exact fin _ _ _ (Qb7 _ rfl) (QbM _) J
   | quo=>
    simp only[aLb] at I;subst I;obtain⟨U,J⟩:=J;have U:¬n=0:=by simpa using U
    exact fin _ _ _ (Qb7 _ (by simp[U])) (QbM _) J
   | rem=>
    simp only[aLb] at I;subst I;obtain⟨U,J⟩:=J;have U:¬n=0:=by simpa using U
    exact fin _ _ _ (Qb7 _ (by simp[U])) (QbM _) J
   | shr=>simp only[aLb] at I;subst I;obtain⟨U,J⟩:=J;exact fin _ _ _ (Qwe (by simpa using U)) (QbM _) J
   | eql=>simp only[cmpI,aLc,aLb] at I;subst I;exact fin _ _ _ (Qb7 _ rfl) (QbY _) J
   | neq=>simp only[cmpI,aLc,aLb] at I;subst I;exact fin _ _ _ (Qb7 _ rfl) (QbY _) J
   | lss=>simp only[cmpI,aLc,aLb] at I;subst I;exact fin _ _ _ (Qb7 _ rfl) (QbY _) J
   | leq=>simp only[cmpI,aLc,aLb] at I;subst I;exact fin _ _ _ (Qb7 _ rfl) (QbY _) J
   | gtr=>simp only[cmpI,aLc,aLb] at I;subst I;exact fin _ _ _ (Qb7 _ rfl) (QbY _) J
   | geq=>simp only[cmpI,aLc,aLb] at I;subst I;exact fin _ _ _ (Qb7 _ rfl) (QbY _) J
   | _=>simp[cmpI] at I
  ·rw[if_neg hk] at I;cases I
 ·rename_i m n hm hn
  obtain⟨S1,f1,o1,r1,_⟩:=QbC h hx hm;obtain⟨S2,f2,o2,r2,_⟩:=QbC h hy hn;have hv:=JV o1 r1
  have hu:=JV o2 r2
  have fin:∀(v:Value) (s:Sh) (z:s.den),(binOp op t (.string ⟨List.toArray m⟩) (.string ⟨List.toArray n⟩)).run P w=.ok v w->RepV P s .z g.Z w QP v z->e'=e.dst o.dst (.v s .z z)->QD P B a w o e':=by
   intro v s z hb hr he;subst he;exact .plain h (QiX ho (by rw[hv,hu];exact QqW) (by rw[hv,hu];exact hb)) hr
  cases op with
  | add=>
   simp only[aLb] at I;subst I;obtain⟨U,J⟩:=J;have U:List.length m+List.length n<=LIM:=by simpa using U
   refine fin (.string ⟨(List.append m n).toArray⟩) _ _ ?_ (QfF _) J;have hsz:∀l:List UInt8,(⟨l.toArray⟩:ByteArray).size=l.length:=fun l=>by simp[ByteArray.size]
   have happ:(⟨List.toArray m⟩:ByteArray)++⟨List.toArray n⟩=⟨(List.append m n).toArray⟩:=by
    apply ByteArray.ext;simp
   simp only[binOp,Op.stringOp];rw[if_neg (by rw[hsz,hsz];simp only[IntKind.max,IntKind.signed,IntKind.bits];unfold LIM at U;simp;omega),happ]
   rfl
  | eql=>simp only[aLb] at I;subst I;exact fin (.bool (decide (m=n))) _ _ (by rw[binOp_string_eql,Qiv];rfl) (QbY _) J
  | neq=>simp only[aLb] at I;subst I;exact fin (.bool (!decide (m=n))) _ _ (by rw[binOp_string_neq,Qiv];rfl) (QbY _) J
  | _=>simp at I
 ·rename_i s m s' n hno1 hno2 hm hn
  obtain⟨n',hn',I⟩:=aLa.1 I;obtain⟨ti,hti,I⟩:=aLa.1 I;have:=ZK hn'
  obtain⟨rfl,hn2⟩:=Sigma.mk.inj this;have hn2:=eq_of_heq hn2
  subst hn2;cases U:(s'.flat&&decide (ti.sh=s')&&Nat.blt s'.rk 1000) with
  | false=>simp[U] at I
  | true=>
   rw[U,aLB] at I;simp only[aLg,aLF] at U;obtain⟨⟨hfl,hsh⟩,hrk⟩:=U;subst hsh;have hrk:ti.sh.rk<1000:=by simpa [Nat.blt_eq] using hrk
   obtain⟨S1,f1,o1,r1,_⟩:=QbC h hx hm;obtain⟨S2,f2,o2,r2,_⟩:=QbC h hy hn;have hv:RepV P ti.sh .z g.Z w QP (a.eval x) m:=⟨r1.1,QmK hfl o1 r1.2⟩
   have hu:RepV P ti.sh .z g.Z w QP (a.eval y) n:=⟨r2.1,QmK hfl o2 r2.2⟩
   have heq:=Qre (w:=w) 9999 hT hti hfl (by omega) hv hu
   have heq':(Op.equal t (a.eval x) (a.eval y)).run P w=.ok (ti.sh.beq m n) w:=heq
   have hcase:=QtT hfl hv hu
   have hrun:∀v,(match op with | .eql=>some (Value.bool (ti.sh.beq m n)) | .neq=>some (Value.bool (!(ti.sh.beq m n))) | _=>none)=some v->(binOp op t (a.eval x) (a.eval y)).run P w=.ok v w/\(eqGuard op t x y (a.eval x) (a.eval y)).run P w=.ok () w:=by
    intro v hv';rcases hcase with ⟨k,hk⟩ | hk | ⟨b,b',h1,h2⟩ | ⟨xs,ys,h1,h2⟩
    ·exfalso;obtain⟨sh,by_,td⟩:=ti;simp only at hk;subst hk;exact hno1 _ _ _ _ rfl HEq.rfl rfl HEq.rfl
    ·exfalso;obtain⟨sh,by_,td⟩:=ti;simp only at hk;subst hk;exact hno2 _ _ rfl HEq.rfl rfl HEq.rfl
    ·rw[h1,h2] at heq' ⊢
     refine⟨?_,Qqa⟩;cases op<;>simp only[aLb,reduceCtorEq] at hv'<;>subst hv'<;>simp only[binOp]<;>simp[heq']
    ·rw[h1,h2] at heq' ⊢
     have hg:P.eqGuardType P.depth t=false:=by
      have:=(hT t ti hti).und
      have hp:QY ti.sh=true:=QuF (h1 ▸ hv.1)
      revert this hp;cases ti.td<;>simp only<;>intro this hp
      ·rw[this.2] at hp;cases hp
      ·rw[this.2] at hp;cases hp
      ·rw[this.2] at hp;cases hp
      ·obtain⟨_,te,_,h2⟩:=this;rw[h2] at hp;cases hp
      ·rw[this.2] at hp;cases hp
      ·exact this.2.2.2.1
      ·rcases this.2 with ⟨_,_,_,h2⟩ | ⟨_,_,_,h2⟩<;>(rw[h2] at hp;cases hp)
      ·exact this.elim
     refine⟨?_,run_eqGuard_agg _ _ _ _ _ _ _ hg⟩;cases op<;>simp only[aLb,reduceCtorEq] at hv'<;>subst hv'<;>simp only[binOp]<;>simp[heq']
   cases op with
   | eql=>simp only[aLb] at I;subst I;obtain rfl:e'=_:=J;obtain⟨h1,h2⟩:=hrun _ rfl;exact .plain h (QiX ho h2 h1) (QbY _)
   | neq=>simp only[aLb] at I;subst I;obtain rfl:e'=_:=J;obtain⟨h1,h2⟩:=hrun _ rfl;exact .plain h (QiX ho h2 h1) (QbY _)
   | _=>simp at I
 ·cases I
end Go.Dx
namespace Go.Dx
variable {P:Program} {B:Base} {g:Gh} {e:Env} {a:Act} {w:World} {C:Ctx}
theorem Qbs (w:World):∀(f:Nat) {I:Nat} {fs:List (Nat×TypeId)} {s:Sh} {u:Nat×TypeId},ZX C I fs s->fs[f]? = some u->
  ∃ti,C.ty u.2=some ti/\I<=u.1/\u.1+ti.sh.size<=I+s.size/\getS s (fstep f (Nat.beq (f+1) fs.length))=some ti.sh/\(∀x,QG s x (fstep f (Nat.beq (f+1) fs.length)))/\
   (∀c,Qm w s c (fstep f (Nat.beq (f+1) fs.length))=fun k=>c (u.1 - I+k))/\
   (∀b o c,Qi s (some (b,o)) w c (fstep f (Nat.beq (f+1) fs.length))=some (b,o+(u.1 - I))):=by
 intro f;induction f with
 | zero=>
  intro I fs s u J hu
  match fs,J with
  | [(o,t)],J=>
   obtain⟨rfl,ti,U,rfl⟩:=J;simp only[aLt,aLb] at hu;subst hu;refine⟨ti,U,aMb _,aMb _,?_,fun x=>?_,fun c=>?_,fun b o' c=>?_⟩
   ·simp[fstep,getS]
   ·simp[fstep,QG]
   ·simp[fstep,Qm]
   ·simp[fstep,Qi]
  | (o,t)::f'::l,J=>
   obtain⟨a',b',rfl,rfl,⟨ti,U,rfl⟩,J⟩:=J;simp only[aLt,aLb] at hu;subst hu;have hl:Nat.beq (0+1) ((o,t)::f'::l).length=false:=by simp[Nat.beq]
   rw[hl];refine⟨ti,U,aMb _,by simp only[Sh.size_prod];omega,?_,fun x=>?_,fun c=>?_,fun b o' c=>?_⟩
   ·simp[fstep,getS]
   ·simp[fstep,QG]
   ·simp[fstep,Qm]
   ·simp[fstep,Qi]
 | succ f ih=>
  intro I fs s u J hu
  match fs,J with
  | [(o,t)],J=>simp at hu
  | (o,t)::f'::l,J=>
   obtain⟨a',b',rfl,rfl,⟨ti',ht',rfl⟩,J⟩:=J;rw[List.getElem?_cons_succ] at hu;obtain⟨ti,U,h1,h2,h3,h4,h5,h6⟩:=ih J hu;have hl:Nat.beq (f+1+1) ((o,t)::f'::l).length=Nat.beq (f+1) (f'::l).length:=rfl
   rw[hl];refine⟨ti,U,by omega,by simp only[Sh.size_prod];omega,?_,fun x=>?_,fun c=>?_,fun b o' c=>?_⟩
   ·exact h3
   ·exact h4 _
   ·show Qm w b' (fun k=>c (ti'.sh.size+k)) _=_
    grind
   ·show Qi b' (some (b,o'+ti'.sh.size)) w _ _=_
    grind
theorem Qo1 {w:World}:∀(p:List Step) {S s:Sh} {base:Option (Nat×Nat)} {c:Nat->Option Value} {q:List Step} {u:Nat×Nat},getS S p=some s->Qi S base w c p=some u->
  Qi S base w c (p++q)=Qi s (some u) w (Qm w S c p) q:=by
 intro p;induction p with
 | nil=>intro S s base c q u h hu;simp[getS,aLb] at h;subst h;simp[Qi] at hu;subst hu;simp[aLx,Qm]
 | cons st p I=>
  intro S s base c q u h hu;cases S with
  | prod a b=>cases st<;>first | (simp[getS] at h;done) | exact I h hu
  | list s'=>
   cases st with
   | fst=>simp[getS] at h
   | snd=>simp[getS] at h
   | sub l U=>exact I h hu
   | idx i=>
    simp[aMs,Qi,Qm] at hu ⊢;split at hu
    ·rename_i ad n cap J
     first
      | (simp[J];exact I h hu)
      | exact I h hu
    simp_all
  | int k=>cases st<;>simp[getS] at h
  | bool=>cases st<;>simp[getS] at h
  | str=>cases st<;>simp[getS] at h
  | fn1 a r rf=>cases st<;>simp[getS] at h
  | fn2 a b r=>cases st<;>simp[getS] at h
theorem Qld:∀(p:List Step) {S s:Sh} {q:List Step},getS S p=some s->getS S (p++q)=getS s q:=by
 intro p;induction p with
 | nil=>intro S s q h;simp[getS] at h;subst h;rfl
 | cons st p I=>intro S s q h;cases S<;>cases st<;>first | (simp[getS] at h;done) | exact I h
theorem QiW:∀(p:List Step) {S s:Sh} {X:S.den} {q:List Step},getS S p=some s->QG S X p->(∀x,QG s x q)->QG S X (p++q):=by
 intro p;induction p with
 | nil=>intro S s X q h _ I;simp[getS] at h;subst h;exact I X
 | cons st p U=>intro S s X q h J I;cases S<;>cases st<;>first | (simp[getS] at h;done) | exact U h J I | exact⟨J.1,U h J.2 I⟩
theorem Qgu:∀(p:List Step) {S:Sh} {F:Fl} {q:List Step},Qh S F (p++q)=true->Qh S F p=true:=by
 intro p;induction p with
 | nil=>intro S F q _;simp[Qh]
 | cons st p I=>
  intro S F q h;cases S<;>cases st<;>first | (simp[Qh] at h;done) | exact I h | (simp only[aMs,Qh,aLg] at h ⊢;exact⟨h.1,I h.2⟩)
theorem Qsj {r:Root} {ver:Nat} {p:List Step} {s:Sh} (I:e.placeSh r ver p=some s):(e.root r).stamp p=ver/\∃S F X,(e.root r).d=.v S F X/\getS S p=some s:=by
 unfold Env.placeSh at I;cases hb:Nat.beq ((e.root r).stamp p) ver with
 | false=>simp_all
 | true=>
  refine⟨aLw hb,?_⟩
  grind
theorem ZR {S S':Sh} {F F':Fl} {X:S.den} {I:S'.den} (h:Desc.v S F X=Desc.v S' F' I):∃J:S=S',F=F'/\J ▸ X=I:=by
 grind
theorem Qit {t:TypeId} {ti:TI} {fs:List (Nat×TypeId)} (hT:QR P C) (ht:C.ty t=some ti) (htd:ti.td=.struct fs) {f:Nat} {u:Nat×TypeId} (hu:fs[f]? = some u) (ad:Addr) :
  (Instr.fieldAt t (.pointer (some ad)) f).run P w=.ok (.pointer (some (ad.add u.1))) w:=by
 have I:=(hT t ti ht).und
 rw[htd] at I;obtain⟨⟨fields,h1,h2,h3⟩,h4,h5,h6,h7⟩:=I;rw[<-h2,List.getElem?_map,aLd] at hu;obtain⟨fd,J,rfl⟩:=hu;have U:fields[f]? = some fd:=by simpa using J
 obtain⟨ti',ht',_⟩:=Qbs w f h4 (by rw[<-h2,List.getElem?_map,J];rfl)
 have hsz:=run_sizeOf (hT _ _ ht') w
 have hpos:¬ti'.sh.size=0:=by have:=Sh.size_pos ti'.sh;omega
 simp[Instr.fieldAt,run_underlying h1,U,Instr.sureAddr,fieldPlace,hsz,hpos]
theorem QoX (h:Rel P B g e a w) {frz:Fz} {o:Oper} {x:Operand} (ho:o.op=.nilCheck x) {f:Eff} {e':Env} (J:Qn C frz e o=some f) (hf:f.gives e'):QD P B a w o e':=by
 obtain⟨Tx,I,_,_⟩:=QC h x;simp[Qn,ho] at J;split at J
 ·rename_i r ver p hd
  simp at J;subst J;obtain rfl:e'=_:=hf;rw[hd] at I;obtain⟨ad,hv⟩:=I.1;exact .value (by simp[execOp,ho,hv]) (Q7 h o.dst rfl I)
 ·rename_i s y hd
  simp at J;subst J;obtain rfl:e'=_:=hf;rw[hd] at I;have U:=I
  obtain⟨b,off,hv,_⟩:=U;exact .value (by simp[execOp,ho,hv]) (Q7 h o.dst rfl I)
 ·rename_i s y hd
  simp at J;subst J;obtain rfl:e'=_:=hf;rw[hd] at I;have U:=I
  obtain⟨hb,ho',b,off,hv,_⟩:=U;exact .value (by simp[execOp,ho,hv]) (Q7 h o.dst rfl I)
 simp_all
theorem QdB {m n:Nat} (h:Nat.blt m n=true):m<n:=by simp_all
theorem Qig:∀(p q:List Step),QK q=true->QK (p++q)=QK p
 | [],q,h=>h
 | .fst::p,q,h=>Qig p q h
 | .snd::p,q,h=>Qig p q h
 | .idx _::p,q,h=>rfl
 | .sub _ _::p,q,h=>rfl
theorem QjH:∀(n:Nat) (b:Bool),QK (fstep n b)=true
 | 0,true=>rfl
 | 0,false=>rfl
 | n+1,b=>QjH n b
theorem QkA:∀(p:List Step) (i:Int),QK (p++[.idx i])=false
 | [],i=>rfl
 | .fst::p,i=>QkA p i
 | .snd::p,i=>QkA p i
 | .idx _::p,i=>rfl
 | .sub _ _::p,i=>rfl
theorem QsW {c:Cel} {p:List Step} {i:Int}:c.stamp (p++[.idx i])=c.ver:=by simp[Cel.stamp,QkA]
theorem Qkq:∀(p:List Step) (l h:Int),QK (p++[.sub l h])=false
 | [],l,h=>rfl
 | .fst::p,l,h=>Qkq p l h
 | .snd::p,l,h=>Qkq p l h
 | .idx _::p,l,h=>rfl
 | .sub _ _::p,l,h=>rfl
theorem QrX {c:Cel} {p:List Step} {l h:Int}:c.stampB (p++[.sub l h])=c.ver:=by simp[Cel.stampB,Qkq]
theorem QtY {c:Cel} {p:List Step} {n:Nat} {b:Bool}:c.stampB (p++fstep n b)=c.stampB p:=by
 simp[Cel.stampB,Qig p _ (QjH n b)]
theorem Qvl {c:Cel} {p:List Step} {n:Nat} {b:Bool}:c.stamp (p++fstep n b)=c.stamp p:=by
 simp[Cel.stamp,Qig p _ (QjH n b)]
theorem Qno (hT:QR P C) (h:Rel P B g e a w) {frz:Fz} {o:Oper} {t:TypeId} {x:Operand} {n:Nat} (ho:o.op=.fieldAddr t x n) {f:Eff} {e':Env} (I:Qn C frz e o=some f) (hf:f.gives e'):QD P B a w o e':=by
 obtain⟨Tx,hx,_,_⟩:=QC h x;simp only[Qn,ho,aLa] at I;obtain⟨ti,hti,I⟩:=I;split at I
 ·rename_i fs htd
  have hund:=(hT t ti hti).und
  rw[htd] at hund;obtain⟨_,h4,h5,_⟩:=hund;cases hlt:Nat.blt n fs.length with
  | false=>simp[hlt] at I
  | true=>
   rw[hlt,aLB] at I;obtain⟨u,hu⟩:∃u,fs[n]? = some u:=⟨_,aLf (QdB hlt)⟩;obtain⟨tj,htj,q1,q2,q3,q4,q5,q6⟩:=Qbs w n h4 hu;split at I
   ·rename_i r ver p hd
    obtain⟨s,hps,I⟩:=aLa.1 I;by_cases U:s=ti.sh
    ·subst U
     simp only[aMc,aLB,aLb] at I;subst I;obtain rfl:e'=_:=hf;rw[hd] at hx;obtain⟨⟨ad,hv⟩,hle,hloc⟩:=hx;obtain⟨hver,S,F,X,hdr,hg⟩:=Qsj hps;refine .value (v:=.pointer (some (ad.add u.1))) (by simp[execOp,ho,hv,Qit hT hti htd hu]) (Q7 h o.dst rfl (T:=Tx) ⟨⟨_,rfl⟩,by rw[Qvl];exact hle,fun _=>⟨fun hp=>?_,fun S' F' X' hdr'=>?_⟩⟩)
     ·simp only[List.append_eq_nil_iff] at hp
      obtain⟨rfl,hp⟩:=hp;obtain⟨b,off,hA,J⟩:=(hloc hver).1 rfl;have h0:=q6 b off (fun _=>none)
      rw[hp] at h0;simp only[Qi,aLb,aLe,true_and] at h0;rw[hv] at J;simp only[Value.pointer.injEq,aLb] at J;subst J;exact⟨b,off,hA,by rw[QbZ];congr;omega⟩
     ·rw[hdr] at hdr'
      obtain⟨rfl,rfl,hX⟩:=ZR hdr';subst hX;obtain⟨hpo,hcl⟩:=(hloc hver).2 S F X hdr;refine⟨QiW p hg hpo q4,fun hn=>?_⟩
      obtain⟨b,off,hA,J⟩:=hcl (Qgu p hn);rw[hv] at J;simp only[Value.pointer.injEq,aLb] at J;subst J;refine⟨b,off+u.1,?_,by rw[QbZ]⟩
      rw[Qo1 p hg hA,q6];simp
    ·simp[U] at I
   ·rename_i s y hd
    by_cases U:s=ti.sh
    ·subst U
     simp only[aMc,aLB,aLa] at I;obtain⟨y',hy',I⟩:=I;simp only[aLb] at I;subst I;obtain rfl:e'=_:=hf;rw[hd] at hx;obtain⟨b,off,hv,hz,hrep⟩:=hx;refine .value (by simp[execOp,ho,hv,Qit hT hti htd hu,QbZ]) (Q7 h o.dst rfl (T:=Tx) ⟨b,off+u.1,rfl,hz,?_⟩)
     have hget:=RepC.get _ hrep (q4 y) hy'
     have hfl:y'.fl=.z:=by
      have:∀(q:List Step) {S:Sh} {X:S.den} {z:Dv},getP S .z X q=some z->z.fl=.z:=by
       intro q;induction q with
       | nil=>intro S X z hz;simp only[getP,aLb] at hz;subst hz;rfl
       | cons st q ih=>intro S X z hz;cases S<;>cases st<;>first | (simp[getP] at hz;done) | exact ih hz
      exact this _ hy'
     rw[hfl,q5] at hget;refine RepC.congr (fun k _=>?_) hget
     simp only[Qd];congr 2;omega
    ·simp[U] at I
   ·cases I
 ·cases I
end Go.Dx
namespace Go.Dx
variable {P:Program} {B:Base} {g:Gh} {e:Env} {a:Act} {w:World} {C:Ctx}
theorem QmR {f:Fl} (h:f.isx=false):f ≠ .x:=by rintro rfl;cases h
theorem Qs9 {f:Fl} (h:f.isl=true):f.isz=true\/∃g,f=.o g:=by
 cases f with
 | z=>exact .inl rfl
 | o g=>simp_all
 | x=>cases h
 | p a b=>cases h
 | h f0 i0=>cases h
theorem QwR {f:Fl} (h:f.isl=true):f ≠ .x:=by rintro rfl;cases h
theorem QqL {w:World}:∀(p:List Step) {S:Sh},Qm w S (fun _=>none) p 0=none:=by
 intro p;induction p with
 | nil=>intro S;simp[Qm]
 | cons st p I=>
  intro S;cases S<;>cases st<;>first | exact I | (simp[Qm];done) | (simp;exact I) | (simp only[Qm,QdX];have:=@I;simp;exact I)
theorem Qmm {s:Sh} {b off n cap:Nat} {i:Int}:∀(p:List Step) {S:Sh} {c:Nat->Option Value} {base:Option (Nat×Nat)},getS S p=some (.list s)->Qm w S c p 0=some (.slice (some ⟨b,off,none⟩) n cap)->
  Qi S base w c (p++[.idx i])=some (b,off+i.toNat * s.size):=by
 intro p;induction p with
 | nil=>
  intro S c base h I;simp[getS,aLb] at h;subst h;simp[Qm] at I;simp[aLx,Qi,I]
 | cons st p U=>
  intro S c base h I;cases S with
  | prod a b'=>cases st<;>first | (simp[getS] at h;done) | exact U h I
  | list s'=>
   cases st with
   | fst=>simp[getS] at h
   | snd=>simp[getS] at h
   | sub l h'=>exact U h I
   | idx j=>
    simp[aMs,Qi];simp[Qm] at I;have bad:Qga w s' j (c 0)=(fun _=>none)->False:=fun hb=>by rw[hb,QqL] at I;cases I
    cases J:c 0 with
    | none=>exact (bad (by rw[J];rfl)).elim
    | some u=>
     cases u with
     | slice A n' cap'=>
      cases A with
      | none=>exact (bad (by rw[J];rfl)).elim
      | some ad=>rw[J] at I;exact U h I
     | _=>exact (bad (by rw[J];rfl)).elim
  | int k=>cases st<;>simp[getS] at h
  | bool=>cases st<;>simp[getS] at h
  | str=>cases st<;>simp[getS] at h
  | fn1 a r rf=>cases st<;>simp[getS] at h
  | fn2 a b r=>cases st<;>simp[getS] at h
theorem QuS {f:Fl} {Z S:Nat->Prop} {v:Value} {l:List UInt8} (I:f ≠ .x) (h:RepV P .str f Z w S v l):v=.string ⟨l.toArray⟩:=by
 have h1:v.cells = #[v]:=h.1
 have h2:=h.2 I
 simp[Qg,h1] at h2
 simp_all
theorem QsB (hT:QR P C) (h:Rel P B g e a w) {frz:Fz} {o:Oper} {t:TypeId} {x i:Operand} (ho:o.op=.index t x i) {f:Eff} {e':Env} (I:Qn C frz e o=some f) (hf:f.gives e'):QD P B a w o e':=by
 obtain⟨Tx,hx,_,_⟩:=QC h x;obtain⟨Ti,hi,_,_⟩:=QC h i;simp only[Qn,ho,aLa] at I;obtain⟨ti,hti,⟨k,n⟩,hn,I⟩:=I;have hiv:=Qfo h hi hn
 split at I
 ·rename_i s hsh hrd
  simp at I;subst I;obtain⟨hc,rfl⟩:=hf;obtain⟨S1,f1,o1,r1,_⟩:=QbC h hx hrd;have hv:=JV o1 r1
  simp only[inB,aLg,aLF] at hc;have J:P.underlying t=some .string:=by
   have hu:=(hT t ti hti).und
   revert hu;cases htd:ti.td<;>simp only<;>intro hu
   ·simp_all
   ·simp_all
   ·exact hu.1
   ·simp_all
   ·simp_all
   ·have:=hu.2.1.prod hu.2.2.1;rw[hsh] at this;cases this
   ·simp_all
   simp_all
  have U:n.toNat<s.length:=by omega
  have hb:(⟨List.toArray s⟩:ByteArray)[n.toNat]? = some (List.getD s n.toNat 0):=by
   have hsz:n.toNat<(⟨List.toArray s⟩:ByteArray).size:=by simpa [ByteArray.size] using U
   rw[getElem?_pos (⟨List.toArray s⟩:ByteArray) n.toNat hsz];rw[aLk,aLf U];rfl
  refine .plain h ?_ (QbM _);simp[execOp,ho,hv,hiv,Instr.index,asIntOf,run_underlying J,hc.1,hb]
 ·cases I
theorem QgJ (U:QR P C) {t:TypeId} {ti:TI} (I:C.ty t=some ti) {s:Sh} (J:ti.sh=.list s):∃el te,P.underlying t=some (.slice el)/\C.ty el=some te/\te.sh=s:=by
 have hu:=(U t ti I).und
 revert hu;cases htd:ti.td<;>simp only<;>intro hu
 ·simp_all
 ·simp_all
 ·simp_all
 ·grind
 ·simp_all
 ·have:=hu.2.1.prod hu.2.2.1;rw[J] at this;cases this
 ·simp_all
 simp_all
theorem QiV (U:QR P C) {t:TypeId} {ti:TI} (I:C.ty t=some ti) (J:ti.sh=.str):P.underlying t=some .string:=by
 have hu:=(U t ti I).und
 revert hu;cases htd:ti.td<;>simp only<;>intro hu
 ·simp_all
 ·simp_all
 ·simp_all
 ·simp_all
 ·simp_all
 ·have:=hu.2.1.prod hu.2.2.1;rw[J] at this;cases this
 ·simp_all
 simp_all
theorem QjC {s:Sh} {f:Fl} {Z S:Nat->Prop} {v:Value} {l:List s.den} (I:f.isz=true\/∃g,f=.o g) (h:RepV P (.list s) f Z w S v l):∃A cap,v=.slice A l.length cap/\l.length<=cap/\(0<l.length->∃b off,A=some ⟨b,off,none⟩):=by
 have h1:v.cells = #[v]:=h.1
 rcases I with I | ⟨g,rfl⟩
 ·obtain rfl:=Qac I
  obtain⟨A,n,cap,h2,h3,h4,h5⟩:=h.2;simp only[Qg,h1] at h2;simp at h2;subst h2;subst h3
  grind
 ·obtain⟨A,n,cap,h2,h3,h4,h5⟩:=h.2
  simp only[Qg,h1] at h2;simp at h2;subst h2;subst h3
  grind
theorem Qrs {f:Fl} (h:f.islh=true):f ≠ .x:=by rintro rfl;cases h
theorem Qn3 {s:Sh} {f:Fl} {Z S:Nat->Prop} {v:Value} {l:List s.den} (I:f.islh=true) (h:RepV P (.list s) f Z w S v l):∃A cap,v=.slice A l.length cap/\l.length<=cap/\(0<l.length->∃b off,A=some ⟨b,off,none⟩):=by
 cases f with
 | z=>exact QjC (.inl rfl) h
 | o g=>exact QjC (.inr ⟨g,rfl⟩) h
 | h g i=>
  have h1:v.cells = #[v]:=h.1
  obtain⟨A,n,cap,h2,h3,h4,b,off,arr,e,J,_⟩:=h.2;simp only[Qg,h1] at h2;simp at h2;subst h2;subst h3
  grind
 | x=>cases I
 | p a b=>cases I
theorem Qis (hT:QR P C) {t:TypeId} {ti:TI} (I:C.ty t=some ti) {s:Sh} (J:ti.sh=.list s) {b off n cap:Nat} {k:IntKind} {i:Int} (h0:0<=i) (h1:i<(n:Int)) :
  (Instr.indexAt t (.slice (some ⟨b,off,none⟩) n cap) (.int k i)).run P w=.ok (.pointer (some ⟨b,off+i.toNat * s.size,none⟩)) w:=by
 obtain⟨el,te,hu,U,rfl⟩:=QgJ hT I J;have hsz:=run_sizeOf (hT _ _ U) w
 simp[Instr.indexAt,asIntOf,run_underlying hu,h0,h1,hsz,QbZ]
theorem Qng (hT:QR P C) (h:Rel P B g e a w) {frz:Fz} {o:Oper} {t:TypeId} {x i:Operand} (ho:o.op=.indexAddr t x i) {f:Eff} {e':Env} (hs:Qn C frz e o=some f) (hf:f.gives e'):QD P B a w o e':=by
 obtain⟨Tx,hx,hxt,hxn⟩:=QC h x;obtain⟨Ti,hi,_,_⟩:=QC h i;simp only[Qn,ho,aLa] at hs;obtain⟨ti,hti,⟨k,n⟩,hn,y,J,hs⟩:=hs;have hiv:=Qfo h hi hn
 split at hs
 ·rename_i s fl xs
  cases hc:decide (ti.sh=.list s)&&fl.islh with
  | false=>simp[hc] at hs
  | true=>
   rw[hc,aLB] at hs;simp only[aLg,aLF] at hc;obtain⟨hsh,hnx⟩:=hc;obtain⟨d,hd,hs⟩:=aLa.1 hs;simp only[aLb] at hs;subst hs;obtain⟨U,rfl⟩:=hf;simp only[inB,aLg,aLF] at U;obtain⟨S1,r1,_⟩:=QgA h hx J (Qrs hnx);simp only at r1;cases hz:fl.isz with
   | true=>
    rw[hz,aLB] at hd;simp only[aLb] at hd;subst hd;obtain rfl:=Qac hz;obtain⟨A,cap,hv,hle,hA⟩:=QjC (.inl rfl) r1;obtain⟨b,off,rfl⟩:=hA (by omega)
    have hrun:=Qis (w:=w) hT hti hsh (b:=b) (off:=off) (cap:=cap) (k:=k) U.1 U.2
    refine .value (v:=.pointer (some ⟨b,off+n.toNat * s.size,none⟩)) (by simp[execOp,ho,hv,hiv,hrun]) (Q7 h o.dst rfl (T:=Tx) ⟨b,off+n.toNat * s.size,rfl,?_,?_⟩)
    ·obtain⟨A',n',cap',e1,e2,e3,e4⟩:=r1.2
     obtain⟨b',off',e5,e6,_⟩:=e4 (by omega)
     have hc0:Qg (a.eval x) 0=some (.slice (some ⟨b,off,none⟩) xs.length cap):=by rw[hv];rfl
     rw[hc0] at e1;simp only[aLb,Value.slice.injEq] at e1;obtain⟨rfl,_,_⟩:=e1;simp only[aLb,Addr.mk.injEq] at e5;rw[e5.1];exact e6
    ·have he:=RepC.shared (Qfb r1.2 U.1 U.2)
     have hc0:Qg (a.eval x) 0=some (.slice (some ⟨b,off,none⟩) xs.length cap):=by rw[hv];rfl
     rw[hc0] at he;exact he
   | false=>
    rw[hz,aLC] at hd;obtain⟨A,cap,hv,hle,hA⟩:=Qn3 hnx r1;obtain⟨b,off,rfl⟩:=hA (by omega)
    have hrun:=Qis (w:=w) hT hti hsh (b:=b) (off:=off) (cap:=cap) (k:=k) U.1 U.2
    have hc0:Qg (a.eval x) 0=some (.slice (some ⟨b,off,none⟩) xs.length cap):=by rw[hv];rfl
    have hexec:(execOp a.eval o).run P w=.ok (.value (.pointer (some ⟨b,off+n.toNat * s.size,none⟩))) w:=by simp[execOp,ho,hv,hiv,hrun]
    cases I:e.opd x with
    | bor r ver p=>
     rw[I] at hd J hx;simp only[aLb] at hd;subst hd;obtain⟨hver,S,F,X,hdr,hg⟩:=h.look J;refine .value hexec (Q7 h o.dst rfl (T:=Tx) ⟨⟨_,rfl⟩,by rw[QsW];exact aMb _,fun _=>⟨fun hp=>by simp at hp,fun S' F' X' hdr'=>?_⟩⟩)
     rw[hdr] at hdr';obtain⟨rfl,rfl,hX⟩:=ZR hdr';subst hX;obtain⟨hpo,hcl⟩:=hx.2 hver S F X hdr;have hpath:QG S X (p++[.idx n]):=by
      have:∀(p:List Step) {S:Sh} {F:Fl} {X:S.den},getP S F X p=some ⟨.list s,fl,xs⟩->QG S X p->QG S X (p++[.idx n]):=by
       intro p;induction p with
       | nil=>intro S F X hg _;simp only[getP,aLb,Dv.mk.injEq] at hg;obtain⟨rfl,_,hX⟩:=hg;have hX:=eq_of_heq hX;subst hX;exact⟨U,by simp only[QG]⟩
       | cons st p ih=>intro S F X hg hp;cases S<;>cases st<;>first | (simp[getP] at hg;done) | exact ih hg hp | exact⟨hp.1,ih hg hp.2⟩
      exact this p hg hpo
     refine⟨hpath,fun hn'=>?_⟩
     obtain⟨hform,hcells⟩:=hcl (Qgu p hn') _ (ZE p hg);refine⟨b,off+n.toNat * s.size,?_,rfl⟩;have hpc:Qm w S (Ql g a w r) p 0=some (.slice (some ⟨b,off,none⟩) xs.length cap):=by rw[<-hcells 0 (Sh.size_pos _)];exact hc0
     exact Qmm p (ZE p hg) hpc
    | v s' f' x'=>
     rw[I] at hd J hx;cases hsl:x.slot with
     | none=>rw[hsl] at hd;simp at hd
     | some t'=>
      rw[hsl] at hd;simp only[aMn,aLb] at hd;subst hd;obtain⟨h1,h2,h3⟩:=hxt t' hsl;rw[I] at h1;simp only[Env.val,aLb,Dv.mk.injEq] at J;obtain⟨rfl,rfl,hX⟩:=J;have hX:=eq_of_heq hX
      subst hX;refine .value hexec (Q7 h o.dst rfl (T:=Tx) ⟨⟨_,rfl⟩,aMb _,fun _=>⟨fun hp=>by simp at hp,fun S' F' X' hdr'=>?_⟩⟩)
      rw[show (e.root (.s t')).d=_ from h1] at hdr'
      obtain⟨rfl,rfl,hX⟩:=ZR hdr';subst hX;refine⟨⟨U,by simp only[QG]⟩,fun _=>⟨b,off+n.toNat * s.size,?_,rfl⟩⟩
      exact Qmm (p:=[]) (by simp only[getS]) (by simp only[Qm,Ql,h2];exact hc0)
    | dead=>rw[I] at J;simp[Env.val] at J
    | und=>rw[I] at J;simp[Env.val] at J
    | nil=>rw[I] at J;simp[Env.val] at J
    | loc r ver p=>rw[I] at J;simp[Env.val] at J
    | rp s x=>rw[I] at J;simp[Env.val] at J
    | rpp s x=>rw[I] at J;simp[Env.val] at J
    | clos j c=>rw[I] at J;simp[Env.val] at J
    | tup l=>rw[I] at J;simp[Env.val] at J
 ·cases hs
end Go.Dx
namespace Go.Dx
variable {P:Program} {B:Base} {g:Gh} {e:Env} {a:Act} {w:World} {C:Ctx}
theorem Qh7 {isS:Bool} {len cap:Nat} {lo hi:Option Value} {l h:Int} (J:(lo=none/\l=0)\/∃k,lo=some (.int k l)) (hh:(hi=none/\h=(len:Int))\/∃k,hi=some (.int k h))
  (h0:0<=l) (h1:l<=h) (h2:h<=(len:Int)) (h3:len<=cap):(Instr.sliceBounds isS len cap lo hi none).run P w=.ok (l.toNat,h.toNat,cap) w:=by
 have I:0<=h:=by omega
 rcases J with ⟨rfl,rfl⟩ | ⟨k,rfl⟩<;>rcases hh with ⟨rfl,rfl⟩ | ⟨k',rfl⟩
 ·rfl
 ·simp[Instr.sliceBounds,Instr.sliceBound,asIntOf,I,show h<=(cap:Int) by omega]
 ·simp[Instr.sliceBounds,Instr.sliceBound,asIntOf,h0,show l<=(len:Int) by omega]
 ·simp[Instr.sliceBounds,Instr.sliceBound,asIntOf,I,show h<=(cap:Int) by omega,h0,show l<=h by omega,show max h 0=h by omega]
theorem Qly (h:Rel P B g e a w) {dflt:Int} {x:Option Operand} {l:Int} (hb:bound e dflt x=some l):(x.map a.eval=none/\l=dflt)\/∃k,x.map a.eval=some (.int k l):=by
 cases x with
 | none=>simp[bound] at hb;exact .inl ⟨rfl,hb.symm⟩
 | some x=>
  simp only[bound,aLd] at hb;obtain⟨⟨k,n⟩,I,rfl⟩:=hb;obtain⟨T,J,_,_⟩:=QC h x;exact .inr ⟨k,by rw[aMn,Qfo h J I]⟩
theorem QsH (hT:QR P C) (h:Rel P B g e a w) {frz:Fz} {o:Oper} {t:TypeId} {x:Operand} {lo hi:Option Operand} (ho:o.op=.slice t x lo hi none) {f:Eff} {e':Env} (U:Qn C frz e o=some f) (hf:f.gives e'):QD P B a w o e':=by
 obtain⟨Tx,hx,hxt,hxn⟩:=QC h x;simp only[Qn,ho,aLa] at U;obtain⟨ti,hti,U⟩:=U;simp only[QqA,aLa] at U;obtain⟨l,hl,y,I,U⟩:=U;have hl':=Qly h hl
 split at U
 ·rename_i fl s
  cases hc:decide (ti.sh=.str)&&!fl.isx with
  | false=>simp[hc] at U
  | true=>
   rw[hc,aLB] at U;simp only[aLg,aLF,Bool.not_eq_true'] at hc;obtain⟨hsh,hnx⟩:=hc;obtain⟨u,hu,U⟩:=aLa.1 U;have hu':=Qly h hu
   simp only[aLb] at U;subst U;obtain⟨hin,rfl⟩:=hf;simp only[QA,aLg,aLF] at hin;obtain⟨⟨i0,i1⟩,i2⟩:=hin;obtain⟨S1,r1,_⟩:=QgA h hx I (QmR hnx);have hv:=QuS (QmR hnx) r1
   have hund:=QiV hT hti hsh
   have hsz:(⟨List.toArray s⟩:ByteArray).size=List.length s:=by simp[ByteArray.size]
   have hsb:=Qh7 (P:=P) (w:=w) (isS:=false) (len:=List.length s) (cap:=List.length s) hl' hu' i0 i1 i2 (aMb _)
   refine .plain h (v:=.string ⟨(cut l u (s:List UInt8)).toArray⟩) ?_ (QfF _);have hext:(⟨List.toArray s⟩:ByteArray).extract l.toNat u.toNat=⟨(cut l u (s:List UInt8)).toArray⟩:=by
    apply ByteArray.ext;simp only[ByteArray.data_extract,cut]
    grind
   simp[execOp,ho,hv,Instr.sliceAt,Instr.slice,run_underlying hund,hsz,hsb,hext]
 ·rename_i s fl xs
  cases hc:decide (ti.sh=.list s)&&fl.isl with
  | false=>simp[hc] at U
  | true=>
   rw[hc,aLB] at U;simp only[aLg,aLF] at hc;obtain⟨hsh,hnx⟩:=hc;obtain⟨u,hu,U⟩:=aLa.1 U;have hu':=Qly h hu
   obtain⟨d,hd,U⟩:=aLa.1 U;simp only[aLb] at U;subst U;obtain⟨hin,rfl⟩:=hf;simp only[QA,aLg,aLF] at hin;obtain⟨⟨i0,i1⟩,i2⟩:=hin;obtain⟨S1,r1,_⟩:=QgA h hx I (QwR hnx);obtain⟨A,cap,hv,hle,hA⟩:=QjC (Qs9 hnx) r1;obtain⟨el,te,hund,hte,hel⟩:=QgJ hT hti hsh;have hsz:=run_sizeOf (hT _ _ hte) w
   rw[hel] at hsz;have hsb:=Qh7 (P:=P) (w:=w) (isS:=true) (len:=List.length xs) (cap:=cap) hl' hu' i0 i1 i2 hle
   have hc0:Qg (a.eval x) 0=some (.slice A xs.length cap):=by rw[hv];rfl
   let v':Value:=.slice (if cap=l.toNat then A else A.map (·.add (l.toNat * s.size))) (u - l).toNat (cap - l.toNat)
   have hun:u.toNat - l.toNat=(u - l).toNat:=by omega
   have hexec:(execOp a.eval o).run P w=.ok (.value v') w:=by
    simp[execOp,ho,hv,Instr.sliceAt,Instr.slice,run_underlying hund,hsb,hsz,v',hun]
   have hsub:QdX s l u (Qg (a.eval x) 0)=some v':=by rw[hc0];rfl
   have hrep:=(QkK r1.2 i0 i1 i2).flagx (g:=fl) (by cases fl<;>first | rfl | simp[Fl.isl] at hnx)
   have hrepv:RepC P (.list s) fl g.Z w S1 (Qg v') (cut l u (xs:List s.den)):=by
    refine RepC.congr (fun k hk=>?_) hrep
    obtain rfl:k=0:=by simp[Sh.size] at hk;exact hk
    rw[if_pos rfl,hsub];rfl
   cases hz:fl.isz with
   | true=>
    rw[hz,aLB] at hd;simp only[aLb] at hd;subst hd;obtain rfl:=Qac hz;exact .plain h hexec ⟨rfl,RepC.shared hrepv⟩
   | false=>
    rw[hz,aLC] at hd;cases J:e.opd x with
    | bor r ver p=>
     rw[J] at hd I hx;simp only[aLb] at hd;subst hd;obtain⟨hver,S,F,X,hdr,hg⟩:=h.look I;refine .value hexec (Q7 h o.dst rfl (T:=Tx) ⟨by rw[QrX];exact aMb _,fun _ S' F' X' hdr'=>?_⟩)
     rw[hdr] at hdr';obtain⟨rfl,rfl,hX⟩:=ZR hdr';subst hX;obtain⟨hpo,hcl⟩:=hx.2 hver S F X hdr;have hpath:QG S X (p++[.sub l u]):=by
      have:∀(p:List Step) {S:Sh} {F:Fl} {X:S.den},getP S F X p=some ⟨.list s,fl,xs⟩->QG S X p->QG S X (p++[.sub l u]):=by
       intro p;induction p with
       | nil=>intro S F X hg _;simp only[getP,aLb,Dv.mk.injEq] at hg;obtain⟨rfl,_,hX⟩:=hg;have hX:=eq_of_heq hX;subst hX;exact⟨⟨i0,i1,i2⟩,by simp only[QG]⟩
       | cons st p ih=>intro S F X hg hp;cases S<;>cases st<;>first | (simp[getP] at hg;done) | exact ih hg hp | exact⟨hp.1,ih hg hp.2⟩
      exact this p hg hpo
     refine⟨hpath,fun hn' s2 hs2=>?_⟩
     rw[Qld p (ZE p hg)] at hs2;simp only[getS,aLb] at hs2;subst hs2;obtain⟨hform,hcells⟩:=hcl (Qgu p hn') _ (ZE p hg);refine⟨rfl,fun k hk=>?_⟩
     obtain rfl:k=0:=by simp[Sh.size] at hk;exact hk
     rw[Qe0 p (ZE p hg)];simp only[Qm,if_pos];rw[<-hcells 0 (Sh.size_pos _),hsub];rfl
    | v s' f' x'=>
     rw[J] at hd I hx;cases hsl:x.slot with
     | none=>rw[hsl] at hd;simp at hd
     | some t'=>
      rw[hsl] at hd;simp only[aMn,aLb] at hd;subst hd;obtain⟨h1,h2,h3⟩:=hxt t' hsl;rw[J] at h1;simp only[Env.val,aLb,Dv.mk.injEq] at I;obtain⟨rfl,rfl,hX⟩:=I;have hX:=eq_of_heq hX
      subst hX;refine .value hexec (Q7 h o.dst rfl (T:=Tx) ⟨aMb _,fun _ S' F' X' hdr'=>?_⟩)
      rw[show (e.root (.s t')).d=_ from h1] at hdr'
      obtain⟨rfl,rfl,hX⟩:=ZR hdr';subst hX;refine⟨⟨⟨i0,i1,i2⟩,by simp only[QG]⟩,fun _ s2 hs2=>?_⟩
      simp only[getS,aLb] at hs2;subst hs2;refine⟨rfl,fun k hk=>?_⟩
      obtain rfl:k=0:=by simp[Sh.size] at hk;exact hk
      simp only[Qm,if_pos,Ql,h2];rw[hsub];rfl
    | dead=>rw[J] at I;simp[Env.val] at I
    | und=>rw[J] at I;simp[Env.val] at I
    | nil=>rw[J] at I;simp[Env.val] at I
    | loc r ver p=>rw[J] at I;simp[Env.val] at I
    | rp s x=>rw[J] at I;simp[Env.val] at I
    | rpp s x=>rw[J] at I;simp[Env.val] at I
    | clos j c=>rw[J] at I;simp[Env.val] at I
    | tup l=>rw[J] at I;simp[Env.val] at I
 ·cases U
theorem QuC (hT:QR P C) (h:Rel P B g e a w) {frz:Fz} {o:Oper} {x:Operand} {at_:Array TypeId} (ho:o.op=.call { callee:=.builtin .len,args:=#[x],argTypes:=at_ }) {f:Eff} {e':Env} (I:Qn C frz e o=some f) (hf:f.gives e'):QD P B a w o e':=by
 obtain⟨Tx,hx,hxt,hxn⟩:=QC h x;simp only[Qn,ho,aLa] at I;obtain⟨ti,hti,I⟩:=I;obtain⟨t0,hat,hti⟩:=hti;have hlist:∀{s:Sh} {A:Option Addr} {n cap:Nat},ti.sh=.list s->a.eval x=.slice A n cap->e'=e.dst o.dst (.v (.int .i64) .z (n:Int))->QD P B a w o e':=by
  intro s A n cap hsh hv he;subst he;obtain⟨el,te,U,hte,hel⟩:=QgJ hT hti hsh;exact .plain h (v:=.int .i64 (n:Int)) (by simp[execOp,ho,hv,resolve,invoke,builtin,Builtin.len_,hat,run_underlying U,goInt]) (QbM _)
 have other:∀{y:Dv},e.val (e.opd x)=some y->(bif decide (y.sh=ti.sh)&&okS y.sh y.fl then (match y with
       | ⟨.str,_,s⟩=>some (Eff.done (e.dst o.dst (.v (.int .i64) .z (List.length s:Int))))
       | ⟨.list _,_,xs⟩=>some (Eff.done (e.dst o.dst (.v (.int .i64) .z (List.length xs:Int))))
       | _=>none) else none)=some f->QD P B a w o e':=by
  intro y hy I;cases hc:decide (y.sh=ti.sh)&&okS y.sh y.fl with
  | false=>simp[hc] at I
  | true=>
   rw[hc,aLB] at I;simp only[aLg,aLF] at hc;obtain⟨hsh,hok⟩:=hc;obtain⟨S1,r1,_⟩:=QgA h hx hy (Yo hok);split at I
   ·rename_i fl s
    simp only[aLb] at I;subst I;obtain rfl:e'=_:=hf;have hv:=JV hok r1
    have U:=QiV hT hti hsh.symm
    have hsz:(⟨List.toArray s⟩:ByteArray).size=List.length s:=by simp[ByteArray.size]
    exact .plain h (v:=.int .i64 (List.length s:Int)) (by simp[execOp,ho,hv,resolve,invoke,builtin,Builtin.len_,hat,run_underlying U,goInt,hsz]) (QbM _)
   ·rename_i s fl xs
    simp only[aLb] at I;subst I;obtain rfl:e'=_:=hf;obtain⟨A,cap,hv,_⟩:=QuN hok r1;exact hlist hsh.symm hv rfl
   ·cases I
 cases J:e.opd x with
 | nil=>
  rw[J] at I hx;have hv:a.eval x=.slice none 0 0:=hx
  cases hl:QmU ti.sh with
  | false=>simp[hl] at I
  | true=>
   simp only[hl,aLB,aLb] at I;subst I;obtain rfl:e'=_:=hf;have:∃s,ti.sh=.list s:=by revert hl;cases ti.sh<;>simp[QmU]
   grind
 | v s' f' x'=>rw[J] at I hx;obtain⟨y,hy,I⟩:=aLa.1 I;rw[<-J] at hy;exact other hy I
 | bor r ver p=>rw[J] at I hx;obtain⟨y,hy,I⟩:=aLa.1 I;rw[<-J] at hy;exact other hy I
 | dead=>rw[J] at I;simp[Env.val] at I
 | und=>rw[J] at I;simp[Env.val] at I
 | loc r ver p=>rw[J] at I;simp[Env.val] at I
 | rp s x=>rw[J] at I;simp[Env.val] at I
 | rpp s x=>rw[J] at I;simp[Env.val] at I
 | clos j c=>rw[J] at I;simp[Env.val] at I
 | tup l=>rw[J] at I;simp[Env.val] at I
theorem Qva (h:Rel P B g e a w) {frz:Fz} {o:Oper} {x y:Operand} {at_:Array TypeId} (ho:o.op=.call { callee:=.builtin .min,args:=#[x,y],argTypes:=at_ }) {f:Eff} {e':Env} (I:Qn C frz e o=some f) (U:f.gives e'):QD P B a w o e':=by
 obtain⟨Tx,hx,_,_⟩:=QC h x;obtain⟨Ty,hy,_,_⟩:=QC h y;simp only[Qn,ho,aLa] at I;obtain⟨⟨k,m⟩,hm,⟨k',n⟩,hn,I⟩:=I;have hv:=Qfo h hx hm
 have hu:=Qfo h hy hn
 by_cases hk:k=k'
 ·subst hk
  simp at I;subst I;obtain rfl:e'=_:=U;have J:(if n<m then n else m)=min m n:=by rw[Int.min_def];split<;>split<;>omega
  exact .plain h (by simp[execOp,ho,hv,hu,resolve,invoke,builtin,Builtin.min_,Builtin.min2,J]) (QbM _)
 simp_all
theorem QqI (h:Rel P B g e a w) {frz:Fz} {o:Oper} {x:Operand} {n:Nat} (ho:o.op=.extract x n) {f:Eff} {e':Env} (hs:Qn C frz e o=some f) (hf:f.gives e'):QD P B a w o e':=by
 obtain⟨g0,_,hcl,h0⟩:=h.clean;clear h;have h:=h0
 obtain⟨Tx,hx,hxt,_⟩:=QC h x;simp only[Qn,ho] at hs;split at hs
 ·rename_i l t hd hsl
  obtain⟨h1,h2,rfl⟩:=hxt t hsl;rw[hd] at hx h1;obtain⟨vs,hv,hsz,q,hq⟩:=hx;split at hs
  ·rename_i y hy
   have hn:n<l.length:=(aLy.1 hy).1
   have hvn:vs[n]? = some (vs[n]'(by omega)):=Array.getElem?_eq_getElem (by omega)
   have J:(execOp a.eval o).run P w=.ok (.value (vs[n]'(by omega))) w:=by simp[execOp,ho,hv,Instr.extract,hvn]
   have U:=hq n y _ hy hvn
   cases hz:y.fl.isz with
   | true=>
    simp only[hz,aLB,aLb] at hs;subst hs;obtain rfl:e'=_:=hf;have hyz:=Qac hz
    obtain⟨sh,fl,xx⟩:=y;simp only at hyz;subst hyz;exact .plain h J (RepV.shared U)
   | false=>
    simp only[hz,aLC,aLb] at hs;subst hs;obtain rfl:e'=_:=hf;let T:Nat->Prop:=fun j=>g0.ow j=.s t/\q j=n
    have hi:t<e.sl.length:=by
     rcases aMg t e.sl.length with h' | h'
     ·exact h'
     ·rw[Env.s,Qfq h'] at h1;cases h1
    have hS:∀j,(e.setS t (.tup (l.set n ⟨y.sh,.x,y.x⟩))).s j=if t=j then ⟨(e.s t).ver+1,.tup (l.set n ⟨y.sh,.x,y.x⟩),(e.s t).id+1,(e.s t).hv+1⟩ else e.s j:=fun j=>QfV hi
    have hown:∀j,¬T j->(g0.re T (.fl 0)).ow j=g0.ow j:=fun j hj=>Gh.re_out hj
    have I:∀j tg,tg ≠ .s t->g0.ow j=tg->(g0.re T (.fl 0)).ow j=tg:=fun j tg htg hj=>(hown j fun hT=>htg (hj.symm.trans hT.1)).trans hj
    have hmid:Rel P B (g0.re T (.fl 0)) (e.setS t (.tup (l.set n ⟨y.sh,.x,y.x⟩))) a w:=by
     refine h.step (fun j=>j=t) (fun _=>False) (by simpa [Env.setS,upd] using h.lens) h.defers (fun j hj=>⟨by rw[hS,if_neg (Ne.symm hj)],rfl⟩) (fun j _=>⟨rfl,rfl⟩)
      (fun j hj=>by subst hj;rw[hS,if_pos rfl];exact aMp _) (fun _ h=>h.elim) (fun j hj=>by subst hj;exact QiG hi) (fun _ h=>h.elim) (fun j hj=>by subst hj;exact Qhl hi) (fun _ h=>h.elim) (fun j hj=>⟨I j _ (by simp) hj,rfl⟩)
      (fun j m hj hm=>⟨I m _ (by simp;exact hj) hm,rfl⟩) (fun j m hj hm=>⟨I m _ (by simp) hm,rfl⟩) (fun j m hj hm=>⟨I m _ (by simp) hm,rfl⟩)
      (Streams.refl _) (fun _ _ _=>rfl) (fun j h3 h4 h5=>I j _ (by simp) (h.nn j h3 h4 h5)) (fun j hj=>h.lt j fun h0=>hj (I j _ (by simp) h0)) (fun _ _ h=>h.elim) (fun _ j hj=>?_) (fun _ j hj=>hj.elim)
     subst hj;rw[hS,if_pos rfl,h2,hv];refine⟨vs,rfl,by simp[hsz],q,fun i yi ui hyi hui=>?_⟩
     by_cases hin:n=i
     ·subst hin
      rw[List.getElem?_set_self hn] at hyi;simp only[aLb] at hyi;subst hyi;rw[hvn] at hui;simp only[aLb] at hui;subst hui;exact⟨U.1,RepC.gone⟩
     ·rw[List.getElem?_set_ne hin] at hyi
      exact (hq i yi ui hyi hui).frame (fun j hj=>I j _ (by simp) hj) (fun j hj=>⟨(hown j fun hT=>hin (hT.2.symm.trans hj.2)).trans hj.1,hj.2⟩) (fun _ _=>rfl)
    have hfl:RepV P y.sh y.fl (g0.re T (.fl 0)).Z w ((g0.re T (.fl 0)).S (.fl 0)) (vs[n]'(by omega)) y.x:=
     U.frame (fun j hj=>I j _ (by simp) hj) (fun j hj=>Gh.re_in hj) (fun _ _=>rfl)
    obtain⟨g',_,_,h'⟩:=hmid.dst 0 o.dst (d:=.v y.sh y.fl y.x) hfl;exact .value J ⟨g',h'⟩
  ·cases hs
 ·cases hs
theorem Qo4 (h:Rel P B g e a w) {frz:Fz} {o:Oper} {j:FuncId} {fi cs:Array Operand} (ho:o.op=.makeFunc (.func j) fi cs) {f:Eff} {e':Env} (J:Qn C frz e o=some f) (hf:f.gives e'):QD P B a w o e':=by
 simp only[Qn,ho] at J;cases hc:fi.toList.isEmpty&&(cs.toList.map e.opd).all Z7 with
 | false=>grind
 | true=>
  rw[hc,aLB] at J;simp at J;subst J;obtain rfl:e'=_:=hf;simp only[aLg,List.all_eq_true] at hc;obtain⟨U,hall⟩:=hc;have U:fi = #[]:=by cases fi;simpa using U
  subst U;refine .value (v:=.func (.func j) #[] (cs.map a.eval)) (by simp[execOp,ho,Instr.makeFunc]) (Q7 h o.dst rfl (T:=.none) ⟨cs.toList.map a.eval,by simp[<-Array.toList_map],by simp,fun i d u hd hu=>?_⟩)
  rw[List.getElem?_map,aLd] at hd hu;obtain⟨x,hx,rfl⟩:=hd;obtain⟨x',hx',rfl⟩:=hu;rw[hx] at hx';simp at hx';subst hx';have J:=hall (e.opd x) (List.mem_map_of_mem (List.mem_of_getElem? hx))
  refine⟨J,?_⟩;obtain⟨T,hd,_⟩:=QC h x;cases I:e.opd x with
  | v s f y=>
   rw[I] at hd J;obtain rfl:=Qac J;exact RepV.shared hd
  | loc r ver p=>rw[I] at hd;exact hd
  | rp s y=>rw[I] at hd;exact hd
  | rpp s y=>rw[I] at hd;exact hd
  | dead=>rw[I] at J;cases J
  | und=>rw[I] at J;cases J
  | nil=>rw[I] at J;cases J
  | bor r ver p=>rw[I] at J;cases J
  | clos j c=>rw[I] at J;cases J
  | tup l=>rw[I] at J;cases J
end Go.Dx
namespace Go.Dx
variable {P:Program} {B:Base} {g:Gh} {e:Env} {a:Act} {w:World} {C:Ctx}
theorem Qq2 {w:World}:∀(p:List Step) {S:Sh} {base:Option (Nat×Nat)} {c:Nat->Option Value} {b o:Nat},
  (∀hb ho,base=some (hb,ho)->c=Qd w hb ho)->Qi S base w c p=some (b,o)->Qm w S c p=Qd w b o:=by
 intro p;induction p with
 | nil=>intro S base c b o hb I;simp only[Qi] at I;simp only[Qm];exact hb b o I
 | cons st p U=>
  intro S base c b o hb I;cases S with
  | prod x y=>
   cases st with
   | fst=>exact U hb I
   | snd=>
    refine U (fun hb' ho h=>?_) I
    obtain⟨u,hu,J⟩:=aLd.1 h;simp only[aLe] at J;rw[hb u.1 u.2 (by rw[hu])]
    funext k
    rw[<-J.1,<-J.2];simp[Qd,aMh]
   | idx i=>simp[Qi] at I
   | sub l h=>simp[Qi] at I
  | list s=>
   cases st with
   | fst=>simp[Qi] at I
   | snd=>simp[Qi] at I
   | sub l h=>exact U (fun _ _ h=>by cases h) I
   | idx i=>
    simp only[Qi] at I;split at I
    ·rename_i ad n cap hc
     simp only[Qm,Qga,hc]
     grind
    ·cases I
  | int k=>cases st<;>simp[Qi] at I
  | bool=>cases st<;>simp[Qi] at I
  | str=>cases st<;>simp[Qi] at I
  | fn1 a r rf=>cases st<;>simp[Qi] at I
  | fn2 a b r=>cases st<;>simp[Qi] at I
theorem QhZ {t:TypeId} {ti:TI} (h:TyOk P C t ti) {w:World} {b o:Nat} (hc:∀k,k<ti.sh.size->∃v,Qd w b o k=some v/\v.cells = #[v]) :
  ∃v,(Instr.loadAt t (.pointer (some ⟨b,o,none⟩))).run P w=.ok v w/\Ys ti.sh v/\∀k,k<ti.sh.size->Qg v k=Qd w b o k:=by
 have I:=Qch h w
 have hsz:=run_sizeOf h w
 cases hp:QY ti.sh with
 | true=>
  let cs:List Value:=(List.range ti.sh.size).map fun k=>(Qd w b o k).getD undef
  have hlen:cs.length=ti.sh.size:=by simp[cs]
  have J:∀j v,cs[j]? = some v->Qd w b o j=some v:=by
   grind
  have hl:(loadCells ⟨b,o,none⟩ cs.length).run P w=.ok cs.toArray w:=
   run_loadCells_list (P:=P) w ⟨b,o,none⟩ cs (fun j v hv=>by rw[QbZ];exact J j v hv)
  refine⟨.agg cs.toArray,?_,?_,fun k hk=>?_⟩
  ·rw[hp] at I
   rw[hlen] at hl;simp[Instr.loadAt,Instr.sureAddr,loadVar,I,hsz,hl]
  ·revert hp hlen
   cases ti.sh<;>simp[QY];rename_i x y;intro hlen;exact⟨_,rfl,by simpa [Sh.size] using hlen⟩
  ·have hk':k<cs.length:=by omega
   have h1:cs[k]? = some cs[k]:=aLf hk'
   rw[J k _ h1];simp only[Qg,Value.cells];simp
 | false=>
  obtain⟨v,hv,hv1⟩:=hc 0 (Sh.size_pos _);have U:w.cell? ⟨b,o,none⟩=some v:=by simpa [Qd] using hv
  have hs1:ti.sh.size=1:=by revert hp;cases ti.sh<;>simp[QY,Sh.size]
  refine⟨v,?_,?_,fun k hk=>?_⟩
  ·rw[hp] at I
   simp[Instr.loadAt,Instr.sureAddr,loadVar,I,U]
  ·revert hp;cases ti.sh<;>simp[QY,Ys,hv1]
  ·obtain rfl:k=0:=by omega
   rw[hv];simp[Qg,hv1]
theorem Qet (g:Gh) (a:Act) (w:World) {r:Root} {hb ho:Nat} (h:QU g r=some (hb,ho)):Ql g a w r=Qd w hb ho:=by
 cases r with
 | s i=>simp[QU] at h
 | b i=>
  simp[QU] at h;simp[Ql]
  grind
theorem Ql4 (h:Rel P B g e a w) {r:Root} {ver:Nat} {p:List Step} {v:Value} {y:Dv} (hd:Qah g e a w r ver p v) (hl:e.lookL r ver p=some y) (hx:y.fl ≠ .x) :
  ∃b o,v=.pointer (some ⟨b,o,none⟩)/\(e.root r).stamp p=ver/\∃S F X,(e.root r).d=.v S F X/\getP S F X p=some y/\QG S X p/\Qi S (QU g r) w (Ql g a w r) p=some (b,o)/\
   Qm w S (Ql g a w r) p=Qd w b o/\RepC P y.sh y.fl g.Z w (g.S (tagR r)) (Qd w b o) y.x:=by
 obtain⟨hv,S,F,X,hdr,J⟩:=Qjr hl;obtain⟨hp,hn⟩:=(hd.2.2 hv).2 S F X hdr;obtain⟨b,o,hA,U⟩:=hn (Qez p J hx);have hc:=Qq2 p (fun hb ho hh=>Qet g a w hh) hA
 have I:=RepC.get p (h.root r hdr) hp J
 rw[hc] at I;refine⟨b,o,U,hv,S,F,X,hdr,J,hp,hA,hc,?_⟩;cases r<;>exact I
theorem QsG (hT:QR P C) (h:Rel P B g e a w) (hcl0:∀i k,g.ow i ≠ .fl k) {frz:Fz} {o:Oper} {t:TypeId} {x:Operand} (ho:o.op=.load t x) {f:Eff} {e':Env} (U:Qn C frz e o=some f) (hf:f.gives e'):QD P B a w o e':=by
 obtain⟨Tx,hx,_,_⟩:=QC h x;simp only[Qn,ho,aLa] at U;obtain⟨ti,hti,U⟩:=U;have hty:=hT t ti hti
 split at U
 ·rename_i r ver p hd
  obtain⟨⟨e1,d1⟩,h1,h2⟩:=aLa.1 U;simp only[aLb] at h2;subst h2;obtain rfl:e'=_:=hf;rw[hd] at hx;have hx:Qah g e a w r ver p (a.eval x):=hx
  unfold QjA at h1;have other:∀d0,(e.root r).d=d0->(∀S F X,d0 ≠ .v S F X)->d0 ≠ .dead->
    (bif Nat.beq (e.root r).id ver&&bare d0&&!QY ti.sh then (match p with | []=>some (e,d0) | _=>none) else none)=some (e1,d1)->QD P B a w o (e1.dst o.dst d1):=by
   intro d0 hd0 hnv hnd h1;cases hc:Nat.beq (e.root r).id ver&&bare d0&&!QY ti.sh with
   | false=>simp[hc] at h1
   | true=>
    rw[hc,aLB] at h1;simp only[aLg,Bool.not_eq_true'] at hc;obtain⟨⟨hver,hbare⟩,hag0⟩:=hc;split at h1
    ·simp only[aLb,aLe] at h1
     obtain⟨rfl,rfl⟩:=h1;obtain⟨b,off,hA,hpt⟩:=(hx.2.2 (aLw hver)).1 rfl;cases r with
     | s i=>simp[QU] at hA
     | b i=>
      have J:=h.bl i
      rw[show (e.b i).d=d0 from hd0] at J
      have hbl2:∃hb o,g.pl i=.cells hb o/\g.ow hb=.c i/\∃arr ty v,w.heap[hb]? = some (.cells arr ty (0,0))/\arr[o]? = some v/\v.cells = #[v]/\Qs P g e a w .none d0 v:=by
       cases d0 with
       | dead=>exact absurd rfl hnd
       | und=>exact J
       | v S F X=>exact absurd rfl (hnv S F X)
       | tup l=>exact J.elim
       | nil=>exact J
       | bor r ver p=>exact J
       | loc r ver p=>exact J
       | rp s x=>exact J
       | rpp s x=>exact J
       | clos j c=>exact J
      obtain⟨hb,o',hpl,_,arr,ty,v,h3,h4,h5,h6⟩:=hbl2;simp only[QU,hpl,aLb,aLe] at hA;obtain⟨rfl,rfl⟩:=hA;have hag:=Qch hty w
      rw[hag0] at hag;have hcell:w.cell? ⟨hb,o',none⟩=some v:=by simp[World.cell?,h3,h4]
      exact .value (v:=v) (by simp[execOp,ho,hpt,Instr.loadAt,Instr.sureAddr,loadVar,hag,hcell]) (Q7 h o.dst hbare h6)
    ·cases h1
  split at h1
  ·rename_i S0 F0 X0 hdr0
   obtain⟨y,hl,h1⟩:=aLa.1 h1;cases hc:decide (y.sh=ti.sh)&&okS y.sh y.fl with
   | false=>simp[hc] at h1
   | true=>
    rw[hc,aLB] at h1;simp only[aLg,aLF] at hc;obtain⟨hsh,hok⟩:=hc;obtain⟨b,off,hpt,hver,S,F,X,hdr,hg,hp,hA,hcl,I⟩:=Ql4 h hx hl (Yo hok);obtain⟨v,hrun,hform,hcv⟩:=QhZ hty (w:=w) (b:=b) (o:=off) (by rw[<-hsh];exact Qfg hok I)
    have hb:Qs P g e a w Tx (.bor r ((e.root r).stampB p) p) v:=by
     refine⟨aMb _,fun _ S' F' X' hdr'=>?_⟩
     rw[hdr] at hdr';obtain⟨rfl,rfl,hX⟩:=ZR hdr';subst hX;refine⟨hp,fun _ s U=>?_⟩
     rw[ZE p hg] at U;simp only[aLb] at U;subst U;rw[hcl,hsh];exact⟨hform,fun k hk=>hcv k hk⟩
    have al:Q4 e frz none (.bor r ((e.root r).stampB p) p)=some (e1,d1)->QD P B a w o (e1.dst o.dst d1):=by
     intro h1;obtain⟨g1,_,hrel,hbr,hd1⟩:=Qqk h hb (t:=none) (fun i hi=>by cases hi) h1
     exact .value (v:=v) (w':=w) (by simp[execOp,ho,hpt,hrun]) (Q7 hrel o.dst hbr hd1)
    cases frz with
    | no=>exact al h1
    | fz=>exact al h1
    | tk=>
     simp only at h1;obtain⟨⟨e2,u⟩,h2,h3⟩:=aLa.1 h1;simp only[aLb,aLe] at h3;obtain⟨rfl,rfl⟩:=h3;obtain⟨g1,_,hrel,I⟩:=Qee h 0 (fun i=>hcl0 i 0) hb (t:=none) (fun i hi=>by cases hi) h2
     obtain⟨g',_,_,h'⟩:=hrel.dst 0 o.dst (d:=.v u.sh u.fl u.x) I;exact .value (v:=v) (w':=w) (by simp[execOp,ho,hpt,hrun]) ⟨g',h'⟩
  ·cases h1
  ·rename_i hnv hnd
   exact other _ rfl (fun S F X hh=>hnv S F X hh) (fun hh=>hnd hh) h1
 ·rename_i s y hd
  by_cases hsh:s=ti.sh
  ·subst hsh
   simp only[aMc,aLB,aLb] at U;subst U;obtain rfl:e'=_:=hf;rw[hd] at hx;obtain⟨b,off,hpt,hz,I⟩:=hx;obtain⟨v,hrun,hform,hcv⟩:=QhZ hty (w:=w) (b:=b) (o:=off) (Qfg Qmu I);exact .plain h (v:=v) (by simp[execOp,ho,hpt,hrun]) ⟨hform,I.congr hcv⟩
  ·simp[hsh] at U
 ·rename_i s y hd
  cases hc:QY ti.sh with
  | true=>rw[hc] at U;cases U
  | false=>
   simp only[hc,aLC,aLb] at U;subst U;obtain rfl:e'=_:=hf;rw[hd] at hx;obtain⟨hb,ho',b,off,hpt,hz1,hcl,hz2,I⟩:=hx;have hag:=Qch hty w
   rw[hc] at hag;have hcell:w.cell? ⟨hb,ho',none⟩=some (.pointer (some ⟨b,off,none⟩)):=by simpa [Qd] using hcl
   exact .value (v:=.pointer (some ⟨b,off,none⟩)) (by simp[execOp,ho,hpt,Instr.loadAt,Instr.sureAddr,loadVar,hag,hcell]) (Q7 h o.dst (d:=.rp s y) (T:=Tx) rfl ⟨b,off,rfl,hz2,I⟩)
 ·cases U
theorem QsT (J:QR P C) (h:Rel P B g e a w) {frz:Fz} {o:Oper} {t:TypeId} {x:Operand} (ho:o.op=.load t x) {f:Eff} {e':Env} (U:Qn C frz e o=some f) (hf:f.gives e'):QD P B a w o e':=by
 obtain⟨g0,_,I,h0⟩:=h.clean;exact QsG J h0 I ho U hf
end Go.Dx
namespace Go.Dx
variable {P:Program} {B:Base} {g:Gh} {e:Env} {a:Act} {w:World} {C:Ctx}
theorem Qhj (h:Rel P B g e a w) {k:Nat} {s:Sh} {f f':Fl} {v:Value} {x:s.den} (hw:Qq s f f'=true) (U:RepV P s f g.Z w (g.S (.fl k)) v x) :
  ∃g',g'.pl=g.pl/\(∀j,g'.ow j=g.ow j\/(g.ow j=.fl k/\g'.ow j=.fz))/\Rel P B g' e a w/\RepV P s f' g'.Z w (g'.S (.fl k)) v x:=by
 obtain⟨T,hT,J⟩:=RepC.weak hw U.2;have I:∀j t,t ≠ .fl k->g.ow j=t->(g.re T .fz).ow j=t:=fun j t ht hj=>(Gh.re_out fun h=>ht (hj.symm.trans (hT j h))).trans hj
 refine⟨g.re T .fz,rfl,fun j=>?_,?_,U.1,?_⟩
 ·by_cases hj:T j
  ·exact .inr ⟨hT j hj,Gh.re_in hj⟩
  ·exact .inl (Gh.re_out hj)
 ·exact h.step (fun _=>False) (fun _=>False) h.lens h.defers (fun _ _=>⟨rfl,rfl⟩) (fun _ _=>⟨rfl,rfl⟩) (fun _ h=>h.elim) (fun _ h=>h.elim) (fun _ h=>h.elim) (fun _ h=>h.elim) (fun _ h=>h.elim) (fun _ h=>h.elim)
   (fun i hi=>⟨I i _ (by simp) hi,rfl⟩) (fun i j _ hj=>⟨I j _ (by simp) hj,rfl⟩) (fun i j _ hj=>⟨I j _ (by simp) hj,rfl⟩) (fun i j _ hj=>⟨I j _ (by simp) hj,rfl⟩)
   (Streams.refl _) (fun _ _ _=>rfl) (fun i h1 h2 h3=>I i _ (by simp) (h.nn i h1 h2 h3)) (fun i hi=>h.lt i fun h0=>hi (I i _ (by simp) h0)) (fun _ _ h=>h.elim) (fun _ _ h=>h.elim) (fun _ _ h=>h.elim)
 ·refine J.mono (fun i hi=>hi.elim (fun h=>I i _ (by simp) h) (fun h=>Gh.re_in h)) (fun i hi=>(Gh.re_out hi.2).trans hi.1)
theorem Qry (h:Rel P B g e a w) (hcl:∀i,g.ow i ≠ .fl 0) {x:Operand} {ti:TI} {e1:Env} {d:Desc} (hv:valD ti e x=some (e1,d)) :
  ∃g1,g1.pl=g.pl/\Rel P B g1 e1 a w/\Qs P g1 e1 a w (.fl 0) d (a.eval x)/\
   ((∃f y,d=.v ti.sh f y/\okS ti.sh f=true)\/((∀S F X,d ≠ .v S F X)/\d ≠ .dead/\(∀l,d ≠ .tup l)/\bare d=true/\(a.eval x).cells = #[a.eval x])):=by
 obtain⟨T,hd,ht,hn⟩:=QC h x;unfold valD at hv;have tk:∀d0,e.opd x=d0->((e.take x.slot ti.sh d0).bind fun q=>(asS ⟨q.2.sh,q.2.x⟩ ti.sh).bind fun v=>bif okS ti.sh q.2.fl then some (q.1,Desc.v ti.sh q.2.fl v) else none)=some (e1,d)->
   ∃g1,g1.pl=g.pl/\Rel P B g1 e1 a w/\Qs P g1 e1 a w (.fl 0) d (a.eval x)/\
   ((∃f y,d=.v ti.sh f y/\okS ti.sh f=true)\/((∀S F X,d ≠ .v S F X)/\d ≠ .dead/\(∀l,d ≠ .tup l)/\bare d=true/\(a.eval x).cells = #[a.eval x])):=by
  intro d0 hd0 hv;subst hd0;obtain⟨⟨e2,y⟩,h1,h2⟩:=aLa.1 hv;obtain⟨z,hz,h2⟩:=aLa.1 h2;cases ho:okS ti.sh y.fl with
  | false=>simp_all
  | true=>
   simp[ho,aLe] at h2;obtain⟨rfl,rfl⟩:=h2;obtain⟨g1,hfl,hrel,hrep⟩:=Qee h 0 hcl hd ht h1;have hs:=ZK hz
   obtain⟨ysh,yfl,yx⟩:=y;simp at hs;obtain⟨rfl,hs⟩:=hs;subst hs;exact⟨g1,hfl.1,hrel,hrep,.inl ⟨_,_,rfl,ho⟩⟩
 split at hv
 ·rename_i r v p I
  obtain⟨rfl,rfl⟩:=hv;rw[I] at hd;have U:Qah g e a w r v p (a.eval x):=hd
  obtain⟨ad,J⟩:=U.1;exact⟨g,rfl,h,hd,.inr ⟨fun _ _ _=>by simp,by simp,fun _=>by simp,rfl,by rw[J];rfl⟩⟩
 ·rename_i s y I
  obtain⟨rfl,rfl⟩:=hv;rw[I] at hd;have U:RpOk P g w s y (a.eval x):=hd
  obtain⟨b,o,J,_⟩:=U;exact⟨g,rfl,h,hd,.inr ⟨fun _ _ _=>by simp,by simp,fun _=>by simp,rfl,by rw[J];rfl⟩⟩
 ·rename_i j l I
  obtain⟨rfl,rfl⟩:=hv;rw[I] at hd;have hd2:=hd
  obtain⟨vs,J,_⟩:=hd2;exact⟨g,rfl,h,hd,.inr ⟨fun _ _ _=>by simp,by simp,fun _=>by simp,rfl,by rw[J];rfl⟩⟩
 simp_all
theorem QpH:∀(p:List Step) {S:Sh} {F:Fl} {X:S.den} {inl:Bool} {n:Dv} {r:Fl×S.den},setP S F X p inl n=some r->Qh S F p=true:=by
 intro p;induction p with
 | nil=>intro S F X inl n r _;simp[Qh]
 | cons st p I=>
  intro S F X inl n r h;cases S with
  | prod a b=>
   cases st with
   | fst=>simp only[setP,aLd] at h;obtain⟨y,h,_⟩:=h;exact I h
   | snd=>simp only[setP,aLd] at h;obtain⟨y,h,_⟩:=h;exact I h
   | idx i=>simp[setP] at h
   | sub l J=>simp[setP] at h
  | list s=>
   cases st with
   | fst=>simp[setP] at h
   | snd=>simp[setP] at h
   | sub l J=>simp[setP] at h
   | idx i=>
    cases F with
    | o f=>simp only[setP,aLd] at h;obtain⟨y,h,_⟩:=h;simp[Qh];exact I h
    | z=>simp[setP] at h
    | x=>simp[setP] at h
    | p a b=>simp[setP] at h
    | h f0 i0=>cases p<;>first | (simp[Qh];done) | simp[setP] at h
  | int k=>cases st<;>simp[setP] at h
  | bool=>cases st<;>simp[setP] at h
  | str=>cases st<;>simp[setP] at h
  | fn1 a r rf=>cases st<;>simp[setP] at h
  | fn2 a b r=>cases st<;>simp[setP] at h
theorem Qr1 {Z:Nat->Prop} {w:World}:∀(p:List Step) {S:Sh} {F:Fl} {Sg:Nat->Prop} {c:Nat->Option Value} {X:S.den} {base:Option (Nat×Nat)} {n:Dv} {r:Fl×S.den} {inl:Bool} {b off:Nat},
  RepC P S F Z w Sg c X->QG S X p->setP S F X p inl n=some r->Qi S base w c p=some (b,off)->
  (∀hb ho,base=some (hb,ho)->∃arr ty,w.heap[hb]? = some (.cells arr ty (0,0))/\ho+S.size<=arr.size)->∃arr ty,w.heap[b]? = some (.cells arr ty (0,0))/\off+n.sh.size<=arr.size:=by
 intro p;induction p with
 | nil=>
  intro S F Sg c X base n r inl b off hr J I U hb;simp only[Qi] at U;simp only[setP,aLa] at I;obtain⟨y,hy,_⟩:=I;have hd:=ZK hy
  obtain⟨nsh,nfl,nx⟩:=n
  simp_all
 | cons st p ih=>
  intro S F Sg c X base n r inl b off hr J I U hb;cases S with
  | prod a a'=>
   obtain⟨t,ra,rb⟩:=hr;cases st with
   | fst=>
    simp only[setP,aLd] at I;obtain⟨y,I,rfl⟩:=I;exact ih ra J I U fun hb' ho h=>by obtain⟨arr,ty,h1,h2⟩:=hb hb' ho h;exact⟨arr,ty,h1,by simp only[Sh.size_prod] at h2;omega⟩
   | snd=>
    simp only[setP,aLd] at I;obtain⟨y,I,rfl⟩:=I;refine ih rb J I U fun hb' ho h=>?_
    obtain⟨u,hu,hu'⟩:=aLd.1 h;simp only[aLe] at hu';obtain⟨arr,ty,h1,h2⟩:=hb u.1 u.2 (by rw[hu])
    exact⟨arr,ty,hu'.1 ▸ h1,by simp only[Sh.size_prod] at h2;omega⟩
   | idx i=>simp[setP] at I
   | sub l h=>simp[setP] at I
  | list s=>
   cases st with
   | fst=>simp[setP] at I
   | snd=>simp[setP] at I
   | sub l h=>simp[setP] at I
   | idx i=>
    cases F with
    | o g=>
     simp only[setP,aLd] at I;obtain⟨y,I,rfl⟩:=I;have he:=Qfb hr J.1.1 J.1.2
     obtain⟨A,m,cap,e1,e2,e3,e4⟩:=hr;rcases e4 with ⟨rfl,h,h'⟩ | ⟨b0,off0,arr,e,rfl,hS,hw,hsz,t,hrr⟩
     ·have:=J.1;omega
     ·simp only[Qi,e1] at U
      rw[e1] at he;refine ih he J.2 I U fun hb' ho h=>?_
      obtain⟨rfl,rfl⟩:=h;refine⟨arr,e,hw,?_⟩;have h1:=J.1
      have:(i.toNat+1) * s.size<=cap * s.size:=aLq _ (by omega)
      rw[aMq,aMF] at this;omega
    | z=>simp[setP] at I
    | x=>simp[setP] at I
    | p a b=>simp[setP] at I
    | h f0 i0=>
     cases p with
     | cons st p=>simp[setP] at I
     | nil=>
      cases inl with
      | true=>simp[setP] at I
      | false=>
       simp only[setP,aLa] at I;obtain⟨y,hy,_⟩:=I;have hd:=ZK hy
       obtain⟨nsh,nfl,nx⟩:=n;simp only[aMy] at hd;obtain⟨rfl,_⟩:=hd;obtain⟨A,m,cap,e1,e2,e3,b0,off0,arr,e,rfl,hS,hw,hsz,t,hrr⟩:=hr;simp only[Qi,e1,aLb,aLe] at U;obtain⟨rfl,rfl⟩:=U;refine⟨arr,e,hw,?_⟩;have h1:=J.1
       have:(i.toNat+1) * nsh.size<=cap * nsh.size:=aLq _ (by omega)
       grind
  | int k=>cases st<;>simp[setP] at I
  | bool=>cases st<;>simp[setP] at I
  | str=>cases st<;>simp[setP] at I
  | fn1 a r rf=>cases st<;>simp[setP] at I
  | fn2 a b r=>cases st<;>simp[setP] at I
theorem QsP {t:TypeId} {ti:TI} (h:TyOk P C t ti) {w:World} {b o:Nat} {arr:Array Value} {ty:TypeId} (hb:w.heap[b]? = some (.cells arr ty (0,0))) (hle:o+ti.sh.size<=arr.size) {v:Value} (hv:Ys ti.sh v)
  (hc:∀k,k<ti.sh.size->∃u,Qg v k=some u/\u.oneCell'=true) :
  ∃w',(Instr.storeAt t (.pointer (some ⟨b,o,none⟩)) v).run P w=.ok () w'/\Wrote w w' b o ti.sh.size (Qg v)/\Streams w w'/\w'.heap.size=w.heap.size:=by
 have hsz:=run_sizeOf h w
 have hlen:v.cells.size=ti.sh.size:=by
  revert hv;cases ti.sh with
  | prod a b=>rintro ⟨cs,rfl,hcs⟩;exact hcs
  | int k=>intro hv;rw[show v.cells = #[v] from hv];rfl
  | bool=>intro hv;rw[show v.cells = #[v] from hv];rfl
  | str=>intro hv;rw[show v.cells = #[v] from hv];rfl
  | list s=>intro hv;rw[show v.cells = #[v] from hv];rfl
  | fn1 a r rf=>intro hv;rw[show v.cells = #[v] from hv];rfl
  | fn2 a b r=>intro hv;rw[show v.cells = #[v] from hv];rfl
 have J:∀u ∈ v.cells.toList,u.oneCell'=true:=by
  intro u hu;obtain⟨k,hk,rfl⟩:=List.getElem_of_mem hu;obtain⟨u',hu',h1⟩:=hc k (by rw[<-hlen];simpa using hk)
  simp only[Qg] at hu'
  grind
 have I:=run_storeCells_at (P:=P) b o ty v.cells.toList 0 arr w hb (by simpa [hlen] using hle) J
 simp only[Nat.add_zero,aMo,hlen] at I;generalize U:(List.take o arr.toList++v.cells.toList++List.drop (o+ti.sh.size) arr.toList).toArray=arr' at I;refine⟨w.setRow b arr',by simp[Instr.storeAt,Instr.sureAddr,storeVar,hsz,hlen,I],?_,?_,by simp⟩
 ·subst U
  refine⟨fun i hi=>setRow_other _ _ _ _ hi,arr,_,ty,hb,setRow_heap w b arr _ ty _ hb,?_,hle,fun k hk=>?_,fun k hk=>?_⟩
  ·simp[hlen];omega
  ·simp only[List.getElem?_toArray,Qg]
   grind
  grind
 ·exact⟨rfl,rfl,rfl,by simp,aMb _⟩
def nextId:Root->Nat->Nat | .s _,n=>n+1 | .b _,n=>n
theorem Qwz {e:Env} {i j:Nat} {d:Desc} (h:i<e.bl.length):(Env.b ⟨e.sl,updV e.bl i d⟩ j)=if i=j then ⟨(e.b i).ver+1,d,(e.b i).id,(e.b i).hv+1⟩ else e.b j:=by
 simp[Env.b,updV,ZY,h]
theorem QwB {e:Env} {i j:Nat} {d:Desc} (h:i<e.bl.length):(Env.b ⟨e.sl,updD e.bl i d⟩ j)=if i=j then ⟨(e.b i).ver+1,d,(e.b i).id,(e.b i).hv⟩ else e.b j:=by
 simp[Env.b,updD,ZY,h]
theorem QwC {e:Env} {i j:Nat} {d:Desc} (h:i<e.sl.length):(Env.s ⟨updD e.sl i d,e.bl⟩ j)=if i=j then ⟨(e.s i).ver+1,d,(e.s i).id,(e.s i).hv⟩ else e.s j:=by
 simp[Env.s,updD,ZY,h]
def turned (r:Root) (h:Bool) (c:Cel) (d:Desc):Cel:=⟨c.ver+1,d,bif h then nextId r c.id else c.id,bif h then c.hv+1 else c.hv⟩
theorem Q2 {e:Env} {r q:Root} {h:Bool} {d:Desc} {S:Sh} {F:Fl} {X:S.den} (hd:(e.root r).d=.v S F X):(e.turn r h d).root q=if r=q then turned r h (e.root r) d else e.root q:=by
 cases r with
 | s i=>
  have hi:=Env.lt_of_v hd
  cases q with
  | s j=>
   cases h with
   | true=>show (e.setS i d).s j=_;rw[QfV hi];simp;rfl
   | false=>show (Env.s ⟨updD e.sl i d,e.bl⟩ j)=_;rw[QwC hi];simp;rfl
  | b j=>cases h<;>simp[Env.turn,Env.setR,Env.setD,Env.root,Env.setS,Env.b]
 | b i=>
  have hi:=Env.ltb_of_v hd
  cases q with
  | b j=>
   cases h with
   | true=>show (Env.b ⟨e.sl,updV e.bl i d⟩ j)=_;rw[Qwz hi];simp;rfl
   | false=>show (Env.b ⟨e.sl,updD e.bl i d⟩ j)=_;rw[QwB hi];simp;rfl
  | s j=>cases h<;>simp[Env.turn,Env.setR,Env.setD,Env.root,Env.s]
theorem QiL {g g':Gh} {e:Env} {r:Root} {h:Bool} {S:Sh} {F F':Fl} {X U:S.den} (hd:(e.root r).d=.v S F X) (hA:QU g' r=QU g r):Qgy g e g' (e.turn r h (.v S F' U)) r:=by
 unfold Qgy;rw[Q2 hd,if_pos rfl];have hs:∀I F2 X2,(turned r h (e.root r) (.v S F' U)).d=.v I F2 X2->∃F0 X0,(e.root r).d=.v I F0 X0:=fun I F2 X2 J=>by
  obtain⟨rfl,_,_⟩:=J
  simp_all
 cases h with
 | false=>exact .inr ⟨rfl,hA,hs⟩
 | true=>
  cases r with
  | s i=>exact .inl (aMp _)
  | b i=>exact .inr ⟨rfl,hA,hs⟩
theorem QhH {g g':Gh} {e:Env} {a J:Act} {w w':World} {r:Root} {h:Bool} {S:Sh} {F F':Fl} {X U:S.den} (hd:(e.root r).d=.v S F X) (hc:h=false->∀k,k<S.size->Ql g' J w' r k=Ql g a w r k):QdR g e a w g' (e.turn r h (.v S F' U)) J w' r:=by
 unfold QdR;rw[Q2 hd,if_pos rfl];cases h with
 | true=>exact .inl (aMp _)
 | false=>
  refine .inr ⟨rfl,fun S2 F2 X2 I=>?_⟩
  obtain⟨rfl,_,_⟩:=I
  simp_all
theorem QqV {w:World}:∀(p:List Step) {S:Sh} {c:Nat->Option Value} {base:Option (Nat×Nat)},QK p=false->Qi S base w c p=Qi S none w c p:=by
 intro p;induction p with
 | nil=>intro S c base h;cases h
 | cons st p I=>
  intro S c base h;cases S with
  | prod a b=>
   cases st with
   | fst=>exact I h
   | snd=>show Qi b (base.map _) w _ p=Qi b (Option.map _ none) w _ p;rw[I h,I (base:=Option.map _ none) h]
   | idx i=>rfl
   | sub l J=>rfl
  | list s=>cases st<;>rfl
  | int k=>cases st<;>rfl
  | bool=>cases st<;>rfl
  | str=>cases st<;>rfl
  | fn1 a r rf=>cases st<;>rfl
  | fn2 a b r=>cases st<;>rfl
theorem Ql2 {e:Env} {r:Root} {h:Bool} {d:Desc}:(e.turn r h d).sl.length=e.sl.length:=by cases r<;>cases h<;>simp[Env.turn,Env.setR,Env.setD,Env.setS,upd,updD]
theorem QrK {r:Root} (h:tagR r=.fz):False:=by cases r<;>cases h
theorem QkP {r:Root} {k:Nat} (h:tagR r=.fl k):False:=by cases r<;>cases h
theorem Rel.put (h:Rel P B g e a w) {r:Root} {S:Sh} {F:Fl} {X:S.den} (hd:(e.root r).d=.v S F X) {p:List Step} {n:Dv} {z:Fl×S.den} (hs:setP S F X p false n=some z) (hp:QG S X p)
  {b off:Nat} (hA:Qi S (QU g r) w (Ql g a w r) p=some (b,off)) {k:Nat} {cn:Nat->Option Value} (hv:RepC P n.sh n.fl g.Z w (g.S (.fl k)) cn n.x) {w':World} {hh:Bool} (hhp:hh=false->QK p=false) (hW:Wrote w w' b off n.sh.size cn) (hst:Streams w w') (hsz:w'.heap.size=w.heap.size) (hho:Qhx S F p=true) :
  ∃g',g'.pl=g.pl/\(∀j,g'.ow j=if g.ow j=.fl k then tagR r else g.ow j)/\Rel P B g' (e.turn r hh (.v S z.1 z.2)) a w':=by
 let ow':Nat->Tag:=fun j=>if g.ow j=.fl k then tagR r else g.ow j
 have hfl:∀j,g.ow j=.fl k->ow' j=tagR r:=fun j hj=>by simp[ow',hj]
 have I:∀j t,t ≠ .fl k->g.ow j=t->ow' j=t:=fun j t ht hj=>by simp[ow',hj,ht]
 have J:=h.root r hd
 have J:RepC P S F g.Z w (g.S (tagR r)) (Ql g a w r) X:=by cases r<;>exact J
 have hin:=Qfu p J hp hs hA
 have U:∀hb ho,QU g r=some (hb,ho)->∃i,r=.b i/\g.pl i=.cells hb ho/\g.ow hb=.c i/\∃arr ty,w.heap[hb]? = some (.cells arr ty (0,0))/\ho+S.size<=arr.size:=by
  intro hb ho hh;cases r with
  | s i=>simp[QU] at hh
  | b i=>
   simp only[QU] at hh;split at hh
   ·rename_i hb' ho' hpl
    simp only[aLb,aLe] at hh;obtain⟨rfl,rfl⟩:=hh;have hbl:=h.bl i
    rw[show (e.b i).d=.v S F X from hd] at hbl
    exact⟨i,rfl,hpl,hbl.2 _ _ hpl⟩
   ·cases hh
 have hbtag:g.ow b=tagR r\/∃i,r=.b i/\g.ow b=.c i:=by
  rcases hin with hin | ⟨o,ho,_⟩
  ·exact .inl hin
  ·obtain⟨i,h1,_,h2,_⟩:=U b o ho
   exact .inr ⟨i,h1,h2⟩
 have hne:∀j t,g.ow j=t->t ≠ tagR r->(∀i,r=.b i->t ≠ .c i)->w'.heap[j]? = w.heap[j]?:=by
  intro j t hj h1 h2;refine hW.other j fun hjb=>?_
  subst hjb;rcases hbtag with h3 | ⟨i,h3,h4⟩
  ·exact h1 (hj.symm.trans h3)
  ·exact h2 i h3 (hj.symm.trans h4)
 have hzne:∀j,g.ow j=.fz->w'.heap[j]? = w.heap[j]?:=fun j hj=>hne j _ hj (by cases r<;>simp[tagR]) (by simp)
 have hfne:∀j,g.ow j=.fl k->w'.heap[j]? = w.heap[j]?:=fun j hj=>hne j _ hj (by cases r<;>simp[tagR]) (by simp)
 have hcells:hh=false->∀k,k<S.size->Ql (⟨ow',g.pl⟩:Gh) a w' r k=Ql g a w r k:=fun hf k _=>by
  have hn:=hhp hf
  rw[QqV p hn] at hA;have hb0:=(Qfu p J hp hs hA).resolve_right (fun ⟨o,ho,_⟩=>by cases ho)
  cases r with
  | s i=>rfl
  | b i=>
   simp only[Ql];cases hpl:g.pl i with
   | hdr v=>rfl
   | cells hb ho=>
    have hbl:=h.bl i
    rw[show (e.b i).d=.v S F X from hd] at hbl
    have hci:=(hbl.2 hb ho hpl).1
    have hne2:hb ≠ b:=by rintro rfl;rw[show g.ow hb=tagR (.b i) from hb0] at hci;cases hci
    simp only[Qd,World.cell?];rw[hW.other hb hne2]
 have hput:=RepC.put (P:=P) (n:=n) (T:=g.S (.fl k)) (hv.frame (fun _ h=>h) (fun _ h=>h) (fun i hi=>hi.elim (hfne i) (hzne i))) hW
  (fun hz=>hbtag.elim (fun h3=>QrK (h3.symm.trans hz)) (fun ⟨i,_,h4⟩=>by rw[show g.ow b=.fz from hz] at h4;cases h4))
  p J hp hs hA (fun hb ho hh=>⟨Qet g a w hh,fun hS=>by
    obtain⟨i,rfl,_,h2,_⟩:=U hb ho hh;rw[show g.ow hb=tagR (.b i) from hS] at h2;simp[tagR] at h2,fun hZ=>by
    obtain⟨i,rfl,_,h2,_⟩:=U hb ho hh;rw[show g.ow hb=.fz from hZ] at h2;simp at h2⟩)
  (fun i hi=>⟨fun hS=>QkP (Eq.trans (Eq.symm hS) hi),fun hib=>by
    subst hib;exact hbtag.elim (fun h3=>QkP (h3.symm.trans hi)) (fun ⟨j,_,h4⟩=>by rw[show g.ow i=.fl k from hi] at h4;cases h4)⟩)
  (fun i hi hZ=>QrK (Eq.trans (Eq.symm hi) hZ)) (fun _=>hho)
 have hnew:RepC P S z.1 (Gh.Z ⟨ow',g.pl⟩) w' (Gh.S ⟨ow',g.pl⟩ (tagR r)) (newC (QU g r) w' (Ql g a w r)) z.2:=
  hput.mono (fun i hi=>I i _ (by simp) hi) (fun i hi=>hi.elim (fun hi=>I i _ (by cases r<;>simp[tagR]) hi) (fun hi=>hfl i hi))
 refine⟨⟨ow',g.pl⟩,rfl,fun _=>rfl,h.step (fun i=>r=.s i) (fun i=>r=.b i) (by rw[Ql2];exact h.lens) h.defers
  (fun i hi=>⟨by show (e.turn r hh _).root (.s i)=_;rw[Q2 hd,if_neg hi];rfl,rfl⟩) (fun i hi=>⟨by show (e.turn r hh _).root (.b i)=_;rw[Q2 hd,if_neg hi];rfl,rfl⟩)
  (fun i hi=>by show (e.root (.s i)).ver<((e.turn r hh _).root (.s i)).ver;rw[Q2 hd,if_pos hi,hi];exact aMp _)
  (fun i hi=>by show (e.root (.b i)).ver<((e.turn r hh _).root (.b i)).ver;rw[Q2 hd,if_pos hi,hi];exact aMp _)
  (fun i hi=>by subst hi;exact QiL hd rfl) (fun i hi=>by subst hi;exact QiL hd rfl) (fun i hi=>by subst hi;exact QhH hd hcells) (fun i hi=>by subst hi;exact QhH hd hcells)
  (fun j hj=>⟨I j _ (by simp) hj,hzne j hj⟩)
  (fun i j hi hj=>⟨I j _ (by simp) hj,hne j _ hj (by cases r<;>simp_all [tagR]<;>exact fun h=>hi h.symm) (by simp)⟩)
  (fun i j hi hj=>⟨I j _ (by simp) hj,hne j _ hj (by cases r<;>simp_all [tagR]<;>exact fun h=>hi h.symm) (by simp)⟩)
  (fun i j hi hj=>⟨I j _ (by simp) hj,hne j _ hj (by cases r<;>simp[tagR]) (fun i' hr=>by simp only[ne_eq,Tag.c.injEq];rintro rfl;exact hi hr)⟩)
  hst (fun i hi hm=>?_) (fun i h1 h2 h3=>I i _ (by simp) (h.nn i h1 h2 h3)) (fun i hi=>?_) (fun q hq hc hn hio=>?_) (fun hk i hi=>?_) (fun hk i hi=>?_)⟩
 ·by_cases hf:B.fz0 i
  ·exact hzne i (h.fz i hf)
  ·exact hne i _ (h.nn i hi hm hf) (by cases r<;>simp[tagR]) (by simp)
 ·rw[hsz]
  refine h.lt i fun h0=>hi ?_
  exact I i _ (by simp) h0
 ·refine⟨hio.pl,I _ _ (by simp) hio.ow,fun S2 F2 X2 hd2=>?_,?_⟩
  ·rw[show (e.turn r hh (.v S z.1 z.2)).b q.i=(e.turn r hh (.v S z.1 z.2)).root (.b q.i) from rfl,Q2 hd,if_pos hc] at hd2
   simp only[turned,Desc.v.injEq] at hd2;obtain⟨rfl,_,_⟩:=hd2;exact hio.sz S F X (by subst hc;exact hd)
  ·obtain⟨arr,h1,h2,h3⟩:=hio.there
   by_cases hb:q.hb=b
   ·have hsz2:S.size=q.n:=hio.sz S F X (by subst hc;exact hd)
    obtain⟨arr1,arr',ty',k1,k2,k3,k4,k5,k6⟩:=hW.blk;rw[<-hb,h1] at k1;simp only[aLb,Obj.cells.injEq] at k1;obtain⟨rfl,rfl,_⟩:=k1;refine⟨arr',hb ▸ k2,k3.trans h2,fun k hk=>?_⟩
    rw[k6 k ?_,h3 k hk];rcases hin with hin | ⟨o,ho,h5,h6⟩
    ·have h7:g.ow b=tagR r:=hin
     rw[<-hb,hio.ow,hc] at h7;simp[tagR] at h7
    ·rw[hc] at ho
     simp only[QU,hio.pl,aLb,aLe] at ho;omega
   ·rw[hW.other _ hb];exact⟨arr,h1,h2,h3⟩
 ·rw[show (e.turn r hh (.v S z.1 z.2)).s i=(e.turn r hh (.v S z.1 z.2)).root (.s i) from rfl,Q2 hd,if_pos hi]
  subst hi;have:=h.sl i
  rw[show (e.s i).d=.v S F X from hd] at this
  exact⟨this.1,hnew⟩
 ·rw[show (e.turn r hh (.v S z.1 z.2)).b i=(e.turn r hh (.v S z.1 z.2)).root (.b i) from rfl,Q2 hd,if_pos hi]
  subst hi;refine⟨?_,fun hb o hpl=>?_⟩
  ·have:Ql ⟨ow',g.pl⟩ a w' (.b i)=newC (QU g (.b i)) w' (Ql g a w (.b i)):=by
    simp only[Ql,QU];cases hpl:g.pl i<;>simp[newC]
   rw[this];exact hnew
  ·have hpl:g.pl i=.cells hb o:=hpl
   obtain⟨i',h1,h2,h3,arr,ty,h4,h5⟩:=U hb o (by simp[QU,hpl])
   simp only[Root.b.injEq] at h1;subst h1;refine⟨I _ _ (by simp) h3,?_⟩
   by_cases hbb:hb=b
   ·obtain⟨arr1,arr',ty',k1,k2,k3,_⟩:=hW.blk
    rw[<-hbb,h4] at k1;simp only[aLb,Obj.cells.injEq] at k1;obtain⟨rfl,rfl,_⟩:=k1;exact⟨arr',_,hbb ▸ k2,by omega⟩
   ·exact⟨arr,ty,(hW.other _ hbb).trans h4,h5⟩
end Go.Dx
namespace Go.Dx
variable {P:Program} {B:Base} {g:Gh} {e:Env} {a:Act} {w:World} {C:Ctx}
theorem QtG {S:Sh} {F:Fl} {X:S.den} {p:List Step} {n:Dv} {z:Fl×S.den} (h:putP S F X p n=some z):∃f,setP S F X p false ⟨n.sh,f,n.x⟩=some z/\(f=n.fl\/Qq n.sh n.fl f=true):=by
 unfold putP at h;split at h
 ·exact⟨n.fl,h,.inl rfl⟩
 grind
theorem QsE (hT:QR P C) (h:Rel P B g e a w) {frz:Fz} {o:Oper} {t:TypeId} {x y:Operand} (ho:o.op=.store t x y) {f:Eff} {e':Env} (I:Qn C frz e o=some f) (hf:f.gives e'):QD P B a w o e':=by
 obtain⟨g0,_,hcl,h0⟩:=h.clean;clear h;simp only[Qn,ho,aLa] at I;obtain⟨ti,hti,⟨e1,d⟩,hv,I⟩:=I;have hty:=hT t ti hti
 obtain⟨g1,hpl1,h1,hd,hdv⟩:=Qry h0 (fun i=>hcl i 0) hv
 simp only at I;split at I
 ·rename_i r ver p s f0 v0 hxd
  obtain⟨Tx,hx,_,_⟩:=QC h1 x;rw[hxd] at hx;have hx:Qah g1 e1 a w r ver p (a.eval x):=hx
  cases J:Nat.beq ((e1.root r).stamp p) ver with
  | false=>simp[J] at I
  | true=>
   rw[J,aLB] at I;have J:=aLw J
   split at I
   ·rename_i S F X hdr
    obtain⟨z,hz,I⟩:=aLa.1 I;have hkey:Qhx S F p=true/\e'=((e1.turn r (QK p) (.v S z.1 z.2)).dst o.dst .dead):=by
     unfold Qhx;cases hh:Qer S F p with
     | none=>
      rw[hh] at I;simp only[aLb] at I;subst I;exact⟨rfl,hf⟩
     | some u=>
      rw[hh] at I;simp only[aLb] at I;subst I;exact⟨hf.1,hf.2⟩
    obtain⟨hho,rfl⟩:=hkey;have U:RepV P s f0 g1.Z w (g1.S (.fl 0)) (a.eval y) v0:=hd
    have hok:s=ti.sh/\okS s f0=true:=by
     grind
    obtain⟨rfl,hok⟩:=hok;have hone:=cells_one hok U.2
    obtain⟨f2,hset,hw⟩:=QtG hz;have:∃g2,g2.pl=g1.pl/\Rel P B g2 e1 a w/\RepV P ti.sh f2 g2.Z w (g2.S (.fl 0)) (a.eval y) v0:=by
     rcases hw with rfl | hw
     ·exact⟨g1,rfl,h1,U⟩
     ·obtain⟨g2,h2,_,h3,h4⟩:=Qhj h1 hw U;exact⟨g2,h2,h3,h4⟩
    obtain⟨g2,hpl2,h2,hrep2⟩:=this;obtain⟨Tx',hx',_,_⟩:=QC h2 x;rw[hxd] at hx';have hx':Qah g2 e1 a w r ver p (a.eval x):=hx'
    obtain⟨hp,hn⟩:=(hx'.2.2 J).2 S F X hdr;obtain⟨b,off,hA,hpt⟩:=hn (QpH p hset);have hroot:=h2.root r hdr
    have hbase:∀hb ho,QU g2 r=some (hb,ho)->∃arr ty,w.heap[hb]? = some (.cells arr ty (0,0))/\ho+S.size<=arr.size:=by
     intro hb ho hh;cases r with
     | s i=>simp[QU] at hh
     | b i=>
      simp only[QU] at hh;split at hh
      ·rename_i hb' ho' hpl
       simp only[aLb,aLe] at hh;obtain⟨rfl,rfl⟩:=hh;have hbl:=h2.bl i
       rw[show (e1.b i).d=.v S F X from hdr] at hbl
       exact (hbl.2 _ _ hpl).2
      ·cases hh
    obtain⟨arr,ty,hblk,hle⟩:=Qr1 p hroot hp hset hA hbase;obtain⟨w',hrun,hW,hst,hsz⟩:=QsP hty hblk hle hrep2.1 hone;obtain⟨g3,_,_,h3⟩:=h2.put hdr hset hp hA hrep2.2 (hh:=QK p) (fun h=>h) hW hst hsz hho
    obtain⟨g4,_,_,h4⟩:=h3.dst 0 o.dst (d:=.dead) (v:=undef) trivial;exact .skip (by simp[execOp,ho,hpt,hrun]) ⟨g4,h4⟩
   ·cases I
 ·cases I
theorem Yu (w:World) (o:Obj) (i:Nat):(w.alloc o).heap[i]? = if i=w.heap.size then some o else w.heap[i]?:=by
 simp only[World.alloc]
 grind
theorem Rel.Qay (h:Rel P B g e a w) {i:Nat} (hi:i<e.sl.length) (hib:i<e.bl.length) {d:Desc} {v:Value} {ty:TypeId} {k:Nat} (hd:Qs P g e a w (.fl k) d v)
  (hdv:(∃S F X,d=.v S F X/\∀j,j<S.size->∃u,Qg v j=some u/\u.oneCell'=true)\/((∀S F X,d ≠ .v S F X)/\d ≠ .dead/\(∀l,d ≠ .tup l)/\bare d=true/\v.cells = #[v])) :
  ∃g',g'.pl i=.cells w.heap.size 0/\Rel P B g' (e.setB i d) a (w.alloc (.cells v.cells ty)):=by
 have hlt:∀j,g.ow j ≠ .none->j<w.heap.size:=h.lt
 let ow':Nat->Tag:=fun j=>if j=w.heap.size then .c i else if g.ow j=.fl k then .b i else if g.ow j=.b i\/g.ow j=.c i then .none else g.ow j
 let J:Nat->Plc:=fun j=>if j=i then .cells w.heap.size 0 else g.pl j
 have hN:ow' w.heap.size=.c i:=by simp[ow']
 have hne:∀j,g.ow j ≠ .none->j ≠ w.heap.size:=fun j hj=>Nat.ne_of_lt (hlt j hj)
 have hfl:∀j,g.ow j=.fl k->ow' j=.b i:=fun j hj=>by simp[ow',hj,hne j (by rw[hj];simp)]
 have I:∀j t,g.ow j=t->t ≠ .none->t ≠ .fl k->t ≠ .b i->t ≠ .c i->ow' j=t:=fun j t hj h0 h1 h2 h3=>by
  subst hj;simp[ow',hne j h0,h1,h2,h3]
 have hnone:∀j,j ≠ w.heap.size->g.ow j=.none->ow' j=.none:=fun j hj h0=>by simp[ow',hj,h0]
 have hheap:∀j,j ≠ w.heap.size->(w.alloc (.cells v.cells ty)).heap[j]? = w.heap[j]?:=fun j hj=>by rw[Yu,if_neg hj]
 have U:(w.alloc (.cells v.cells ty)).heap[w.heap.size]? = some (.cells v.cells ty (0,0)):=by rw[Yu,if_pos rfl]
 have hth:∀j,g.ow j ≠ .none->(w.alloc (.cells v.cells ty)).heap[j]? = w.heap[j]?:=fun j hj=>hheap j (hne j hj)
 have hB:∀j,(e.setB i d).b j=if i=j then ⟨(e.b i).ver+1,d,(e.b i).id+1,(e.b i).hv+1⟩ else e.b j:=fun j=>QpS hib
 have hsz:B.w0.heap.size<=w.heap.size:=h.st.size
 refine⟨⟨ow',J⟩,by simp[J],h.step (fun _=>False) (fun j=>j=i) h.lens h.defers (fun j _=>⟨rfl,rfl⟩) (fun j hj=>⟨by rw[hB,if_neg (Ne.symm hj)],by simp[J,hj]⟩)
  (fun _ h=>h.elim) (fun j hj=>by subst hj;rw[hB,if_pos rfl];exact aMp _) (fun _ h=>h.elim) (fun j hj=>.inl (by subst hj;show (e.b j).id<((e.setB j d).b j).id;rw[hB,if_pos rfl];exact aMp _)) (fun _ h=>h.elim) (fun j hj=>by subst hj;exact QqB hib)
  (fun j hj=>⟨I j _ hj (by simp) (by simp) (by simp) (by simp),hth j (by rw[hj];simp)⟩)
  (fun m j _ hj=>⟨I j _ hj (by simp) (by simp) (by simp) (by simp),hth j (by rw[hj];simp)⟩)
  (fun m j hm hj=>⟨I j _ hj (by simp) (by simp) (by simp;exact hm) (by simp),hth j (by rw[hj];simp)⟩)
  (fun m j hm hj=>⟨I j _ hj (by simp) (by simp) (by simp) (by simp;exact hm),hth j (by rw[hj];simp)⟩)
  ⟨rfl,rfl,rfl,by show w.heap.size<=(w.heap.push _).size;simp,aMb _⟩ (fun j hj _=>hheap j (by omega)) (fun j h1 h2 h3=>hnone j (by omega) (h.nn j h1 h2 h3)) (fun j hj=>?_) (fun q hq hc hn _=>?_) (fun _ j hj=>hj.elim) (fun hk j hj=>?_)⟩
 ·grind
 ·have:=h.lens.2;omega
 ·subst hj
  rw[hB,if_pos rfl];rcases hdv with ⟨S,F,X,rfl,hcs⟩ | ⟨h1,h2,h3,h4,h5⟩
  ·have hrc:∀m,m<S.size->Ql ⟨ow',J⟩ a (w.alloc (.cells v.cells ty)) (.b j) m=Qg v m:=by
    intro m hm;simp only[Ql,J,if_pos,Qd,World.cell?,U,aMf,Qg];rfl
   refine⟨?_,fun hb o hpl=>?_⟩
   ·refine RepC.congr hrc (hd.2.frame (fun m hm=>I m _ hm (by simp) (by simp) (by simp) (by simp)) (fun m hm=>hfl m hm) (fun m hm=>hth m ?_))
    grind
   ·simp only[J,if_pos,Plc.cells.injEq] at hpl
    obtain⟨rfl,rfl⟩:=hpl;refine⟨hN,_,ty,U,?_⟩;obtain⟨u,hu,_⟩:=hcs (S.size - 1) (by have:=Sh.size_pos S;omega)
    have:=(Array.getElem?_eq_some_iff.1 hu).1
    have:=Sh.size_pos S
    omega
  ·have hd':Qs P ⟨ow',J⟩ (e.setB j d) a (w.alloc (.cells v.cells ty)) .none d v:=
    hd.bare h4 (fun m hm=>⟨I m _ hm (by simp) (by simp) (by simp) (by simp),hth m (by rw[hm];simp)⟩) hk
   have:∃hb o,J j=.cells hb o/\ow' hb=.c j/\∃arr ty' v',(w.alloc (.cells v.cells ty)).heap[hb]? = some (.cells arr ty' (0,0))/\arr[o]? = some v'/\v'.cells = #[v']/\Qs P ⟨ow',J⟩ (e.setB j d) a (w.alloc (.cells v.cells ty)) .none d v':=
    ⟨w.heap.size,0,by simp[J],hN,_,ty,v,U,by rw[h5];rfl,h5,hd'⟩
   cases d with
   | dead=>exact absurd rfl h2
   | und=>exact this
   | v S F X=>exact absurd rfl (h1 _ _ _)
   | tup l=>exact absurd rfl (h3 _)
   | nil=>exact this
   | bor r ver p=>exact this
   | loc r ver p=>exact this
   | rp s x=>exact this
   | rpp s x=>exact this
   | clos j c=>exact this
theorem Qir {i:Nat} {d:Desc} {e1:Env} (h:Qay e i d=some e1):i<e.sl.length/\i<e.bl.length/\e1=(e.setB i d).dst (some i) (.loc (.b i) ((e.setB i d).b i).id []):=by
 unfold Qay at h;cases I:Nat.blt i e.sl.length&&Nat.blt i e.bl.length with
 | false=>simp_all
 | true=>
  rw[I,aLB] at h;simp only[aLg] at I;simp at h;exact⟨QdB I.1,QdB I.2,h.symm⟩
theorem Qt1 (h:Rel P B g e a w) {i:Nat} {d:Desc} {e1:Env} (hn:Qay e i d=some e1) {v:Value} {ty:TypeId} {k:Nat} (hd:Qs P g e a w (.fl k) d v)
  (I:(∃S F X,d=.v S F X/\∀j,j<S.size->∃u,Qg v j=some u/\u.oneCell'=true)\/((∀S F X,d ≠ .v S F X)/\d ≠ .dead/\(∀l,d ≠ .tup l)/\bare d=true/\v.cells = #[v])) :
  ∃g',g'.pl i=.cells w.heap.size 0/\Rel P B g' e1 (a.put (some i) (.pointer (some ⟨w.heap.size,0,none⟩))) (w.alloc (.cells v.cells ty)):=by
 obtain⟨hi,J,rfl⟩:=Qir hn;obtain⟨g1,U,h1⟩:=h.Qay hi J (ty:=ty) hd I;have hA:QU g1 (.b i)=some (w.heap.size,0):=by simp[QU,U]
 obtain⟨g2,hpl2,_,h2⟩:=h1.dst 0 (some i) (d:=.loc (.b i) ((e.setB i d).b i).id [])
  ⟨⟨_,rfl⟩,aMb _,fun _=>⟨fun _=>⟨_,_,hA,rfl⟩,fun S F X _=>⟨by simp[QG],fun _=>⟨_,_,by simp[Qi];exact hA,rfl⟩⟩⟩⟩
 grind
theorem Rel.rename (h:Rel P B g e a w) {t:Nat} (I:t<e.sl.length) {d:Desc} (hb:bare d=true) (hd:Qs P g e a w .none d (a.tmps.getD t undef)):Rel P B g (e.setS t d) a w:=by
 refine h.step (fun j=>j=t) (fun _=>False) (by simpa [Env.setS,upd] using h.lens) h.defers (fun j hj=>⟨by rw[QfV I,if_neg (Ne.symm hj)],rfl⟩) (fun j _=>⟨rfl,rfl⟩)
  (fun j hj=>by subst hj;rw[QfV I,if_pos rfl];exact aMp _) (fun _ h=>h.elim) (fun j hj=>by subst hj;exact QiG I) (fun _ h=>h.elim) (fun j hj=>by subst hj;exact Qhl I) (fun _ h=>h.elim)
  (fun j hj=>⟨hj,rfl⟩) (fun _ j _ hj=>⟨hj,rfl⟩) (fun _ j _ hj=>⟨hj,rfl⟩) (fun _ j _ hj=>⟨hj,rfl⟩) (Streams.refl _) (fun _ _ _=>rfl) h.nn h.lt (fun _ _ h=>h.elim) (fun hk j hj=>?_) (fun _ j hj=>hj.elim)
 subst hj;rw[QfV I,if_pos rfl];exact Qs.bare hb hd (fun i hi=>⟨hi,rfl⟩) hk
theorem Qjg {x:Operand} {i:Nat} {d:Desc} {J:Env} {a0:Act} {T:Tag} (hd:Qs P g J a0 w T (J.opd x) (a0.eval x)) (hsl:∀t,x.slot=some t->a0.tmps.getD t undef=a0.eval x) {e1:Env} {U:World} {g1:Gh} (hlen:e1.sl.length=J.sl.length) (hlt:∀t,x.slot=some t->(∃S F X,J.opd x=.v S F X)->t<J.sl.length)
  (h1:Rel P B g1 e1 (a0.put (some i) (.pointer (some ⟨w.heap.size,0,none⟩))) U) (hw1:U=w.alloc (.cells (a0.eval x).cells (0:Nat))\/∃ty,U=w.alloc (.cells (a0.eval x).cells ty)) (hpl:g1.pl i=.cells w.heap.size 0) (hbd:(e1.b i).d=d) (I:∀S F X,d=.v S F X->Ys S (a0.eval x)) :
  Rel P B g1 (leave J x i d e1) (a0.put (some i) (.pointer (some ⟨w.heap.size,0,none⟩))) U:=by
 unfold leave;split
 ·rename_i t S f X S2 F2 X2 hs ho
  cases hc:f.isz || Nat.beq t i with
  | true=>exact h1
  | false=>
   simp only[aLC];have hti:i ≠ t:=by rintro rfl;simp at hc
   refine h1.rename (by rw[hlen];exact hlt t hs ⟨S,f,X,ho⟩) rfl ?_
   have hv:(a0.put (some i) (.pointer (some ⟨w.heap.size,0,none⟩))).tmps.getD t undef=a0.eval x:=by
    rw[<-hsl t hs];rcases aMg i a0.tmps.size with hl | hl
    ·rw[Qhd a0 i t _ hl,if_neg hti]
    ·simp only[Act.put]
     simp_all
   rw[hv];refine⟨aMb _,fun _ S3 F3 X3 hd3=>⟨by simp only[QG],fun _ s hs=>?_⟩⟩
   rw[show (e1.root (.b i)).d=.v S2 F2 X2 from hbd] at hd3
   obtain⟨rfl,_,_⟩:=ZR hd3;simp only[getS,aLb] at hs;subst hs;refine⟨I _ _ _ rfl,fun k hk=>?_⟩
   simp only[Qm,Ql,hpl,Qg,Qd,World.cell?];have:U.heap[w.heap.size]? = some (.cells (a0.eval x).cells (0:Nat) (0,0))\/∃ty,U.heap[w.heap.size]? = some (.cells (a0.eval x).cells ty (0,0)):=by
    rcases hw1 with rfl | ⟨ty,rfl⟩
    ·exact .inl (by rw[Yu,if_pos rfl])
    ·exact .inr ⟨ty,by rw[Yu,if_pos rfl]⟩
   grind
 ·exact h1
theorem Rel.flyD (h:Rel P B g e a w) {g':Gh} {w':World} (J:g'.pl=g.pl) (I:∀j,j<w.heap.size->(∀m,g.ow j ≠ .fl m)->g'.ow j=g.ow j/\w'.heap[j]? = w.heap[j]?)
  (U:StrD B.dm w w') (hlt:∀j,g'.ow j ≠ .none->j<w'.heap.size):Rel P B g' e a w':=by
 have hk:∀j t,t ≠ .none->(∀m,t ≠ .fl m)->g.ow j=t->g'.ow j=t/\w'.heap[j]? = w.heap[j]?:=fun j t h0 h1 hj=>by
  have:=I j (h.lt j (by rw[hj];exact h0)) (fun m=>by rw[hj];exact h1 m)
  grind
 have hsz:=h.st.size
 refine h.stepD (fun _=>False) (fun _=>False) h.lens h.defers (fun _ _=>⟨rfl,rfl⟩) (fun j _=>⟨rfl,by rw[J]⟩) (fun _ h=>h.elim) (fun _ h=>h.elim) (fun _ h=>h.elim) (fun _ h=>h.elim) (fun _ h=>h.elim) (fun _ h=>h.elim)
  (fun i hi=>hk i _ (by simp) (by simp) hi) (fun i j _ hj=>hk j _ (by simp) (by simp) hj) (fun i j _ hj=>hk j _ (by simp) (by simp) hj) (fun i j _ hj=>hk j _ (by simp) (by simp) hj)
  U (fun i h1 h2=>?_) (fun i h1 h2 h3=>?_) hlt (fun _ _ h=>h.elim) (fun _ _ h=>h.elim) (fun _ _ h=>h.elim)
 ·by_cases hf:B.fz0 i
  ·exact (hk i _ (by simp) (by simp) (h.fz i hf)).2
  ·exact (I i (by omega) (fun m=>by rw[h.nn i h1 h2 hf];simp)).2
 ·have h0:=h.nn i h1 h2 h3
  grind
theorem Rel.fly (h:Rel P B g e a w) {g':Gh} {w':World} (I:g'.pl=g.pl) (J:∀j,j<w.heap.size->(∀m,g.ow j ≠ .fl m)->g'.ow j=g.ow j/\w'.heap[j]? = w.heap[j]?)
  (U:Streams w w') (hlt:∀j,g'.ow j ≠ .none->j<w'.heap.size):Rel P B g' e a w':=h.flyD I J U.d hlt
theorem QuK (hT:QR P C) (h:Rel P B g e a w) {frz:Fz} {o:Oper} {t:TypeId} {x:Operand} (ho:o.op=.box t x) {f:Eff} {e':Env} (U:Qn C frz e o=some f) (hf:f.gives e'):QD P B a w o e':=by
 obtain⟨g0,_,hcl,h0⟩:=h.clean;clear h;simp only[Qn,ho,aLa] at U;obtain⟨ti,hti,i,hdst,U⟩:=U;split at U
 ·rename_i d I
  simp only[aLb] at U;subst U;obtain rfl:e'=_:=hf;obtain⟨Tx,hx,_,_⟩:=QC h0 x;have hN:∀j,g0.ow j ≠ .none->j ≠ w.heap.size:=fun j hj=>Nat.ne_of_lt (h0.lt j hj)
  let ow':Nat->Tag:=fun j=>if j=w.heap.size then .fz else g0.ow j
  have kz:∀j,g0.ow j=.fz->ow' j=.fz:=fun j hj=>by simp[ow',hj]
  have J:∀j,j ≠ w.heap.size->(w.alloc (.cells (a.eval x).cells t)).heap[j]? = w.heap[j]?:=fun j hj=>by rw[Yu,if_neg hj]
  have hblk:(w.alloc (.cells (a.eval x).cells t)).heap[w.heap.size]? = some (.cells (a.eval x).cells t (0,0)):=by rw[Yu,if_pos rfl]
  have hrel:Rel P B ⟨ow',g0.pl⟩ e a (w.alloc (.cells (a.eval x).cells t)):=h0.fly rfl (fun j hj hm=>⟨by simp[ow',Nat.ne_of_lt hj],J j (Nat.ne_of_lt hj)⟩) ⟨rfl,rfl,rfl,by show w.heap.size<=(w.heap.push _).size;simp,aMb _⟩ (fun j hj=>by
   show j<(w.heap.push _).size
   rw[Array.size_push];by_cases hjN:j=w.heap.size
   ·omega
   ·have:g0.ow j ≠ .none:=fun h0=>hj (by simp[ow',h0,hjN])
    have:=h0.lt j this;omega)
  have hfr:∀{s:Sh} {c:Nat->Option Value} {y:s.den},RepC P s .z g0.Z w QP c y->RepC P s .z (Gh.Z ⟨ow',g0.pl⟩) (w.alloc (.cells (a.eval x).cells t)) QP c y:=fun hr=>
   hr.frame (fun j hj=>kz j hj) (fun _ h=>h) (fun j hj=>J j (hN j (by rw[show g0.ow j=.fz from hj.resolve_left id];simp)))
  have hd:Qs P ⟨ow',g0.pl⟩ e a (w.alloc (.cells (a.eval x).cells t)) (.fl 0) d (.pointer (some ⟨w.heap.size,0,none⟩)):=by
   revert I hx;cases e.opd x with
   | rp s y=>
    intro I hx;cases I;obtain⟨b,off,hv,hz,hrep⟩:=hx;have hbz:g0.ow b=.fz:=hz
    have hcN:Qd (w.alloc (.cells (a.eval x).cells t)) w.heap.size 0 0=some (.pointer (some ⟨b,off,none⟩)):=by
     unfold Qd World.cell?;simp only[hblk];rw[hv];rfl
    refine⟨w.heap.size,0,b,off,rfl,by simp[ow'],hcN,kz b hbz,?_⟩
    rw[Zm (J b (hN b (by rw[hbz];simp)))]
    exact hfr hrep
   | v s fl y=>
    intro I hx;cases fl with
    | z=>
     cases frz with
     | no=>cases I
     | tk=>cases I
     | fz=>
      cases I;have hx:RepV P s .z g0.Z w (g0.S Tx) (a.eval x) y:=hx
      refine⟨w.heap.size,0,rfl,by simp[ow'],RepC.congr (fun k _=>?_) (hfr hx.2.shared)⟩
      unfold Qd World.cell? Qg;simp only[hblk,aMf];rfl
    | _=>cases I
   | _=>intro I;cases I
  obtain⟨g5,_,_,h5⟩:=hrel.dst 0 o.dst hd;rw[hdst] at h5;exact .value (v:=.pointer (some ⟨w.heap.size,0,none⟩)) (w':=w.alloc (.cells (a.eval x).cells t)) (by simp[execOp,ho,Instr.box,newVar,newRow]) ⟨g5,by rw[hdst];exact h5⟩
 simp only[aLa] at U;obtain⟨⟨e1,d⟩,hv,e2,hn,U⟩:=U;simp only[aLb] at U;subst U;obtain rfl:e'=_:=hf;obtain⟨g1,hpl1,h1,hd,hdv⟩:=Qry h0 (fun i=>hcl i 0) hv
 have hdv':(∃S F X,d=.v S F X/\∀j,j<S.size->∃u,Qg (a.eval x) j=some u/\u.oneCell'=true)\/((∀S F X,d ≠ .v S F X)/\d ≠ .dead/\(∀l,d ≠ .tup l)/\bare d=true/\(a.eval x).cells = #[a.eval x]):=by
  rcases hdv with ⟨f1,y1,rfl,h3⟩ | h2
  ·have hd:RepV P ti.sh f1 g1.Z w (g1.S (.fl 0)) (a.eval x) y1:=hd
   exact .inl ⟨_,_,_,rfl,cells_one h3 hd.2⟩
  ·exact .inr h2
 obtain⟨g2,hpl2,h2⟩:=Qt1 h1 hn (ty:=t) hd hdv';obtain⟨Tx,hdx,hsx,_⟩:=QC h0 x;obtain⟨hi1,hib1,he2⟩:=Qir hn;have hl1:e1.sl.length=e.sl.length:=h1.lens.2.trans h0.lens.2.symm
 have h3:=Qjg (i:=i) (d:=d) hdx (fun t ht=>(hsx t ht).2.1) (e1:=e2) (by rw[he2];simp[Env.dst,Env.setS,Env.setB,upd];exact hl1)
  (fun t ht ⟨S,F,X,hx⟩=>Env.lt_of_v ((hsx t ht).1.trans hx)) h2 (.inr ⟨t,rfl⟩) hpl2
  (by rw[he2];show ((e1.setB i d).b i).d=d;rw[QpS hib1,if_pos rfl])
  (fun S F X hd2=>by subst hd2;exact hd.1)
 rw[<-hdst] at h3;exact .value (v:=.pointer (some ⟨w.heap.size,0,none⟩)) (by simp[execOp,ho,Instr.box,newVar,newRow]) ⟨g2,h3⟩
theorem ZQ:∀s:Sh,(YP s).length=s.size
 | .prod a b=>by simp[YP,Sh.size,ZQ a,ZQ b]
 | .int _ | .bool | .str | .list _ | .fn1 .. | .fn2 ..=>rfl
theorem QcY (s:Sh):(zeroV s).cells=(YP s).toArray:=by cases s<;>simp[zeroV,YP,Value.cells]
theorem QrU (s:Sh):Ys s (zeroV s):=by
 cases s with
 | prod a b=>exact⟨_,rfl,by simpa [Sh.size] using ZQ (.prod a b)⟩
 | _=>rfl
theorem QgG (s:Sh) (k:Nat):Qg (zeroV s) k=(YP s)[k]?:=by simp[Qg,QcY]
theorem Qjx {Z:Nat->Prop} {w:World}:∀(s:Sh) (S:Nat->Prop) (c:Nat->Option Value),(∀k,k<s.size->c k=(YP s)[k]?)->RepC P s (Fl.full s) Z w S c s.dflt:=by
 intro s;induction s with
 | int k=>intro S c h _;exact h 0 (Sh.size_pos _)
 | bool=>intro S c h _;exact h 0 (Sh.size_pos _)
 | str=>intro S c h _;exact h 0 (Sh.size_pos _)
 | list s _=>intro S c h;exact⟨none,0,0,h 0 (Sh.size_pos _),rfl,aMb _,.inl ⟨rfl,rfl,rfl⟩⟩
 | prod a b I J=>
  intro S c h;simp[Sh.size_prod,YP] at h;refine⟨fun _=>true,(I _ c fun k hk=>?_).flagx ?_,(J _ _ fun k hk=>?_).flagx ?_⟩
  ·rw[h k (by omega),aLu (by rw[ZQ];exact hk)]
  ·simp[Fl.full,Fl.fst_mk]
  ·rw[h _ (by omega),aLv (by rw[ZQ];omega),ZQ];congr 1;omega
  ·simp[Fl.full,Fl.snd_mk]
 | fn1 a r rf _ _=>intro S c h _;exact⟨.nilFunc,⟨h 0 (Sh.size_pos _),rfl⟩,fun Z' w' _ va xa y _ _ U=>by cases U⟩
 | fn2 a b r _ _ _=>intro S c h _;exact⟨.nilFunc,⟨h 0 (Sh.size_pos _),rfl⟩,fun Z' w' _ va xa vb xb y _ _ _ _ U=>by cases U⟩
theorem Qok {Z S:Nat->Prop} {w:World} (s:Sh):RepV P s (Fl.full s) Z w S (zeroV s) s.dflt:=
 ⟨QrU s,Qjx s _ _ fun k _=>QgG s k⟩
theorem Qhq:∀s:Sh,okS s (Fl.full s)=true
 | .prod a b=>by simp[Fl.full,okS,Fl.fst_mk,Fl.snd_mk,Qhq a,Qhq b]
 | .list s=>by simp[Fl.full,okS,Qhq s]
 | .int _ | .bool | .str | .fn1 .. | .fn2 ..=>rfl
theorem Qvz {t:TypeId} {ti:TI} (h:TyOk P C t ti) (J:ti.td.zok=true) (w:World):(zeroValue t).run P w=.ok (zeroV ti.sh) w:=by
 obtain⟨i,hi,_,_,_,I⟩:=h.info;have:i.zero=some (zeroV ti.sh):=by
  revert I J;cases ti.td<;>simp[TD.zok]
 simp[zeroValue,typeInfo,hi,this]
theorem Qsy (hT:QR P C) (h:Rel P B g e a w) {frz:Fz} {o:Oper} {t:TypeId} (ho:o.op=.alloc t) {f:Eff} {e':Env} (I:Qn C frz e o=some f) (hf:f.gives e'):QD P B a w o e':=by
 simp[Qn,ho,aLa] at I;obtain⟨ti,U,i,J,I⟩:=I;have hty:=hT t ti U
 cases hz:ti.td.zok with
 | false=>simp_all
 | true=>
  rw[hz] at I;obtain⟨e2,hn,I⟩:=aLa.1 I;simp at I;subst I;obtain rfl:e'=_:=hf;have hr:RepV P ti.sh (Fl.full ti.sh) g.Z w (g.S (.fl 0)) (zeroV ti.sh) ti.sh.dflt:=Qok _
  obtain⟨g2,_,h2⟩:=Qt1 h hn (ty:=t) hr (.inl ⟨_,_,_,rfl,cells_one (Qhq _) hr.2⟩);rw[<-J] at h2;exact .value (by simp[execOp,ho,Instr.alloc,Qvz hty hz,newVar,newRow]) ⟨g2,h2⟩
end Go.Dx
