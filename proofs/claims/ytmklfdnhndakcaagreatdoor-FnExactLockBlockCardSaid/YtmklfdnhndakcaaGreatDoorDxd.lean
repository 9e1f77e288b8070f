/- A LIBRARY: an executor over the code of a program, proved sound: what its letters say of a function is so (contract_of); how a row is closed by it (law_calls) -/
import Derived.Test.YtmklfdnhndakcaaGreatDoorDxc
import Derived.Lib.ItoaNum
import Derived.Lib.LaidTab
import Derived.Lib.Join
import Derived.Lib.Split
import Derived.Below
import Derived.Sort.Grow
import Derived.Deep.Draws
import Derived.Shelf.Strings.Split
import Derived.Lay
import Derived.LaidMore
import Derived.Handed
import Derived.SevenTiedAt
import Derived.Stop.Joined
import Derived.Lib.IndexMore
import Derived.Lib.ParseIntB
import Derived.Laws.IdiomCopy
set_option linter.unusedVariables false
set_option linter.unusedSimpArgs false
set_option maxRecDepth 100000
namespace Go.Dx
open Go.Sort
variable {P:Program} {W0:World}
theorem Qkg (w:World) (k:Nat) (os:Array Obj):Streams w (grow (w.drewN k) os):=⟨rfl,rfl,rfl,by simp[grow,World.drewN],by simp[grow,World.drewN]⟩
theorem Qp6 (w:World) (k:Nat) (os:Array Obj) {i:Nat} (h:i<w.heap.size):(grow (w.drewN k) os).heap[i]? = w.heap[i]?:=by
 simp[grow,World.drewN,Array.getElem?_append_left h]
theorem Qm3 {w w':World} {ow:Nat->Tag} (J:GOk w ow w') {n:String} {r:Array Value} (h:w.var? P n=some r):w'.var? P n=some r:=by
 unfold World.var? at h ⊢;rw[aLa] at h ⊢;obtain⟨g,U,h⟩:=h;refine⟨g,U,?_⟩;have I:g<w.heap.size:=by
  rcases aMg g w.heap.size with h0 | h0
  ·exact h0
  ·rw[Array.getElem?_eq_none h0] at h;cases h
 rw[(J g I).2];exact h
theorem QlP {ins:List PS} {F:TupI (ins.map PS.sh)->Option (TupO ([(Sh.str,Fl.z)].map (·.1)++QaO ins))} {dm:Bool} {ow:Nat->Tag} {w w':World} {vs:List Value} {l:List UInt8} (I:StrD dm w w') (hh:∀i,i<w.heap.size->w'.heap[i]? = w.heap[i]?) (J:∀i,ow i ≠ .none->i<w.heap.size)
  (ys:TupO ([(Sh.str,Fl.z)].map (·.1)++QaO ins)) (hy:scat _ ys=[⟨.str,l⟩]) (U:Zp P ow w w' 0 ins vs []) :
  ∃vr ow',Ending.returned (.string ⟨l.toArray⟩)=.returned vr/\Qhu P { ins:=ins,outs:=[(.str,.z)],F:=F,dm:=dm } ow w vs ys ow' w' vr:=by
 refine⟨_,ow,rfl,I,fun j hj _=>⟨hh j hj,rfl⟩,fun j hj=>Nat.lt_of_lt_of_le (J j hj) I.size,?_,?_⟩
 ·show Qpm P ow w' [(.str,.z)] _ ((scat _ ys).take 1)
  rw[hy];exact⟨rfl,QfF l⟩
 ·show Zp P ow w w' 0 ins vs ((scat _ ys).drop 1)
  rw[hy];exact U
def fmtS (n b:Int):Option (List UInt8):=bif (bif decide (b=10) then (bif decide (-9223372036854775808<=n) then decide (n<=9223372036854775807) else false) else false) then some (Lib.itoa n) else none
theorem Qwt (n:Int) (h0:-9223372036854775808<=n) (h1:n<=9223372036854775807):fmtS n 10=some (Lib.itoa n):=by simp[fmtS,h0,h1]
theorem Qt8 {n b:Int} {l:List UInt8} (h:fmtS n b=some l):b=10/\-9223372036854775808<=n/\n<=9223372036854775807/\l=Lib.itoa n:=by
 unfold fmtS at h;cases hb:decide (b=10) with
 | false=>rw[hb] at h;cases h
 | true=>
  rw[hb] at h;by_cases h0:-9223372036854775808<=n
  ·by_cases h1:n<=9223372036854775807
   ·simp[h0,h1] at h
    exact⟨aLG hb,h0,h1,h.symm⟩
   ·simp[h1] at h
  ·simp[h0] at h
theorem QqH {j:FuncId} (hE:Enters P j)
  (h:∀(n:Int) (h0:-9223372036854775808<=n) (h1:n<=9223372036854775807) (w:World) (J:Lib.TabIs P w "internal/strconv.uint64pow10" .u64 Lib.pow10Tab),
   Calls P j #[.int .i64 n,.int .i64 10] w fun e w'=>e=.returned (.string ⟨(Lib.itoa n).toArray⟩)/\∃k os,w'=grow (w.drewN k) os)
  (J:Lib.TabIs P W0 "internal/strconv.uint64pow10" .u64 Lib.pow10Tab):Contract P W0 j { ins:=[.v (.int .i64) .z,.v (.int .i64) .z],outs:=[(.str,.z)],F:=fun t=>fmtS t.1 t.2.1 }:=by
 refine⟨hE,fun w ow vs xs ys U hG I hF=>?_⟩
 match vs,I with
 | [],I=>exact I.elim
 | [_],I=>exact I.2.elim
 | _::_::_::_,I=>cases I.2.2
 | [v,u],I=>
  obtain⟨h1,h2,_⟩:=I;obtain⟨x,y,_⟩:=xs;have h1:=Jm rfl h1
  have h2:=Jm rfl h2
  subst h1 h2;obtain⟨e1,e2,e3,e4⟩:=Qt8 (show fmtS x y=some ys from hF)
  subst e1 e4;refine (h x e2 e3 w (Qm3 hG J)).mono fun e w' h=>?_
  obtain⟨rfl,k,os,rfl⟩:=h;exact QlP (Qkg w k os).d (fun i hi=>Qp6 w k os hi) U _ rfl ⟨rfl,rfl⟩
def Qih (x:List (List UInt8)) (sep:List UInt8):Option (List UInt8):=bif (bif Nat.ble (List.length x) 140737488355328 then Nat.ble (List.length (Lib.join x sep)) 140737488355328 else false) then some (Lib.join x sep) else none
theorem QlD (x:List (List UInt8)) (sep:List UInt8) (h0:x.length<=140737488355328) (h1:(Lib.join x sep).length<=140737488355328):Qih x sep=some (Lib.join x sep):=by
 unfold Qih;rw[Nat.ble_eq.mpr h0,Nat.ble_eq.mpr h1];rfl
theorem Qr5 {x:List (List UInt8)} {sep l:List UInt8} (h:Qih x sep=some l):x.length<=140737488355328/\(Lib.join x sep).length<=140737488355328/\l=Lib.join x sep:=by
 unfold Qih at h;cases h0:Nat.ble (List.length x) 140737488355328 with
 | false=>rw[h0] at h;cases h
 | true=>
  rw[h0,aLB] at h;cases h1:Nat.ble (List.length (Lib.join x sep)) 140737488355328 with
  | false=>rw[h1] at h;cases h
  | true=>rw[h1] at h;simp at h;exact⟨Nat.ble_eq.mp h0,Nat.ble_eq.mp h1,h.symm⟩
theorem QsM {Z:Nat->Prop} {w:World} {b off:Nat} {x:List (List UInt8)} (h:∀j (h:j<x.length),RepC P .str .z Z w QP (Qd w b (off+j * Sh.str.size)) (x[j]'h)) :
  ∀(j:Nat) y,(x.map fun l=>(⟨l.toArray⟩:ByteArray))[j]? = some y->w.cell? ⟨b,off+j,none⟩=some (.string y):=by
 intro j y I;rw[List.getElem?_map] at I;obtain⟨l,J,rfl⟩:=aLd.1 I;obtain⟨hj,rfl⟩:=aLy.1 J;have:=h j hj (by simp)
 simpa [Qd,Sh.size] using this
theorem QoR {j:FuncId} (hE:Enters P j)
  (U:∀(a:Option Addr) (c:Nat) (sep:ByteArray) (w:World),Calls P j #[.slice a 0 c,.string sep] w fun e w'=>e=.returned (.string ⟨#[]⟩)/\w'=w)
  (h:∀(bk o c:Nat) (xs:List ByteArray) (sep:ByteArray) (w:World) (hcells:∀(j:Nat) x,xs[j]? = some x->w.cell? ⟨bk,o+j,none⟩=some (.string x))
   (hbk:bk<w.heap.size) (hN:xs.length<=140737488355328) (hcap:xs.length<=c) (hlen:(Lib.join (xs.map (·.data.toList)) sep.data.toList).length<=140737488355328),
   Calls P j #[.slice (some ⟨bk,o,none⟩) xs.length c,.string sep] w fun e w'=>e=.returned (.string ⟨(Lib.join (xs.map (·.data.toList)) sep.data.toList).toArray⟩)/\Go.RowKit.Below w.heap.size w w') :
  Contract P W0 j { ins:=[.v (.list .str) .z,.v .str .z],outs:=[(.str,.z)],F:=fun t=>Qih t.1 t.2.1,dm:=false }:=by
 refine⟨hE,fun w ow vs xs ys hlt hG J hF=>?_⟩
 match vs,J with
 | [],J=>exact J.elim
 | [_],J=>exact J.2.elim
 | _::_::_::_,J=>cases J.2.2
 | [v,u],J=>
  obtain⟨⟨hform,A,n,cap,e1,e2,e3,e4⟩,h2,_⟩:=J;obtain⟨x,y,_⟩:=xs;have h2:=JV rfl h2
  subst h2;have hv1:v.cells = #[v]:=hform
  simp only[Qg,hv1] at e1;simp only[List.getElem?_toArray,aLt,aLb] at e1;subst e1;obtain⟨f1,f2,f3⟩:=Qr5 (show Qih x y=some ys from hF)
  subst f3;have e2:List.length x=n:=e2
  rcases aMA n with hn | hn
  ·obtain rfl:=hn
   have hx:x=[]:=aMk e2
   subst hx;refine (U A cap _ w).mono fun e w' h=>?_
   obtain⟨rfl,rfl⟩:=h;exact QlP (Streams.refl _).d (fun i hi=>rfl) hlt _ rfl ⟨rfl,rfl⟩
  ·obtain⟨b,off,rfl,hz,hr⟩:=e4 hn
   have hb:b<w.heap.size:=hlt b (by rw[show ow b=.fz from hz];simp)
   have hmm:(x.map fun l=>(⟨l.toArray⟩:ByteArray)).map (·.data.toList)=x:=by simp[List.map_map,Function.comp_def]
   have hc:=h b off cap (x.map fun l=>⟨l.toArray⟩) ⟨y.toArray⟩ w (QsM hr) hb (by simpa using f1) (by simpa [e2] using e3) (by rw[hmm];exact f2)
   rw[hmm,aMH,e2] at hc;refine hc.mono fun e w' h=>?_
   obtain⟨rfl,I⟩:=h;exact QlP ⟨I.os,I.tape,I.output,I.size,fun h=>by cases h⟩ (fun i hi=>I.block i hi) hlt _ rfl ⟨rfl,rfl⟩
end Go.Dx
set_option maxRecDepth 100000
namespace Go.Dx
open Go.Sort
def digS (k:Nat) (n:Int):Option (List UInt8):=bif (bif decide (0<=n/\1<=k) then (bif decide (n<=9223372036854775807) then decide (n<10 ^ k) else false) else false) then some (Lib.itoa n) else none
theorem Qob {k:Nat} {n:Int} {l:List UInt8} (h:digS k n=some l):0<=n/\n<=9223372036854775807/\n<10 ^ k/\l=Lib.itoa n/\1<=k:=by
 unfold digS at h;by_cases h0:0<=n/\1<=k
 ·by_cases h1:n<=9223372036854775807
  ·by_cases h2:n<10 ^ k
   ·simp[h0,h1,h2] at h;exact⟨h0.1,h1,h2,h.symm,h0.2⟩
   ·simp[h2] at h
  ·simp[h1] at h
 ·simp[h0] at h
theorem QrH {k:Nat} {n:Int} (h0:0<=n) (h1:n<=9223372036854775807) (h2:n<10 ^ k) (hk:1<=k):digS k n=some (Lib.itoa n):=by simp[digS,h0,h1,h2,hk]
theorem Qv6 {n:Int} (h0:0<=n) (h1:n<=9223372036854775807):digS 19 n=some (Lib.itoa n):=QrH h0 h1 (by omega) (by decide)
theorem QtN (n:Int):digS 0 n=none:=by
 cases h:digS 0 n with
 | none=>rfl
 | some l=>
  obtain⟨_,_,_,_,h0⟩:=Qob h;omega
def digT (k:Nat) (I:Int):Option (List UInt8):=
 bif (decide ((I:Int)<10)) then
 some (List.map (fun (b:Int)=>UInt8.ofNat b.toNat) ([IntKind.wrap .u8 (IntKind.wrap .i64 (48+I))]:List Int))
 else
 (digS k (IntKind.wrap .i64 (Int.tdiv I 10))).bind fun (J:List UInt8)=>
 bif decide (List.length J+List.length (List.map (fun (b:Int)=>UInt8.ofNat b.toNat) ([IntKind.wrap .u8 (IntKind.wrap .i64 (48+(Int.tmod I 10)))]:List Int))<=LIM) then
 some (List.append J (List.map (fun (b:Int)=>UInt8.ofNat b.toNat) ([IntKind.wrap .u8 (IntKind.wrap .i64 (48+(Int.tmod I 10)))]:List Int)))
 else none
theorem QtS:∀d:Fin 10,UInt8.ofNat (IntKind.wrap .u8 (IntKind.wrap .i64 (48+(d.val:Int)))).toNat=UInt8.ofNat (48+d.val):=by decide
theorem Jo (n:Nat):Lib.itoa (n:Int)=Lib.decDigits n:=by
 unfold Lib.itoa;rw[if_neg (by omega)];rfl
theorem QdO:∀(k n:Nat),n<10 ^ k->1<=k->Lib.nDigits n<=k
 | 0,n,h,h1=>by omega
 | k+1,n,h,_=>by
  rw[Lib.nDigits];split
  ·omega
  ·rename_i h10
   have hk:1<=k:=by
    rcases aMA k with h0 | h0
    ·subst h0;simp at h;omega
    ·exact h0
   have:=QdO k (n / 10) (by rw[Nat.pow_succ] at h;omega) hk
   omega
theorem QpC {n:Int} (h0:0<=n) (h1:n<=9223372036854775807):(Lib.itoa n).length<=19:=by
 obtain⟨m,rfl⟩:=aLA h0;rw[Jo,Lib.decDigits_length];exact QdO 19 m (by omega) (by decide)
theorem wrap64 {n:Int} (h0:-9223372036854775808<=n) (h1:n<=9223372036854775807):IntKind.wrap .i64 n=n:=by
 exact Qy h0 (by omega)
theorem Qty {k:Nat} {n:Int} {l:List UInt8} (h:digS (k+1) n=some l):digT k n=some l:=by
 obtain⟨h0,h1,h2,rfl,_⟩:=Qob h;obtain⟨m,rfl⟩:=aLA h0;unfold digT;by_cases hm:m<10
 ·have e1:decide (((m:Nat):Int)<10)=true:=aLE (by omega)
  rw[e1,aLB,Jo,Lib.decDigits_one hm,<-QtS ⟨m,hm⟩];rfl
 ·have hk:1<=k:=by
   rcases aMA k with h0 | h0
   ·subst h0;simp at h2;omega
   ·exact h0
  have e1:decide (((m:Nat):Int)<10)=false:=aLD (by omega)
  have I:Int.tdiv ((m:Nat):Int) 10=((m / 10:Nat):Int):=rfl
  have J:Int.tmod ((m:Nat):Int) 10=((m % 10:Nat):Int):=rfl
  rw[e1,aLC,I,J,wrap64 (by omega) (by omega),QrH (by omega) (by omega) (by rw[Int.pow_succ] at h2;omega) hk,aLc]
  have e4:(Lib.itoa ((m / 10:Nat):Int)).length<=19:=QpC (by omega) (by omega)
  have U:Lib.itoa ((m:Nat):Int)=List.append (Lib.itoa ((m / 10:Nat):Int)) (List.map (fun (b:Int)=>UInt8.ofNat b.toNat) ([IntKind.wrap .u8 (IntKind.wrap .i64 (48+((m % 10:Nat):Int)))]:List Int)):=by
   rw[Jo,Jo,Lib.decDigits,dif_neg hm];show _=_++[UInt8.ofNat (IntKind.wrap .u8 (IntKind.wrap .i64 (48+((m % 10:Nat):Int)))).toNat]
   rw[QtS ⟨m % 10,by omega⟩]
  rw[<-U,aMH];have e6:decide (List.length (Lib.itoa ((m / 10:Nat):Int))+List.length ([IntKind.wrap .u8 (IntKind.wrap .i64 (48+((m % 10:Nat):Int)))]:List Int)<=LIM)=true:=aLE (by
   simp only[aLh,aLj,LIM];omega)
  rw[e6];rfl
end Go.Dx
set_option maxRecDepth 100000
namespace Go.Dx
open Go.Sort
variable {P:Program} {W0:World}
def QgD (s sep:List UInt8):Option (List (List UInt8)):=bif (bif Nat.ble 1 (List.length sep) then Nat.ble (List.length s) 4294967280 else false) then some (Lib.split s sep) else none
theorem Qq4 {s sep:List UInt8} {l:List (List UInt8)} (h:QgD s sep=some l):1<=sep.length/\s.length<=4294967280/\l=Lib.split s sep:=by
 unfold QgD at h;cases h0:Nat.ble 1 (List.length sep) with
 | false=>rw[h0] at h;cases h
 | true=>
  rw[h0,aLB] at h;cases h1:Nat.ble (List.length s) 4294967280 with
  | false=>rw[h1] at h;cases h
  | true=>rw[h1] at h;simp at h;exact⟨Nat.ble_eq.mp h0,Nat.ble_eq.mp h1,h.symm⟩
theorem Qtw {s sep:List UInt8} (h0:1<=sep.length) (h1:s.length<=4294967280):QgD s sep=some (Lib.split s sep):=by
 unfold QgD;rw[Nat.ble_eq.mpr h0,Nat.ble_eq.mpr h1];rfl
theorem QnD {j:FuncId} {T:TypeId} {gm:Nat} (hE:Enters P j)
  (h:∀(s sep:ByteArray) (m:Int) (w:World) (hs:s.size<4294967281) (hm:w.cell? ⟨gm,0,none⟩=some (.int .i64 m)) (h1:1<=sep.size),
  Calls P j #[.string s,.string sep] w fun e w'=>
   e=.returned (.slice (some ⟨w.heap.size,0,none⟩) (Lib.countB s sep+1) (Lib.countB s sep+1))/\w'=w.alloc (.cells ((Lib.splitB sep 0 (Lib.countB s sep) s).map Value.string).toArray T))
  (hmax:∃m,W0.cell? ⟨gm,0,none⟩=some (.int .i64 m)) :
  Contract P W0 j { ins:=[.v .str .z,.v .str .z],outs:=[(.list .str,.o .z)],F:=fun t=>QgD t.1 t.2.1 }:=by
 refine⟨hE,fun w ow vs xs ys hlt hG J hF=>?_⟩
 match vs,J with
 | [],J=>exact J.elim
 | [_],J=>exact J.2.elim
 | _::_::_::_,J=>cases J.2.2
 | [v,u],J=>
  obtain⟨h1,h2,_⟩:=J;obtain⟨x,y,_⟩:=xs;have h1:=JV rfl h1
  have h2:=JV rfl h2
  subst h1 h2;obtain⟨U,hzs⟩:∃U:List (List UInt8),U=ys:=⟨ys,rfl⟩;subst hzs;obtain⟨f1,f2,f3⟩:=Qq4 (show QgD x y=some U from hF)
  obtain⟨m,hm⟩:=hmax;have hgl:gm<W0.heap.size:=by
   rcases aMg gm W0.heap.size with h0 | h0
   ·exact h0
   ·simp[World.cell?,Array.getElem?_eq_none h0] at hm
  have hm':w.cell? ⟨gm,0,none⟩=some (.int .i64 m):=by
   rw[<-hm];simp only[World.cell?,(hG gm hgl).2]
  have hc:=h ⟨x.toArray⟩ ⟨y.toArray⟩ m w (by show x.toArray.size<_;simp;omega) hm' (by show 1<=y.toArray.size;simpa using f1)
  have hall:(Lib.splitB ⟨y.toArray⟩ 0 (Lib.countB ⟨x.toArray⟩ ⟨y.toArray⟩) ⟨x.toArray⟩).length=Lib.countB ⟨x.toArray⟩ ⟨y.toArray⟩+1:=Lib.splitB_all ⟨y.toArray⟩ (by show 1<=y.toArray.size;simpa using f1) 0 _ _ rfl
  have I:(Lib.splitB ⟨y.toArray⟩ 0 (Lib.countB ⟨x.toArray⟩ ⟨y.toArray⟩) ⟨x.toArray⟩).map (·.data.toList)=U:=by
   rw[Lib.splitB_data,f3];simp[Lib.split,Lib.countB]
  rw[<-hall] at hc;generalize Lib.splitB ⟨y.toArray⟩ 0 (Lib.countB ⟨x.toArray⟩ ⟨y.toArray⟩) ⟨x.toArray⟩=bs at hc I;refine hc.mono fun e w' h=>?_
  obtain⟨rfl,rfl⟩:=h;have hold:∀i,i<w.heap.size->(w.alloc (.cells (bs.map Value.string).toArray T)).heap[i]? = w.heap[i]?:=fun i hi=>by rw[Yu,if_neg (by omega)]
  have hnew:(w.alloc (.cells (bs.map Value.string).toArray T)).heap[w.heap.size]? = some (.cells (bs.map Value.string).toArray T):=by rw[Yu,if_pos rfl]
  have hsz:(w.alloc (.cells (bs.map Value.string).toArray T)).heap.size=w.heap.size+1:=by show (w.heap.push _).size=_;simp
  refine⟨_,fun i=>if i=w.heap.size then .fl 0 else ow i,rfl,⟨rfl,rfl,rfl,by omega,fun _=>aMb _⟩,fun i hi _=>⟨hold i hi,if_neg (by omega)⟩,fun i hi=>?_,?_,⟨rfl,rfl⟩⟩
  ·rw[hsz]
   by_cases hi2:i=w.heap.size
   ·omega
   ·have:ow i ≠ .none:=by simpa [hi2] using hi
    have:=hlt i this
    omega
  ·refine⟨rfl,rfl,_,_,_,rfl,?_,aMb _,.inr ⟨w.heap.size,0,_,_,rfl,by simp[So],hnew,by simp[Sh.size],fun _=>0,fun j hj=>fun _=>?_⟩⟩
   ·show List.length U=bs.length
    rw[<-I];simp
   ·have hj':j<bs.length:=by
     have:List.length U=bs.length:=by rw[<-I];simp
     rw[<-this];exact hj
    have hj2:j<U.length:=hj
    have e:U[j]=bs[j].data.toList:=(List.getElem_of_eq I.symm hj2).trans (by simp)
    show World.cell? _ ⟨w.heap.size,0+j * 1+0,none⟩=some (.string ⟨List.toArray (U[j]'hj2)⟩)
    rw[e,show (⟨List.toArray bs[j].data.toList⟩:ByteArray)=bs[j] from by rw[Array.toArray_toList]]
    unfold World.cell?;simp only[hnew];simp[hj']
end Go.Dx
namespace Go.Dx
open Go.Lib
theorem Qlh {P:Program} {W:World} {name:String} {k:IntKind} {zs:List Int} {g:Nat} {t e:TypeId} {n:Nat}
  (hg:P.globalNamed name=some g) (I:(P.globals[g]?).map (·.type)=some t) (ht:P.underlying t=some (.array n e)) (he:P.underlying e=some (.int k)) (J:P.cellsOf e=1) (U:P.cellsOf t=n) :
  ∀(l:List (String×DataW Unit)) (ps:List MemPlace),DataW.LaidVars P W l ps->(name,tabData k zs) ∈ l->TabIs P W name k zs
 | [],_,_,h=>by cases h
 | (m,d)::l,ps,hv,h=>by
  obtain⟨g',t',cs,fuel,p,q,hg',ht',hvar,hd,hr,_⟩:=hv;rcases List.mem_cons.1 h with h | h
  ·simp only[aLe] at h
   obtain⟨rfl,rfl⟩:=h;obtain rfl:=aMu (hg.symm.trans hg');obtain rfl:=aMu (I.symm.trans ht');unfold TabIs;rw[hvar,<-cells_of_tab ht he J U hd]
  ·exact Qlh hg I ht he J U l q hr h
theorem QqT {P:Program} {W:World} {name:String} {k:IntKind} {zs:List Int} {g:Nat} {t e:TypeId} {n:Nat} {l:List (String×DataW Unit)}
  (hg:P.globalNamed name=some g) (I:(P.globals[g]?).map (·.type)=some t) (ht:P.underlying t=some (.array n e)) (he:P.underlying e=some (.int k)) (J:P.cellsOf e=1) (U:P.cellsOf t=n)
  (h:laidMet P l W) (hm:(name,tabData k zs) ∈ l):TabIs P W name k zs:=
 let ⟨ps,hv,_⟩:=h
 Qlh hg I ht he J U l ps hv hm
theorem QoW {H:Type} {enc:TypeId×Value->H} {a:Assume} {C:Checked} {os:Os} {f:FuncId} {fn:Func} {s:ChangeSpec} {conds:List PathCond} {apart fresh handsOn again:Bool} {X:World->Array Value->Prop}
  (hX:∀(w w':World) (args:Array Value),w.heap=w'.heap->X w args->X w' args)
  (own:ownKnob C.prog.godebug=none) (started:os.Started) (I:C.prog.inits.idxOf? f=none) (hfn:C.prog.funcs[f]? = some fn)
  (witness:∃(w:World) (tape:Tape) (i:Input),w.os=os/\(w.forCall tape i).Shaped C.prog/\i.vars=[]/\Input.okWide C.prog (w.forCall tape i) .any w.heap.size f i/\
   ((s.pre enc C.prog fn conds apart (w.forCall tape i).memory i.args/\X (w.forCall tape i).memory i.args)/\sizedMet enc C.prog fn (OpenSpec.ofChange s) apart (w.forCall tape i).memory i.args)/\a.holds C.prog (lone (Frame.enter C.prog f i.args .normal) [] (w.forCall tape i)))
  (walk:∀(W:World) (base:Nat) (args:Array Value) (ds gs:List (DataW H)) (before:List MemPlace),W.ShapedOpen C.prog->X W args->
   (∀(j:Nat) t v,fn.params[j]? = some t->args[j]? = some v->Value.okWide C.prog W .any base t v)->
   DataW.Whole enc C.prog fn.params.toList s.vars apart W args.toList ds gs before->
   Calls C.prog f args W fun e W'=>∃v,e=.returned v/\s.post enc C.prog fn apart fresh handsOn again W args v W') :
  ReturnsInHanded a C os f .any (fun w args=>(s.pre enc C.prog fn conds apart w args/\X w args)/\sizedMet enc C.prog fn (OpenSpec.ofChange s) apart w args) (s.post enc C.prog fn apart fresh handsOn again):=by
 refine returnsInHanded_of_calls own started I witness fun w tape i _ hsh _ hok J _=>?_
 obtain⟨_,_,_,fn',U,_,_,_,_,hval⟩:=hok;cases aMu (U.symm.trans hfn);obtain⟨⟨⟨ds,gs,before,hw,_⟩,hx⟩,_⟩:=J;refine (walk (w.forCall tape i) w.heap.size i.args ds gs before hsh (hX _ _ _ (by rfl) hx) hval (DataW.Whole.of_heap (w':=w.forCall tape i) (by rfl) hw)).mono fun e W' h=>?_
 obtain⟨v,rfl,hp⟩:=h;exact ChangeSpec.post_blind hp
theorem QvK {P:Program} (h:P.funcs.any Func.goes=false) (f:FuncId):P.goes f=false:=by
 have h1:∀(g:Nat),(P.funcs[g]?).any Func.goes=false:=fun g=>by
  cases I:P.funcs[g]? with
  | none=>rfl
  | some fn=>
   rw[Array.any_eq_false'] at h;have:=h fn (Array.mem_of_getElem? I)
   simpa using this
 unfold Program.goes;simp[h1,h]
theorem Qtz {P:Program} (h:P.funcs.any Func.goes=false) (s:Start) (n:String):false=P.goesAt s n:=by
 have h1:=QvK h
 unfold Program.goesAt Program.goesFrom;cases P.funcNamed n<;>cases s<;>simp[h1]
end Go.Dx
set_option maxRecDepth 100000
namespace Go.Dx
open Go.Sort
variable {P:Program} {W0:World}
def cutS (s sep:List UInt8):Option (List UInt8×List UInt8×Bool):=bif Nat.ble (List.length s) 4294967280 then some (Lib.cut s sep) else none
theorem QsU {s sep:List UInt8} {r:List UInt8×List UInt8×Bool} (h:cutS s sep=some r):s.length<=4294967280/\r=Lib.cut s sep:=by
 unfold cutS at h;cases h1:Nat.ble (List.length s) 4294967280 with
 | false=>rw[h1] at h;cases h
 | true=>rw[h1] at h;simp at h;exact⟨Nat.ble_eq.mp h1,h.symm⟩
theorem QvS {s:List UInt8} (sep:List UInt8) (h1:s.length<=4294967280):cutS s sep=some (Lib.cut s sep):=by
 unfold cutS;rw[Nat.ble_eq.mpr h1];rfl
theorem Quy {Z S:Nat->Prop} {w:World} (b:Bool):RepV P .bool .z Z w S (.bool b) b:=⟨rfl,fun _=>rfl⟩
theorem QpJ {j:FuncId} {J:Nat} (hE:Enters P j)
  (h:∀(s sep:ByteArray) (m:Int) (w:World) (hs:s.size<4294967281) (hm:w.cell? ⟨J,0,none⟩=some (.int .i64 m)),
  Calls P j #[.string s,.string sep] w fun e w'=>e=.returned (.tuple #[.string ⟨(Lib.cut s.data.toList sep.data.toList).1.toArray⟩,.string ⟨(Lib.cut s.data.toList sep.data.toList).2.1.toArray⟩,.bool (Lib.cut s.data.toList sep.data.toList).2.2])/\∃n,w'=w.drewN n)
  (U:∃m,W0.cell? ⟨J,0,none⟩=some (.int .i64 m)) :
  Contract P W0 j { ins:=[.v .str .z,.v .str .z],outs:=[(.str,.z),(.str,.z),(.bool,.z)],F:=fun t=>cutS t.1 t.2.1 }:=by
 refine⟨hE,fun w ow vs xs ys hlt hG I hF=>?_⟩
 match vs,I with
 | [],I=>exact I.elim
 | [_],I=>exact I.2.elim
 | _::_::_::_,I=>cases I.2.2
 | [v,u],I=>
  obtain⟨h1,h2,_⟩:=I;obtain⟨x,y,_⟩:=xs;have h1:=JV rfl h1
  have h2:=JV rfl h2
  subst h1 h2;obtain⟨f2,f3⟩:=QsU (show cutS x y=some ys from hF)
  subst f3;obtain⟨m,hm⟩:=U;have hgl:J<W0.heap.size:=by
   rcases aMg J W0.heap.size with h0 | h0
   ·exact h0
   ·simp[World.cell?,Array.getElem?_eq_none h0] at hm
  have hm':w.cell? ⟨J,0,none⟩=some (.int .i64 m):=by
   rw[<-hm];simp only[World.cell?,(hG J hgl).2]
  refine (h ⟨x.toArray⟩ ⟨y.toArray⟩ m w (by show x.toArray.size<_;simp;omega) hm').mono fun e w' h=>?_
  obtain⟨rfl,n,rfl⟩:=h;refine⟨_,ow,rfl,⟨rfl,rfl,rfl,aMb _,fun _=>by simp[World.drewN]⟩,fun i hi _=>⟨rfl,rfl⟩,fun i hi=>hlt i hi,?_,⟨rfl,rfl⟩⟩
  refine⟨rfl,_,rfl,rfl,fun k o z u hk hz hu=>?_⟩
  match k with
  | 0=>cases hk;cases hz;cases hu;exact QfF _
  | 1=>cases hk;cases hz;cases hu;exact QfF _
  | 2=>cases hk;cases hz;cases hu;exact Quy _
  | k+3=>cases hk
def numS (s:List UInt8):Int:=match Lib.parseIntB 64 s with
 | .ok v=>if s.length<=10/\Lib.itoa v=s then v else -1
 | _=>-1
structure Qg8 (P:Program) (W0:World):Prop where
 syn:∃tp p,W0.var? P "strconv.ErrSyntax" = some #[.iface tp p]
 ran:∃tp p,W0.var? P "strconv.ErrRange" = some #[.iface tp p]
def numO (s:List UInt8):Option Int:=bif Nat.ble (List.length s) 1000000 then some (numS s) else none
theorem QqF {j:FuncId} (hE:Enters P j)
  (h:∀(s:ByteArray) (w:World),s.size<=1000000->(∀i,i<W0.heap.size->w.heap[i]? = W0.heap[i]?)->Calls P j #[.string s] w fun e w'=>e=.returned (.int .i64 (numS s.data.toList))/\Go.RowKit.Below w.heap.size w w') :
  Contract P W0 j { ins:=[.v .str .z],outs:=[(.int .i64,.z)],F:=fun t=>numO t.1,dm:=false }:=by
 refine⟨hE,fun w ow vs xs ys hlt hG U J=>?_⟩
 match vs,U with
 | [],U=>exact U.elim
 | _::_::_,U=>cases U.2
 | [v],U=>
  obtain⟨h1,_⟩:=U;obtain⟨x,_⟩:=xs;have h1:=JV rfl h1
  subst h1;have J:numO x=some ys:=J
  unfold numO at J;cases hb:Nat.ble (List.length x) 1000000 with
  | false=>rw[hb] at J;cases J
  | true=>
   rw[hb,aLB] at J;have J:numS x=ys:=aMu J
   subst J;have hl:=Nat.ble_eq.mp hb
   refine (h ⟨x.toArray⟩ w (by show x.toArray.size<=_;simpa using hl) (fun i hi=>(hG i hi).2)).mono fun e w' hh=>?_
   obtain⟨rfl,I⟩:=hh;refine⟨_,ow,rfl,⟨I.os,I.tape,I.output,I.size,fun h=>by cases h⟩,fun i hi _=>⟨I.block i hi,rfl⟩,fun i hi=>Nat.lt_of_lt_of_le (hlt i hi) I.size,?_,⟨rfl,rfl⟩⟩
   exact⟨rfl,rfl,fun _=>rfl⟩
def swpS (s:List UInt8) (a b:Int):Option (List UInt8):=bif Nat.ble (List.length s) 1000000&&decide (0<=b/\b<256) then some (List.map (fun c=>if (c.toNat:Int)=a then UInt8.ofNat b.toNat else c) s) else none
def delS {α:Type} (l:List α) (i j:Int):Option (List α):=bif decide (0<=i/\i<=j/\j<=(List.length l:Int)/\List.length l<=1000000) then some (List.take i.toNat l++List.drop j.toNat l) else none
def insS {α:Type} (l:List α) (i:Int) (v:List α):Option (List α):=bif decide (0<=i/\i<=(List.length l:Int)/\List.length l<=1000000/\List.length v=1) then some (List.take i.toNat l++v++List.drop i.toNat l) else none
theorem Qqg {j:FuncId} (hE:Enters P j)
  (h:∀(s:ByteArray) (a b:Int) (w:World),s.size<=1000000->0<=b->b<256->Calls P j #[.string s,.int .u8 a,.int .u8 b] w fun e w'=>e=.returned (.string ⟨(List.map (fun c=>if (c.toNat:Int)=a then UInt8.ofNat b.toNat else c) s.data.toList).toArray⟩)/\Go.RowKit.Below w.heap.size w w') :
  Contract P W0 j { ins:=[.v .str .z,.v (.int .u8) .z,.v (.int .u8) .z],outs:=[(.str,.z)],F:=fun t=>swpS t.1 t.2.1 t.2.2.1,dm:=false }:=by
 refine⟨hE,fun w ow vs xs ys hlt hG J U=>?_⟩
 match vs,J with
 | [],J=>exact J.elim
 | [_],J=>exact J.2.elim
 | [_,_],J=>exact J.2.2.elim
 | _::_::_::_::_,J=>cases J.2.2.2
 | [v,u1,u2],J=>
  obtain⟨h1,h2,h3,_⟩:=J;obtain⟨x,y,z,_⟩:=xs;have h1:=JV rfl h1
  have h2:=Jm rfl h2
  have h3:=Jm rfl h3
  subst h1 h2 h3;have U:swpS x y z=some ys:=U
  unfold swpS at U;cases hb:Nat.ble (List.length x) 1000000&&decide (0<=z/\z<256) with
  | false=>rw[hb] at U;cases U
  | true=>
   rw[hb,aLB] at U;have U:=aMu U
   subst U;simp only[aLg,aLF] at hb;have hl:=Nat.ble_eq.mp hb.1
   refine (h ⟨x.toArray⟩ y z w (by show x.toArray.size<=_;simpa using hl) hb.2.1 hb.2.2).mono fun e w' hh=>?_
   obtain⟨rfl,I⟩:=hh;refine⟨_,ow,rfl,⟨I.os,I.tape,I.output,I.size,fun h=>by cases h⟩,fun i hi _=>⟨I.block i hi,rfl⟩,fun i hi=>Nat.lt_of_lt_of_le (hlt i hi) I.size,?_,⟨rfl,rfl⟩⟩
   exact⟨rfl,QfF _⟩
end Go.Dx
set_option maxRecDepth 100000
namespace Go.Dx
variable {P:Program} {W0:World}
theorem QpO {w:World} {b o:Nat} {v:Value} {arr:Array Value} {ty:TypeId} (h:w.heap[b]? = some (.cells arr ty (0,0))):(w.setCell ⟨b,o,none⟩ v).heap[b]? = some (.cells (arr.setIfInBounds o v) ty (0,0)):=by
 simp[World.setCell,Array.getElem?_modify,h]
theorem QiF {w:World} {b o i:Nat} {v:Value} (h:i ≠ b):(w.setCell ⟨b,o,none⟩ v).heap[i]? = w.heap[i]?:=by
 simp[World.setCell,Array.getElem?_modify,Ne.symm h]
theorem Yr {b:Nat} {ty:TypeId}:∀(vs:List Value) (o:Nat) (w:World) (arr:Array Value),w.heap[b]? = some (.cells arr ty (0,0))->o+vs.length<=arr.size->
  ∃arr',(w.setCells b o vs).heap[b]? = some (.cells arr' ty (0,0))/\arr'.size=arr.size/\(∀k,k<o\/o+vs.length<=k->arr'[k]? = arr[k]?)/\(∀k,k<vs.length->arr'[o+k]? = vs[k]?)
 | [],o,w,arr,h,I=>⟨arr,h,rfl,fun _ _=>rfl,fun k hk=>by simp at hk⟩
 | v::vs,o,w,arr,h,I=>by
  simp only[aLh] at I;obtain⟨arr',h1,h2,h3,h4⟩:=Yr vs (o+1) (w.setCell ⟨b,o,none⟩ v) (arr.setIfInBounds o v) (QpO h) (by simp;omega)
  refine⟨arr',h1,by rw[h2];simp,fun k hk=>?_,fun k hk=>?_⟩
  ·simp only[aLh] at hk
   rw[h3 k (by omega),Array.getElem?_setIfInBounds_ne (by omega)]
  ·cases k with
   | zero=>
    rw[Nat.add_zero,h3 o (.inl (by omega))]
    simp[Array.getElem?_setIfInBounds,show o<arr.size by omega]
   | succ k=>
    simp only[aLh] at hk;rw[show o+(k+1)=o+1+k by omega,h4 k (by omega)];simp
theorem Je {b i:Nat} (hi:i ≠ b):∀(vs:List Value) (o:Nat) (w:World),(w.setCells b o vs).heap[i]? = w.heap[i]?
 | [],_,_=>rfl
 | v::vs,o,w=>by rw[World.setCells,Je hi vs];exact QiF hi
theorem ZC {b:Nat}:∀(vs:List Value) (o:Nat) (w:World),Streams w (w.setCells b o vs)/\(w.setCells b o vs).heap.size=w.heap.size
 | [],_,w=>⟨Streams.refl w,rfl⟩
 | v::vs,o,w=>by
  obtain⟨h1,h2⟩:=ZC vs (o+1) (w.setCell ⟨b,o,none⟩ v);have I:(w.setCell ⟨b,o,none⟩ v).heap.size=w.heap.size:=by simp[World.setCell]
  exact⟨⟨h1.os,h1.tape,h1.output,by rw[World.setCells,h2,I];exact aMb _,h1.drawn⟩,by rw[World.setCells,h2,I]⟩
structure QvW (w w':World) (blk off:Nat) (k n i j:Nat) (arr:Array Value) (ty:TypeId):Prop where
 st:Streams w w'
 size:w'.heap.size=w.heap.size
 other:∀b,b ≠ blk->w'.heap[b]? = w.heap[b]?
 row:∃arr',w'.heap[blk]? = some (.cells arr' ty (0,0))/\arr'.size=arr.size/\(∀t,t<i * k->arr'[off+t]? = arr[off+t]?)/\(∀t,t<(n - j) * k->arr'[off+i * k+t]? = arr[off+j * k+t]?)
theorem Qti {α:Type} {l r:List α} {i j:Int} (h:delS l i j=some r):∃a b:Nat,i=a/\j=b/\a<=b/\b<=l.length/\l.length<=1000000/\r=l.take a++l.drop b:=by
 unfold delS at h;by_cases I:0<=i/\i<=j/\j<=(List.length l:Int)/\List.length l<=1000000
 ·rw[aLE I,aLB] at h
  obtain⟨h1,h2,h3,h4⟩:=I;exact⟨i.toNat,j.toNat,by omega,by omega,by omega,by omega,h4,(aMu h).symm⟩
 ·rw[aLD I] at h;cases h
theorem QkD {j:FuncId} {S:Sh} (hok:okS S .z=true) (hE:Enters P j)
  (hsame:∀(w:World) (a:Option Addr) (n cap i:Nat),i<=n->n<=cap->(a=none/\cap=0\/∃b o,a=some ⟨b,o,none⟩)->Calls P j #[.slice a n cap,.int .i64 i,.int .i64 i] w fun e w'=>e=.returned (.slice a n cap)/\w'=w)
  (hwalk:∀(w:World) (blk off n cap i q:Nat) (arr:Array Value) (ty:TypeId),w.heap[blk]? = some (.cells arr ty (0,0))->off+cap * S.size<=arr.size->n<=cap->n<=1000000->i<q->q<=n->
   (∀t,t<n * S.size->∃v,arr[off+t]? = some v/\v.oneCell'=true)->
   Calls P j #[.slice (some ⟨blk,off,none⟩) n cap,.int .i64 i,.int .i64 q] w fun e w'=>e=.returned (.slice (some ⟨blk,off,none⟩) (n - (q - i)) cap)/\QvW w w' blk off S.size n i q arr ty) :
  Contract P W0 j { ins:=[.v (.list S) (.o .z),.v (.int .i64) .z,.v (.int .i64) .z],outs:=[(.list S,.o .z)],F:=fun t=>delS t.1 t.2.1 t.2.2.1 }:=by
 refine⟨hE,fun w ow vs xs ys hlt hG U hF=>?_⟩
 match vs,U with
 | [],U=>exact U.elim
 | [_],U=>exact U.2.elim
 | [_,_],U=>exact U.2.2.elim
 | _::_::_::_::_,U=>cases U.2.2.2
 | [v,u1,u2],U=>
  obtain⟨⟨hform,A,n,cap,e1,e2,e3,e4⟩,hu1,hu2,_⟩:=U;obtain⟨x,y1,y2,_⟩:=xs;have hu1:=Jm rfl hu1
  have hu2:=Jm rfl hu2
  subst hu1 hu2;have hv1:v.cells = #[v]:=hform
  simp only[Qg,hv1] at e1;simp only[List.getElem?_toArray,aLt,aLb] at e1;subst e1;obtain⟨zs,hzs⟩:∃zs:List S.den,zs=ys:=⟨ys,rfl⟩;subst hzs;obtain⟨i,q,hi,hq,h1,h2,h3,hr⟩:=Qti (show delS (x:List S.den) y1 y2=some zs from hF)
  have hi:y1=(i:Int):=hi
  have hq:y2=(q:Int):=hq
  subst hi hq;have e2:List.length (α:=S.den) x=n:=e2
  by_cases hiq:i=q
  ·subst hiq
   have hx:zs=(x:List S.den):=by rw[hr];exact List.take_append_drop i _
   subst hx;refine (hsame w A n cap i (by omega) e3 (by
    rcases e4 with ⟨rfl,_,rfl⟩ | ⟨b,o,arr,ty,rfl,_⟩
    ·exact .inl ⟨rfl,rfl⟩
    ·exact .inr ⟨b,o,rfl⟩)).mono fun e w' h=>?_
   obtain⟨rfl,rfl⟩:=h;refine⟨_,ow,rfl,⟨rfl,rfl,rfl,aMb _,fun _=>aMb _⟩,fun i hi _=>⟨rfl,rfl⟩,fun i hi=>hlt i hi,⟨rfl,rfl,A,n,cap,rfl,e2,e3,e4⟩,⟨rfl,rfl⟩⟩
  ·rcases e4 with ⟨_,h0,_⟩ | ⟨blk,off,arr,ty,rfl,hS,hblk,hsz,t1,hr1⟩
   ·omega
   ·subst e2
    have hcell:∀m,m<List.length (α:=S.den) x->∀c,c<S.size->∃v,arr[off+m * S.size+c]? = some v/\v.oneCell'=true:=fun m hm c hc=>by
     obtain⟨v,hv,ho⟩:=cells_one hok (hr1 m hm) c hc;refine⟨v,?_,ho⟩;simp only[Qd,World.cell?,hblk] at hv;simpa using hv
    have hk0:0<S.size:=Sh.size_pos _
    have hw:=hwalk w blk off (List.length (α:=S.den) x) cap i q arr ty hblk hsz e3 h3 (by omega) h2 (fun t ht=>by
     have hm:t / S.size<List.length (α:=S.den) x:=by rw[Nat.div_lt_iff_lt_mul hk0];exact ht
     obtain⟨v,hv,ho⟩:=hcell (t / S.size) hm (t % S.size) (Nat.mod_lt _ hk0);refine⟨v,?_,ho⟩;have e:t / S.size * S.size+t % S.size=t:=by rw[Nat.mul_comm];exact Nat.div_add_mod t S.size
     rw[aMh,e] at hv;exact hv)
    have hblt:blk<w.heap.size:=(Array.getElem?_eq_some_iff.1 hblk).1
    refine hw.mono fun e w' h=>?_
    obtain⟨rfl,hst,hsize,hoth,arr',hrow,hasz,ha1,ha2⟩:=h;have hSb:ow blk=.fl 0:=hS
    refine⟨_,ow,rfl,hst.d,fun b hb ho=>⟨hoth b (fun e=>by rw[e,hSb] at ho;rcases ho with ho | ho<;>cases ho),rfl⟩,fun b hb=>by rw[hsize];exact hlt b hb,?_,⟨rfl,rfl⟩⟩
    have hzl:zs.length=List.length (α:=S.den) x - (q - i):=by rw[hr,aLi,aLn,aLz];omega
    refine⟨rfl,rfl,some ⟨blk,off,none⟩,_,cap,rfl,hzl,by omega,.inr ⟨blk,off,arr',ty,rfl,hS,hrow,by rw[hasz];exact hsz,fun b=>if t1 b<i then t1 b else if t1 b<q then List.length (α:=S.den) x else t1 b - (q - i),fun m hm=>?_⟩⟩
    have hm:m<zs.length:=hm
    have hoth2:∀b,(So ow (.fl 0) b/\b ≠ blk)\/Zo ow b->w'.heap[b]? = w.heap[b]?:=fun b hb=>hoth b (by
     rcases hb with hb | hb
     ·exact hb.2
     ·intro e;rw[e] at hb;rw[show ow blk=.fz from hb] at hSb;cases hSb)
    by_cases hmi:m<i
    ·have I:m<List.length (α:=S.den) x:=by omega
     have hz:zs[m]'hm=(x:List S.den)[m]'I:=by
      have:=List.getElem_of_eq hr hm
      rw[this,List.getElem_append_left (by rw[aLn];omega),aMw]
     have hrep:=hr1 m I
     have J:RepC P S .z (Zo ow) w' (fun b=>So ow (.fl 0) b/\b ≠ blk/\(if t1 b<i then t1 b else if t1 b<q then List.length (α:=S.den) x else t1 b - (q - i))=m) (Qd w' blk (off+m * S.size)) ((x:List S.den)[m]'I):=by
      refine (RepC.frame (fun _ h=>h) (fun b hb=>⟨hb.1,hb.2.1,?_⟩) (fun b hb=>hoth2 b (hb.imp (fun h=>⟨h.1,h.2.1⟩) id)) hrep).congr (fun c hc=>?_)
      ·simp only[Qd,World.cell?,hrow,hblk]
       have hb:m * S.size+c<i * S.size:=by
        have:(m+1) * S.size<=i * S.size:=aLq _ hmi
        rw[Nat.succ_mul] at this;omega
       have:=ha1 (m * S.size+c) hb
       rw[<-aMh] at this;simpa using this
      ·have:=hb.2.2;split<;>omega
     have:=hz ▸ J
     exact this
    ·have I:m+(q - i)<List.length (α:=S.den) x:=by omega
     have hz:zs[m]'hm=(x:List S.den)[m+(q - i)]'I:=by
      have:=List.getElem_of_eq hr hm
      rw[this,List.getElem_append_right (by rw[aLn];omega),List.getElem_drop]
      congr 1;rw[aLn];omega
     have hrep:=hr1 (m+(q - i)) I
     have J:RepC P S .z (Zo ow) w' (fun b=>So ow (.fl 0) b/\b ≠ blk/\(if t1 b<i then t1 b else if t1 b<q then List.length (α:=S.den) x else t1 b - (q - i))=m) (Qd w' blk (off+m * S.size)) ((x:List S.den)[m+(q - i)]'I):=by
      refine (RepC.frame (fun _ h=>h) (fun b hb=>⟨hb.1,hb.2.1,?_⟩) (fun b hb=>hoth2 b (hb.imp (fun h=>⟨h.1,h.2.1⟩) id)) hrep).congr (fun c hc=>?_)
      ·simp only[Qd,World.cell?,hrow,hblk]
       obtain⟨d,rfl⟩:∃d,m=i+d:=⟨m - i,by omega⟩
       have hd:d * S.size+c<(List.length (α:=S.den) x - q) * S.size:=by
        have:(d+1) * S.size<=(List.length (α:=S.den) x - q) * S.size:=aLq _ (by omega)
        rw[Nat.succ_mul] at this;omega
       have:=ha2 (d * S.size+c) hd
       have e1:off+(i+d) * S.size+c=off+i * S.size+(d * S.size+c):=by rw[aMq];omega
       have e2:off+(i+d+(q - i)) * S.size+c=off+q * S.size+(d * S.size+c):=by
        rw[show i+d+(q - i)=q+d by omega,aMq];omega
       rw[e1,e2];simpa using this
      ·have:=hb.2.2;rw[if_neg (by omega),if_neg (by omega)];omega
     have:=hz ▸ J
     exact this
end Go.Dx
set_option maxRecDepth 100000
namespace Go.Dx
variable {P:Program} {W0:World}
theorem QgU (w:World) (dT sT ty elem:TypeId) (k:Nat) (b o I U:Nat) (a:Addr) (J sCap:Nat) (cs:List Value)
  (hu:P.underlying dT=some (.slice elem)) (hs:(P.info? elem).map (·.size)=some k) (hn:cs.length=Nat.min J I * k)
  (hsrc:∀j v,cs[j]? = some v->w.cell? (a.add j)=some v) (hc:∀j,j<cs.length->(w.cell? ⟨b,o+j,none⟩).isSome=true) (hf:∀j,j<cs.length->w.frozen? ⟨b,o+j,none⟩=false) (h1:∀v ∈ cs,v.oneCell'=true) :
  (Builtin.copy_ #[dT,sT] ty #[.slice (some ⟨b,o,none⟩) I U,.slice (some a) J sCap]).run P w=.ok (goInt (Nat.min J I)) (w.setCells b o cs):=by
 have hl:=run_loadCells_list (P:=P) w a cs hsrc
 have hst:=run_storeCells_cells (P:=P) b o cs 0 w (by simpa using hc) (by simpa using hf) h1
 cases hq:P.info? elem with
 | none=>simp[hq] at hs
 | some i=>
  have hi:i.size=k:=by simpa [hq] using hs
  simp[Builtin.copy_,run_underlying hu,Builtin.lenOf,Builtin.firstCells,sizeOf,typeInfo,hq,hi,<-hn,hl,hst]
theorem Qk2 (b:Nat) (vs:List Value) (o:Nat) (w:World) (h:∀j,j<vs.length->(w.cell? ⟨b,o+j,none⟩).isSome=true) (k:Nat) (hk:(w.cell? ⟨b,k,none⟩).isSome=true):((w.setCells b o vs).cell? ⟨b,k,none⟩).isSome=true:=by
 by_cases I:o<=k/\k<o+vs.length
 ·have:=World.cell?_setCells_in b vs o w h (k - o) (by omega)
  rw[show o+(k - o)=k by omega] at this
  rw[this];rfl
 ·rw[World.cell?_setCells_out b vs o w ⟨b,k,none⟩ (fun _ _=>by show k<o\/o+vs.length<=k;omega)]
  exact hk
structure Qm5 (w w':World) (A:Option Addr) (k n i:Nat) (olds vs:List Value) (b' off' cap':Nat):Prop where
 st:Streams w w'
 keep:∀b,b<w.heap.size->(∀b0 o0,A=some ⟨b0,o0,none⟩->b ≠ b0)->w'.heap[b]? = w.heap[b]?
 place:((∃o0,A=some ⟨b',o0,none⟩)/\w'.heap.size=w.heap.size)\/(b'=w.heap.size/\w'.heap.size=w.heap.size+1)
 row:∃arr' ty',w'.heap[b']? = some (.cells arr' ty' (0,0))/\off'+cap' * k<=arr'.size/\∀t,t<(n+1) * k->arr'[off'+t]? = (olds.take (i * k)++vs++olds.drop (i * k))[t]?
 room:n+1<=cap'
theorem Qt6 {α:Type} {l r v:List α} {i:Int} (h:insS l i v=some r):∃a:Nat,i=a/\a<=l.length/\l.length<=1000000/\(∃x,v=[x])/\r=l.take a++v++l.drop a:=by
 unfold insS at h;by_cases I:0<=i/\i<=(List.length l:Int)/\List.length l<=1000000/\List.length v=1
 ·rw[aLE I,aLB] at h
  obtain⟨h1,h2,h3,h4⟩:=I;exact⟨i.toNat,by omega,by omega,h3,List.length_eq_one_iff.1 h4,(aMu h).symm⟩
 ·rw[aLD I] at h;cases h
theorem Qqo {S:Sh} {x:List S.den} {w:World} {blk off:Nat} {arr:Array Value} {ty:TypeId} {Z:Nat->Prop} {T:Nat->Nat->Prop} (J:okS S .z=true) (hblk:w.heap[blk]? = some (.cells arr ty (0,0)))
  (U:∀j (h:j<x.length),RepC P S .z Z w (T j) (Qd w blk (off+j * S.size)) (x[j]'h)):∀t,t<x.length * S.size->∃v,arr[off+t]? = some v/\v.oneCell'=true:=by
 have I:0<S.size:=Sh.size_pos _
 intro t ht;have hm:t / S.size<x.length:=by rw[Nat.div_lt_iff_lt_mul I];exact ht
 obtain⟨v,hv,ho⟩:=cells_one J (U (t / S.size) hm) (t % S.size) (Nat.mod_lt _ I);simp only[Qd,World.cell?,hblk] at hv;refine⟨v,?_,ho⟩;have e:t / S.size * S.size+t % S.size=t:=by rw[Nat.mul_comm];exact Nat.div_add_mod t S.size
 rw[aMh,e] at hv;simpa using hv
theorem QpA {arr:Array Value} {off m:Nat} (h:∀t,t<m->∃v,arr[off+t]? = some v/\v.oneCell'=true):∃vs:List Value,vs.length=m/\(∀t,t<m->arr[off+t]? = vs[t]?)/\∀u ∈ vs,u.oneCell'=true:=by
 have I:∀t,t<m->arr[off+t]? = ((arr.toList.drop off).take m)[t]?:=fun t J=>by
  rw[List.getElem?_take,if_pos J,List.getElem?_drop,Array.getElem?_toList]
 have hlen:((arr.toList.drop off).take m).length=m:=by
  have:m=0\/off+m<=arr.size:=by
   rcases aMA m with h0 | h0
   ·exact .inl h0
   ·obtain⟨v,hv,_⟩:=h (m - 1) (by omega)
    have:=(Array.getElem?_eq_some_iff.1 hv).1
    exact .inr (by omega)
  rw[aLn,aLz,aMo];omega
 refine⟨_,hlen,I,fun u hu=>?_⟩
 obtain⟨t,J,rfl⟩:=aMe.1 hu;have h1:=I t (by omega)
 rw[aLf J] at h1;obtain⟨v,hv,ho⟩:=h t (by omega)
 rw[h1] at hv;cases hv;exact ho
theorem Qqh {j:FuncId} {S:Sh} (hok:okS S .z=true) (hE:Enters P j)
  (hwalk:∀(w:World) (A:Option Addr) (n cap i:Nat) (olds vs:List Value) (vb I vcap:Nat) (J:Array Value) (tyv:TypeId),i<=n->n<=cap->n<=1000000->olds.length=n * S.size->(∀u ∈ olds,u.oneCell'=true)->
   ((A=none/\n=0/\cap=0)\/∃b off arr ty,A=some ⟨b,off,none⟩/\w.heap[b]? = some (.cells arr ty (0,0))/\off+cap * S.size<=arr.size/\b ≠ vb/\∀t,t<n * S.size->arr[off+t]? = olds[t]?)->
   w.heap[vb]? = some (.cells J tyv (0,0))->I+S.size<=J.size->vs.length=S.size->(∀t,t<S.size->J[I+t]? = vs[t]?)->(∀u ∈ vs,u.oneCell'=true)->
   Calls P j #[.slice A n cap,.int .i64 i,.slice (some ⟨vb,I,none⟩) 1 vcap] w fun e w'=>∃b' off' cap',e=.returned (.slice (some ⟨b',off',none⟩) (n+1) cap')/\Qm5 w w' A S.size n i olds vs b' off' cap') :
  Contract P W0 j { ins:=[.v (.list S) (.o .z),.v (.int .i64) .z,.v (.list S) (.o .z)],outs:=[(.list S,.o .z)],F:=fun t=>insS t.1 t.2.1 t.2.2.1 }:=by
 refine⟨hE,fun w ow vs xs ys hlt hG hp hF=>?_⟩
 match vs,hp with
 | [],hp=>exact hp.elim
 | [_],hp=>exact hp.2.elim
 | [_,_],hp=>exact hp.2.2.elim
 | _::_::_::_::_,hp=>cases hp.2.2.2
 | [v,u1,u2],hp=>
  obtain⟨⟨hform,A,n,cap,e1,e2,e3,e4⟩,hu1,⟨vform,A2,n2,cap2,f1,f2,f3,f4⟩,_⟩:=hp;obtain⟨x,y1,y2,_⟩:=xs;have hu1:=Jm rfl hu1
  subst hu1;have hv1:v.cells = #[v]:=hform
  simp only[Qg,hv1] at e1;simp only[List.getElem?_toArray,aLt,aLb] at e1;subst e1;have hv2:u2.cells = #[u2]:=vform
  simp only[Qg,hv2] at f1;simp only[List.getElem?_toArray,aLt,aLb] at f1;subst f1;obtain⟨zs,hzs⟩:∃zs:List S.den,zs=ys:=⟨ys,rfl⟩;subst hzs;obtain⟨i,hi,h1,h3,⟨x1,hx1⟩,hr⟩:=Qt6 (show insS (x:List S.den) y1 y2=some zs from hF)
  have hi:y1=(i:Int):=hi
  have hx1:y2=[x1]:=hx1
  subst hi hx1;have e2:List.length (α:=S.den) x=n:=e2
  have f2:1=n2:=f2
  subst e2 f2;have hk0:0<S.size:=Sh.size_pos _
  rcases f4 with ⟨_,h0,_⟩ | ⟨vb,I,J,tyv,rfl,hSv,hblv,hszv,t2,hrv⟩
  ·cases h0
  ·have hSv:ow vb=.fl 2:=hSv
   have U:=Qqo (x:=[x1]) hok hblv (fun j h=>hrv j h)
   have U:∀t,t<S.size->∃v,J[I+t]? = some v/\v.oneCell'=true:=fun t ht=>U t (by simpa using ht)
   obtain⟨vs,hvl,hvg,hv1c⟩:=QpA U;have hszv:I+S.size<=J.size:=by
    have:S.size<=cap2 * S.size:=by
     have:=aLq S.size f3
     rwa [aMF] at this
    omega
   have hold:∃olds:List Value,olds.length=List.length (α:=S.den) x * S.size/\(∀u ∈ olds,u.oneCell'=true)/\
     ((A=none/\List.length (α:=S.den) x=0/\cap=0)\/∃b off arr ty,A=some ⟨b,off,none⟩/\w.heap[b]? = some (.cells arr ty (0,0))/\off+cap * S.size<=arr.size/\b ≠ vb/\∀t,t<List.length (α:=S.den) x * S.size->arr[off+t]? = olds[t]?)/\
     (∀b0 o0,A=some ⟨b0,o0,none⟩->ow b0=.fl 0)/\
     (∀m (hm:m<List.length (α:=S.den) x),∃T,RepC P S .z (Zo ow) w T (fun c=>if c<S.size then olds[m * S.size+c]? else none) ((x:List S.den)[m]'hm)):=by
    rcases e4 with ⟨rfl,h0,rfl⟩ | ⟨blk,off,arr,ty,rfl,hS,hblk,hsz,t1,hr1⟩
    ·exact⟨[],by rw[h0,Nat.zero_mul];rfl,(fun u hu=>nomatch hu),.inl ⟨rfl,h0,rfl⟩,(fun b0 o0 h=>by cases h),(fun m hm=>by omega)⟩
    ·have hone:=Qqo (x:=x) hok hblk (fun j h=>hr1 j h)
     obtain⟨olds,ol,og,o1⟩:=QpA hone;have hS:ow blk=.fl 0:=hS
     refine⟨olds,ol,o1,.inr ⟨blk,off,arr,ty,rfl,hblk,hsz,(fun e=>by rw[e,hSv] at hS;cases hS),og⟩,(fun b0 o0 h=>by cases h;exact hS),fun m hm=>⟨_,(hr1 m hm).congr fun c hc=>?_⟩⟩
     have hlt:m * S.size+c<List.length (α:=S.den) x * S.size:=by
      have:(m+1) * S.size<=List.length (α:=S.den) x * S.size:=aLq _ hm
      rw[Nat.succ_mul] at this;omega
     rw[if_pos hc,<-og _ hlt];simp[Qd,World.cell?,hblk,aMh]
   obtain⟨olds,ol,o1,o2,o3,o4⟩:=hold;have hw:=hwalk w A (List.length (α:=S.den) x) cap i olds vs vb I cap2 J tyv h1 e3 h3 ol o1 o2 hblv hszv hvl hvg hv1c
   refine hw.mono fun e w' h=>?_
   obtain⟨b',off',cap',rfl,hP⟩:=h;obtain⟨arr',ty',hrow,hasz,hcells⟩:=hP.row;have hsize:w.heap.size<=w'.heap.size:=by rcases hP.place with ⟨_,h⟩ | ⟨_,h⟩<;>omega
   have hkeep:∀b,ow b=.fz->w'.heap[b]? = w.heap[b]?:=fun b hb=>hP.keep b (hlt b (by rw[hb];exact fun h=>by cases h)) (fun b0 o0 hA e=>by have:=o3 b0 o0 hA;rw[<-e,hb] at this;cases this)
   have hzl:zs.length=List.length (α:=S.den) x+1:=by rw[hr,aLi,aLi,aLn,aLz,aMj];omega
   refine⟨_,fun b=>if b=b' then .fl 0 else ow b,rfl,hP.st.d,fun b hb ho=>?_,fun b hb=>?_,?_,⟨rfl,rfl⟩⟩
   ·have hbb:b ≠ b':=fun e=>by
     rcases hP.place with ⟨⟨o0,hA⟩,_⟩ | ⟨h,_⟩
     ·have:=o3 _ _ hA;rw[<-e] at this;rw[this] at ho;rcases ho with ho | ho<;>cases ho
     ·omega
    refine⟨hP.keep b hb (fun b0 o0 hA e=>?_),if_neg hbb⟩
    have:=o3 b0 o0 hA;rw[<-e] at this;rw[this] at ho;rcases ho with ho | ho<;>cases ho
   ·by_cases hbb:b=b'
    ·subst hbb
     exact (Array.getElem?_eq_some_iff.1 hrow).1
    ·have:ow b ≠ .none:=by simpa [hbb] using hb
     exact Nat.lt_of_lt_of_le (hlt b this) hsize
   ·refine⟨rfl,rfl,some ⟨b',off',none⟩,_,cap',rfl,hzl,hP.room,.inr ⟨b',off',arr',ty',rfl,by simp[So],hrow,hasz,fun _=>0,fun m hm=>?_⟩⟩
    have hm:m<zs.length:=hm
    have hZ:∀b,Zo ow b->Zo (fun b=>if b=b' then .fl 0 else ow b) b:=fun b hb=>by
     have hb:ow b=.fz:=hb
     show (if b=b' then Tag.fl 0 else ow b)=.fz
     rw[if_neg (fun e=>?_)];exact hb
     rcases hP.place with ⟨⟨o0,hA⟩,_⟩ | ⟨h,_⟩
     ·have:=o3 _ _ hA;rw[<-e,hb] at this;cases this
     ·have:=hlt b (by rw[hb];exact fun h=>by cases h);omega
    have hup:∀(T:Nat->Prop) (c:Nat->Option Value) (z:S.den),RepC P S .z (Zo ow) w T c z->(∀k,k<S.size->arr'[off'+m * S.size+k]? = c k)->
      RepC P S .z (Zo (fun b=>if b=b' then .fl 0 else ow b)) w' (fun b=>So (fun b=>if b=b' then .fl 0 else ow b) (.fl 0) b/\b ≠ b'/\0=m) (Qd w' b' (off'+m * S.size)) z:=fun T c z hz hc=>by
     refine (RepC.frame hZ (fun b hb=>hb.elim) (fun b hb=>?_) hz.shared).congr (fun k hk=>?_)
     ·rcases hb with hb | hb
      ·exact hb.elim
      ·exact hkeep b hb
     ·simp only[Qd,World.cell?,hrow]
      rw[<-hc k hk];simp
    have key:∃T c,RepC P S .z (Zo ow) w T c (zs[m]'hm)/\(∀k,k<S.size->arr'[off'+m * S.size+k]? = c k):=by
     have hcell:∀k,k<S.size->arr'[off'+m * S.size+k]? = (olds.take (i * S.size)++vs++olds.drop (i * S.size))[m * S.size+k]?:=fun k hk=>by
      have:m * S.size+k<(List.length (α:=S.den) x+1) * S.size:=by
       have:(m+1) * S.size<=(List.length (α:=S.den) x+1) * S.size:=aLq _ (by omega)
       rw[Nat.succ_mul] at this;omega
      rw[aMh];exact hcells _ this
     have hti:(olds.take (i * S.size)).length=i * S.size:=by
      have:i * S.size<=List.length (α:=S.den) x * S.size:=aLq _ h1
      rw[aLn,ol];omega
     by_cases hmi:m<i
     ·have hmx:m<List.length (α:=S.den) x:=by omega
      have hz:zs[m]'hm=(x:List S.den)[m]'hmx:=by
       have:=List.getElem_of_eq hr hm
       rw[this,List.getElem_append_left (by simp;omega),List.getElem_append_left (by rw[aLn];omega),aMw]
      obtain⟨T,hT⟩:=o4 m hmx;refine⟨T,_,hz ▸ hT,fun k hk=>?_⟩
      have:m * S.size+k<i * S.size:=by
       have:(m+1) * S.size<=i * S.size:=aLq _ hmi
       rw[Nat.succ_mul] at this;omega
      rw[hcell k hk,if_pos hk,aMm,aLu (by omega),List.getElem?_take,if_pos this]
     ·by_cases hme:m=i
      ·subst hme
       have hz:zs[m]'hm=x1:=by
        have:=List.getElem_of_eq hr hm
        rw[this,List.getElem_append_left (by simp;omega),List.getElem_append_right (by rw[aLn];omega)]
        simp
       refine⟨_,_,hz ▸ (hrv 0 (by show 0<1;omega)),fun k hk=>?_⟩
       rw[hcell k hk,aMm,aLv (by omega),hti,aLu (by omega),show m * S.size+k - m * S.size=k by omega,<-hvg k hk]
       simp[Qd,World.cell?,hblv]
      ·obtain⟨d,rfl⟩:∃d,m=d+1:=⟨m - 1,by omega⟩
       have hmx:d<List.length (α:=S.den) x:=by omega
       have hz:zs[d+1]'hm=(x:List S.den)[d]'hmx:=by
        have:=List.getElem_of_eq hr hm
        rw[this,List.getElem_append_right (by simp;omega),List.getElem_drop]
        congr 1;simp;omega
       obtain⟨T,hT⟩:=o4 d hmx;refine⟨T,_,hz ▸ hT,fun k hk=>?_⟩
       have hd:i * S.size<=d * S.size:=aLq _ (by omega)
       have e:(d+1) * S.size=d * S.size+S.size:=Nat.succ_mul _ _
       rw[hcell k hk,if_pos hk,aLv (by rw[aLi,hti,hvl];omega),aLi,hti,hvl,List.getElem?_drop]
       congr 1;omega
    obtain⟨T,c,hT,hc⟩:=key;exact hup T c _ hT hc
theorem QkU {arr':Array Value} {olds vs:List Value} {off' n i k:Nat} (hi:i<=n) (U:olds.length=n * k) (J:vs.length=k)
  (h1:∀t,t<i * k->arr'[off'+t]? = olds[t]?) (h2:∀t,t<k->arr'[off'+i * k+t]? = vs[t]?) (h3:∀t,t<(n - i) * k->arr'[off'+(i+1) * k+t]? = olds[i * k+t]?) :
  ∀t,t<(n+1) * k->arr'[off'+t]? = (olds.take (i * k)++vs++olds.drop (i * k))[t]?:=by
 intro t ht;have hik:i * k<=n * k:=aLq _ hi
 have I:(olds.take (i * k)).length=i * k:=by rw[aLn,U];omega
 have e1:(n+1) * k=n * k+k:=Nat.succ_mul _ _
 have e2:(i+1) * k=i * k+k:=Nat.succ_mul _ _
 have e3:(n - i) * k=n * k - i * k:=Nat.sub_mul _ _ _
 rcases aMg t (i * k) with h | h
 ·rw[h1 t h,aMm,aLu (by omega),List.getElem?_take,if_pos h]
 ·obtain⟨d,rfl⟩:∃d,t=i * k+d:=⟨t - i * k,by omega⟩
  rcases aMg d k with h' | h'
  ·rw[aMm,aLv (by omega),I,aLu (by omega),show i * k+d - i * k=d by omega,<-h2 d h',aMh]
  ·obtain⟨e,rfl⟩:∃e,d=k+e:=⟨d - k,by omega⟩
   have:=h3 e (by omega)
   rw[aLv (by rw[aLi,I,J];omega),aLi,I,J,List.getElem?_drop,show i * k+(k+e) - (i * k+k)=e by omega,<-this]
   congr 1;omega
end Go.Dx
namespace Go.Dx
open Go.Lib
theorem QhD {P:Program} {W:World} {name:String} {nm:String} {d:DataW Unit} {g:Nat} {ti:TypeId} {ms:Array (String×TypeId)}
  (hg:P.globalNamed name=some g) (I:(P.globals[g]?).map (·.type)=some ti) (hi:P.underlying ti=some (.interface ms)) :
  ∀(l:List (String×DataW Unit)) (ps:List MemPlace),DataW.LaidVars P W l ps->(name,.iface nm d) ∈ l->∃tp p,W.var? P name=some #[.iface tp p]
 | [],_,_,h=>by cases h
 | (m,x)::l,ps,hv,h=>by
  obtain⟨g',t',cs,fuel,p,q,U,ht',J,hd,hr,_⟩:=hv;rcases List.mem_cons.1 h with h | h
  ·simp only[aLe] at h
   obtain⟨rfl,rfl⟩:=h;obtain rfl:=aMu (hg.symm.trans U);obtain rfl:=aMu (I.symm.trans ht');obtain⟨cl⟩:=cs;obtain⟨f1,u,v,e,_,_⟩:=iface_of_trod hi hd;have e:cl=[.iface u v]:=e
   subst e;exact⟨u,v,J⟩
  ·exact QhD hg I hi l q hr h
theorem QqU {P:Program} {W:World} {l:List (String×DataW Unit)} {g1 g2:Nat} {ti:TypeId} {ms:Array (String×TypeId)} {n1 n2:String} {d1 d2 x1 x2:DataW Unit}
  (I:P.globalNamed "strconv.ErrSyntax" = some g1) (J:(P.globals[g1]?).map (·.type)=some ti) (U:P.globalNamed "strconv.ErrRange" = some g2) (ht2:(P.globals[g2]?).map (·.type)=some ti) (hi:P.underlying ti=some (.interface ms))
  (h:laidMet P l W) (e1:x1=.iface n1 d1) (e2:x2=.iface n2 d2) (h1:("strconv.ErrSyntax",x1) ∈ l) (h2:("strconv.ErrRange",x2) ∈ l):Qg8 P W:=by
 subst e1 e2;obtain⟨ps,hv,_⟩:=h;exact⟨QhD I J hi l ps hv h1,QhD U ht2 hi l ps hv h2⟩
end Go.Dx
