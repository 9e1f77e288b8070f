/- A LIBRARY: an executor over the code of a program, proved sound: what its letters say of a function is so (contract_of); how a row is closed by it (law_calls) -/
import Derived.Test.YtoopijohnkgagaaDoorDxc
import Derived.Lib.ItoaNum
import Derived.Lib.LaidTab
import Derived.Lib.Join
import Derived.Lib.Split
import Derived.Below
import Derived.Sort.Grow
import Derived.Deep.Draws
import Derived.Shelf.Strings.Split
import Derived.Lay
import Derived.LaidMore
import Derived.Handed
import Derived.SevenTiedAt
import Derived.Stop.Joined
set_option linter.unusedVariables false
set_option linter.unusedSimpArgs false
set_option maxRecDepth 100000
namespace Go.Dx
open Go.Sort
variable {P:Program} {W0:World}
theorem streams_grow (w:World) (k:Nat) (os:Array Obj):Streams w (grow (w.drewN k) os):=⟨rfl,rfl,rfl,by simp[grow,World.drewN],by simp[grow,World.drewN]⟩
theorem grow_old (w:World) (k:Nat) (os:Array Obj) {i:Nat} (h:i<w.heap.size):(grow (w.drewN k) os).heap[i]? = w.heap[i]?:=by
 simp[grow,World.drewN,Array.getElem?_append_left h]
theorem var_old {w w':World} {ow:Nat→Tag} (hG:GOk w ow w') {n:String} {r:Array Value} (h:w.var? P n=some r):w'.var? P n=some r:=by
 unfold World.var? at h ⊢
 rw[Option.bind_eq_some_iff] at h ⊢
 obtain⟨g,hg,h⟩:=h
 refine⟨g,hg,?_⟩
 have hlt:g<w.heap.size:=by
  rcases Nat.lt_or_ge g w.heap.size with h0 | h0
  ·exact h0
  ·rw[Array.getElem?_eq_none h0] at h;cases h
 rw[(hG g hlt).2];exact h
theorem post_str {ins:List PS} {F:TupI (ins.map PS.sh)→Option (TupO ([(Sh.str,Fl.z)].map (·.1)++ioShs ins))} {dm:Bool} {ow:Nat→Tag} {w w':World} {vs:List Value} {l:List UInt8} (hst:StrD dm w w') (hh:∀i,i<w.heap.size→w'.heap[i]? = w.heap[i]?) (hlt:∀i,ow i ≠ .none→i<w.heap.size)
  (ys:TupO ([(Sh.str,Fl.z)].map (·.1)++ioShs ins)) (hy:scat _ ys=[⟨.str,l⟩]) (hio:IosOk P ow w w' 0 ins vs []) :
  ∃vr ow',Ending.returned (.string ⟨l.toArray⟩)=.returned vr∧CallPost P { ins:=ins,outs:=[(.str,.z)],F:=F,dm:=dm } ow w vs ys ow' w' vr:=by
 refine⟨_,ow,rfl,hst,fun j hj _=>⟨hh j hj,rfl⟩,fun j hj=>Nat.lt_of_lt_of_le (hlt j hj) hst.size,?_,?_⟩
 ·show ResOk P ow w' [(.str,.z)] _ ((scat _ ys).take 1)
  rw[hy]
  exact⟨rfl,mk_str l⟩
 ·show IosOk P ow w w' 0 ins vs ((scat _ ys).drop 1)
  rw[hy]
  exact hio
structure Door (P:Program) (W0:World) (gm:Nat):Prop where
 tab:Lib.TabIs P W0 "internal/strconv.uint64pow10" .u64 Lib.pow10Tab
 max:∃m,W0.cell? ⟨gm,0,none⟩=some (.int .i64 m)
def fmtS (n b:Int):Option (List UInt8):=bif (bif decide (b=10) then (bif decide (-9223372036854775808≤n) then decide (n≤9223372036854775807) else false) else false) then some (Lib.itoa n) else none
theorem fmtS_eq (n:Int) (h0:-9223372036854775808≤n) (h1:n≤9223372036854775807):fmtS n 10=some (Lib.itoa n):=by simp[fmtS,h0,h1]
theorem fmtS_some {n b:Int} {l:List UInt8} (h:fmtS n b=some l):b=10∧-9223372036854775808≤n∧n≤9223372036854775807∧l=Lib.itoa n:=by
 unfold fmtS at h
 cases hb:decide (b=10) with
 | false=>rw[hb] at h;cases h
 | true=>
  rw[hb] at h
  by_cases h0:-9223372036854775808≤n
  ·by_cases h1:n≤9223372036854775807
   ·simp[h0,h1] at h
    exact⟨of_decide_eq_true hb,h0,h1,h.symm⟩
   ·simp[h1] at h
  ·simp[h0] at h
theorem fmt_contract {j:FuncId} (hE:Enters P j)
  (h:∀(n:Int) (h0:-9223372036854775808≤n) (h1:n≤9223372036854775807) (w:World) (htab:Lib.TabIs P w "internal/strconv.uint64pow10" .u64 Lib.pow10Tab),
   Calls P j #[.int .i64 n,.int .i64 10] w fun e w'=>e=.returned (.string ⟨(Lib.itoa n).toArray⟩)∧∃k os,w'=grow (w.drewN k) os)
  (htab:Lib.TabIs P W0 "internal/strconv.uint64pow10" .u64 Lib.pow10Tab):Contract P W0 j { ins:=[.v (.int .i64) .z,.v (.int .i64) .z],outs:=[(.str,.z)],F:=fun t=>fmtS t.1 t.2.1 }:=by
 refine⟨hE,fun w ow vs xs ys hlt hG hp hF=>?_⟩
 match vs,hp with
 | [],hp=>exact hp.elim
 | [_],hp=>exact hp.2.elim
 | _::_::_::_,hp=>cases hp.2.2
 | [v,u],hp=>
  obtain⟨h1,h2,_⟩:=hp
  obtain⟨x,y,_⟩:=xs
  have h1:=rep_int rfl h1
  have h2:=rep_int rfl h2
  subst h1 h2
  obtain⟨e1,e2,e3,e4⟩:=fmtS_some (show fmtS x y=some ys from hF)
  subst e1 e4
  refine (h x e2 e3 w (var_old hG htab)).mono fun e w' h=>?_
  obtain⟨rfl,k,os,rfl⟩:=h
  exact post_str (streams_grow w k os).d (fun i hi=>grow_old w k os hi) hlt _ rfl ⟨rfl,rfl⟩
def joinS (x:List (List UInt8)) (sep:List UInt8):Option (List UInt8):=bif (bif Nat.ble (List.length x) 140737488355328 then Nat.ble (List.length (Lib.join x sep)) 140737488355328 else false) then some (Lib.join x sep) else none
theorem joinS_eq (x:List (List UInt8)) (sep:List UInt8) (h0:x.length≤140737488355328) (h1:(Lib.join x sep).length≤140737488355328):joinS x sep=some (Lib.join x sep):=by
 unfold joinS
 rw[Nat.ble_eq.mpr h0,Nat.ble_eq.mpr h1];rfl
theorem joinS_some {x:List (List UInt8)} {sep l:List UInt8} (h:joinS x sep=some l):x.length≤140737488355328∧(Lib.join x sep).length≤140737488355328∧l=Lib.join x sep:=by
 unfold joinS at h
 cases h0:Nat.ble (List.length x) 140737488355328 with
 | false=>rw[h0] at h;cases h
 | true=>
  rw[h0,cond_true] at h
  cases h1:Nat.ble (List.length (Lib.join x sep)) 140737488355328 with
  | false=>rw[h1] at h;cases h
  | true=>rw[h1] at h;simp at h;exact⟨Nat.ble_eq.mp h0,Nat.ble_eq.mp h1,h.symm⟩
theorem strs_cells {Z:Nat→Prop} {w:World} {b off:Nat} {x:List (List UInt8)} (h:∀j (h:j<x.length),RepC P .str .z Z w none1 (cellsAt w b (off+j * Sh.str.size)) (x[j]'h)) :
  ∀(j:Nat) y,(x.map fun l=>(⟨l.toArray⟩:ByteArray))[j]? = some y→w.cell? ⟨b,off+j,none⟩=some (.string y):=by
 intro j y hy
 rw[List.getElem?_map] at hy
 obtain⟨l,hl,rfl⟩:=Option.map_eq_some_iff.1 hy
 obtain⟨hj,rfl⟩:=List.getElem?_eq_some_iff.1 hl
 have:=h j hj (by simp)
 simpa [cellsAt,Sh.size] using this
theorem join_contract {j:FuncId} (hE:Enters P j)
  (hnone:∀(a:Option Addr) (c:Nat) (sep:ByteArray) (w:World),Calls P j #[.slice a 0 c,.string sep] w fun e w'=>e=.returned (.string ⟨#[]⟩)∧w'=w)
  (h:∀(bk o c:Nat) (xs:List ByteArray) (sep:ByteArray) (w:World) (hcells:∀(j:Nat) x,xs[j]? = some x→w.cell? ⟨bk,o+j,none⟩=some (.string x))
   (hbk:bk<w.heap.size) (hN:xs.length≤140737488355328) (hcap:xs.length≤c) (hlen:(Lib.join (xs.map (·.data.toList)) sep.data.toList).length≤140737488355328),
   Calls P j #[.slice (some ⟨bk,o,none⟩) xs.length c,.string sep] w fun e w'=>e=.returned (.string ⟨(Lib.join (xs.map (·.data.toList)) sep.data.toList).toArray⟩)∧Go.RowKit.Below w.heap.size w w') :
  Contract P W0 j { ins:=[.v (.list .str) .z,.v .str .z],outs:=[(.str,.z)],F:=fun t=>joinS t.1 t.2.1,dm:=false }:=by
 refine⟨hE,fun w ow vs xs ys hlt hG hp hF=>?_⟩
 match vs,hp with
 | [],hp=>exact hp.elim
 | [_],hp=>exact hp.2.elim
 | _::_::_::_,hp=>cases hp.2.2
 | [v,u],hp=>
  obtain⟨⟨hform,A,n,cap,e1,e2,e3,e4⟩,h2,_⟩:=hp
  obtain⟨x,y,_⟩:=xs
  have h2:=rep_str rfl h2
  subst h2
  have hv1:v.cells = #[v]:=hform
  simp only[cellsV,hv1] at e1
  simp only[List.getElem?_toArray,List.getElem?_cons_zero,Option.some.injEq] at e1
  subst e1
  obtain⟨f1,f2,f3⟩:=joinS_some (show joinS x y=some ys from hF)
  subst f3
  have e2:List.length x=n:=e2
  rcases Nat.eq_zero_or_pos n with hn | hn
  ·obtain rfl:=hn
   have hx:x=[]:=List.eq_nil_of_length_eq_zero e2
   subst hx
   refine (hnone A cap _ w).mono fun e w' h=>?_
   obtain⟨rfl,rfl⟩:=h
   exact post_str (Streams.refl _).d (fun i hi=>rfl) hlt _ rfl ⟨rfl,rfl⟩
  ·obtain⟨b,off,rfl,hz,hr⟩:=e4 hn
   have hb:b<w.heap.size:=hlt b (by rw[show ow b=.fz from hz];simp)
   have hmm:(x.map fun l=>(⟨l.toArray⟩:ByteArray)).map (·.data.toList)=x:=by simp[List.map_map,Function.comp_def]
   have hc:=h b off cap (x.map fun l=>⟨l.toArray⟩) ⟨y.toArray⟩ w (strs_cells hr) hb (by simpa using f1) (by simpa [e2] using e3) (by rw[hmm];exact f2)
   rw[hmm,List.length_map,e2] at hc
   refine hc.mono fun e w' h=>?_
   obtain⟨rfl,hbel⟩:=h
   exact post_str ⟨hbel.os,hbel.tape,hbel.output,hbel.size,fun h=>by cases h⟩ (fun i hi=>hbel.block i hi) hlt _ rfl ⟨rfl,rfl⟩
end Go.Dx
set_option maxRecDepth 100000
namespace Go.Dx
open Go.Sort
def digS (k:Nat) (n:Int):Option (List UInt8):=bif (bif decide (0≤n∧1≤k) then (bif decide (n≤9223372036854775807) then decide (n<10 ^ k) else false) else false) then some (Lib.itoa n) else none
theorem digS_some {k:Nat} {n:Int} {l:List UInt8} (h:digS k n=some l):0≤n∧n≤9223372036854775807∧n<10 ^ k∧l=Lib.itoa n∧1≤k:=by
 unfold digS at h
 by_cases h0:0≤n∧1≤k
 ·by_cases h1:n≤9223372036854775807
  ·by_cases h2:n<10 ^ k
   ·simp[h0,h1,h2] at h;exact⟨h0.1,h1,h2,h.symm,h0.2⟩
   ·simp[h2] at h
  ·simp[h1] at h
 ·simp[h0] at h
theorem digS_of {k:Nat} {n:Int} (h0:0≤n) (h1:n≤9223372036854775807) (h2:n<10 ^ k) (hk:1≤k):digS k n=some (Lib.itoa n):=by simp[digS,h0,h1,h2,hk]
theorem digS_eq {n:Int} (h0:0≤n) (h1:n≤9223372036854775807):digS 19 n=some (Lib.itoa n):=digS_of h0 h1 (by omega) (by decide)
theorem digS_zero (n:Int):digS 0 n=none:=by
 cases h:digS 0 n with
 | none=>rfl
 | some l=>
  obtain⟨_,_,_,_,h0⟩:=digS_some h
  omega
def digT (k:Nat) (x0:Int):Option (List UInt8):=
 bif (decide ((x0:Int)<10)) then
 some (List.map (fun (b:Int)=>UInt8.ofNat b.toNat) ([IntKind.wrap .u8 (IntKind.wrap .i64 (48+x0))]:List Int))
 else
 (digS k (IntKind.wrap .i64 (Int.tdiv x0 10))).bind fun (y2:List UInt8)=>
 bif decide (List.length y2+List.length (List.map (fun (b:Int)=>UInt8.ofNat b.toNat) ([IntKind.wrap .u8 (IntKind.wrap .i64 (48+(Int.tmod x0 10)))]:List Int))≤LIM) then
 some (List.append y2 (List.map (fun (b:Int)=>UInt8.ofNat b.toNat) ([IntKind.wrap .u8 (IntKind.wrap .i64 (48+(Int.tmod x0 10)))]:List Int)))
 else none
theorem digit1:∀d:Fin 10,UInt8.ofNat (IntKind.wrap .u8 (IntKind.wrap .i64 (48+(d.val:Int)))).toNat=UInt8.ofNat (48+d.val):=by decide
theorem itoa_nat (n:Nat):Lib.itoa (n:Int)=Lib.decDigits n:=by
 unfold Lib.itoa
 rw[if_neg (by omega)];rfl
theorem nDigits_le:∀(k n:Nat),n<10 ^ k→1≤k→Lib.nDigits n≤k
 | 0,n,h,h1=>by omega
 | k+1,n,h,_=>by
  rw[Lib.nDigits]
  split
  ·omega
  ·rename_i h10
   have hk:1≤k:=by
    rcases Nat.eq_zero_or_pos k with h0 | h0
    ·subst h0;simp at h;omega
    ·exact h0
   have:=nDigits_le k (n / 10) (by rw[Nat.pow_succ] at h;omega) hk
   omega
theorem itoa_len {n:Int} (h0:0≤n) (h1:n≤9223372036854775807):(Lib.itoa n).length≤19:=by
 obtain⟨m,rfl⟩:=Int.eq_ofNat_of_zero_le h0
 rw[itoa_nat,Lib.decDigits_length]
 exact nDigits_le 19 m (by omega) (by decide)
theorem wrap64 {n:Int} (h0:-9223372036854775808≤n) (h1:n≤9223372036854775807):IntKind.wrap .i64 n=n:=by
 exact wrap_id h0 (by omega)
theorem digS_step {k:Nat} {n:Int} {l:List UInt8} (h:digS (k+1) n=some l):digT k n=some l:=by
 obtain⟨h0,h1,h2,rfl,_⟩:=digS_some h
 obtain⟨m,rfl⟩:=Int.eq_ofNat_of_zero_le h0
 unfold digT
 by_cases hm:m<10
 ·have e1:decide (((m:Nat):Int)<10)=true:=decide_eq_true (by omega)
  rw[e1,cond_true,itoa_nat,Lib.decDigits_one hm,←digit1 ⟨m,hm⟩]
  rfl
 ·have hk:1≤k:=by
   rcases Nat.eq_zero_or_pos k with h0 | h0
   ·subst h0;simp at h2;omega
   ·exact h0
  have e1:decide (((m:Nat):Int)<10)=false:=decide_eq_false (by omega)
  have e2:Int.tdiv ((m:Nat):Int) 10=((m / 10:Nat):Int):=rfl
  have e3:Int.tmod ((m:Nat):Int) 10=((m % 10:Nat):Int):=rfl
  rw[e1,cond_false,e2,e3,wrap64 (by omega) (by omega),digS_of (by omega) (by omega) (by rw[Int.pow_succ] at h2;omega) hk,Option.bind_some]
  have e4:(Lib.itoa ((m / 10:Nat):Int)).length≤19:=itoa_len (by omega) (by omega)
  have e5:Lib.itoa ((m:Nat):Int)=List.append (Lib.itoa ((m / 10:Nat):Int)) (List.map (fun (b:Int)=>UInt8.ofNat b.toNat) ([IntKind.wrap .u8 (IntKind.wrap .i64 (48+((m % 10:Nat):Int)))]:List Int)):=by
   rw[itoa_nat,itoa_nat,Lib.decDigits,dif_neg hm]
   show _=_++[UInt8.ofNat (IntKind.wrap .u8 (IntKind.wrap .i64 (48+((m % 10:Nat):Int)))).toNat]
   rw[digit1 ⟨m % 10,by omega⟩]
  rw[←e5,List.length_map]
  have e6:decide (List.length (Lib.itoa ((m / 10:Nat):Int))+List.length ([IntKind.wrap .u8 (IntKind.wrap .i64 (48+((m % 10:Nat):Int)))]:List Int)≤LIM)=true:=decide_eq_true (by
   simp only[List.length_cons,List.length_nil,LIM];omega)
  rw[e6];rfl
end Go.Dx
set_option maxRecDepth 100000
namespace Go.Dx
open Go.Sort
variable {P:Program} {W0:World}
def splitS (s sep:List UInt8):Option (List (List UInt8)):=bif (bif Nat.ble 1 (List.length sep) then Nat.ble (List.length s) 4294967280 else false) then some (Lib.split s sep) else none
theorem splitS_some {s sep:List UInt8} {l:List (List UInt8)} (h:splitS s sep=some l):1≤sep.length∧s.length≤4294967280∧l=Lib.split s sep:=by
 unfold splitS at h
 cases h0:Nat.ble 1 (List.length sep) with
 | false=>rw[h0] at h;cases h
 | true=>
  rw[h0,cond_true] at h
  cases h1:Nat.ble (List.length s) 4294967280 with
  | false=>rw[h1] at h;cases h
  | true=>rw[h1] at h;simp at h;exact⟨Nat.ble_eq.mp h0,Nat.ble_eq.mp h1,h.symm⟩
theorem splitS_eq {s sep:List UInt8} (h0:1≤sep.length) (h1:s.length≤4294967280):splitS s sep=some (Lib.split s sep):=by
 unfold splitS
 rw[Nat.ble_eq.mpr h0,Nat.ble_eq.mpr h1];rfl
theorem split_contract {j:FuncId} {T:TypeId} {gm:Nat} (hE:Enters P j)
  (h:∀(s sep:ByteArray) (m:Int) (w:World) (hs:s.size<4294967281) (hm:w.cell? ⟨gm,0,none⟩=some (.int .i64 m)) (h1:1≤sep.size),
  Calls P j #[.string s,.string sep] w fun e w'=>
   e=.returned (.slice (some ⟨w.heap.size,0,none⟩) (Lib.countB s sep+1) (Lib.countB s sep+1))∧w'=w.alloc (.cells ((Lib.splitB sep 0 (Lib.countB s sep) s).map Value.string).toArray T))
  (hmax:∃m,W0.cell? ⟨gm,0,none⟩=some (.int .i64 m)) :
  Contract P W0 j { ins:=[.v .str .z,.v .str .z],outs:=[(.list .str,.o .z)],F:=fun t=>splitS t.1 t.2.1 }:=by
 refine⟨hE,fun w ow vs xs ys hlt hG hp hF=>?_⟩
 match vs,hp with
 | [],hp=>exact hp.elim
 | [_],hp=>exact hp.2.elim
 | _::_::_::_,hp=>cases hp.2.2
 | [v,u],hp=>
  obtain⟨h1,h2,_⟩:=hp
  obtain⟨x,y,_⟩:=xs
  have h1:=rep_str rfl h1
  have h2:=rep_str rfl h2
  subst h1 h2
  obtain⟨zs,hzs⟩:∃zs:List (List UInt8),zs=ys:=⟨ys,rfl⟩
  subst hzs
  obtain⟨f1,f2,f3⟩:=splitS_some (show splitS x y=some zs from hF)
  obtain⟨m,hm⟩:=hmax
  have hgl:gm<W0.heap.size:=by
   rcases Nat.lt_or_ge gm W0.heap.size with h0 | h0
   ·exact h0
   ·simp[World.cell?,Array.getElem?_eq_none h0] at hm
  have hm':w.cell? ⟨gm,0,none⟩=some (.int .i64 m):=by
   rw[←hm];simp only[World.cell?,(hG gm hgl).2]
  have hc:=h ⟨x.toArray⟩ ⟨y.toArray⟩ m w (by show x.toArray.size<_;simp;omega) hm' (by show 1≤y.toArray.size;simpa using f1)
  have hall:(Lib.splitB ⟨y.toArray⟩ 0 (Lib.countB ⟨x.toArray⟩ ⟨y.toArray⟩) ⟨x.toArray⟩).length=Lib.countB ⟨x.toArray⟩ ⟨y.toArray⟩+1:=Lib.splitB_all ⟨y.toArray⟩ (by show 1≤y.toArray.size;simpa using f1) 0 _ _ rfl
  have hdat:(Lib.splitB ⟨y.toArray⟩ 0 (Lib.countB ⟨x.toArray⟩ ⟨y.toArray⟩) ⟨x.toArray⟩).map (·.data.toList)=zs:=by
   rw[Lib.splitB_data,f3]
   simp[Lib.split,Lib.countB]
  rw[←hall] at hc
  generalize Lib.splitB ⟨y.toArray⟩ 0 (Lib.countB ⟨x.toArray⟩ ⟨y.toArray⟩) ⟨x.toArray⟩=bs at hc hdat
  refine hc.mono fun e w' h=>?_
  obtain⟨rfl,rfl⟩:=h
  have hold:∀i,i<w.heap.size→(w.alloc (.cells (bs.map Value.string).toArray T)).heap[i]? = w.heap[i]?:=fun i hi=>by rw[alloc_heap,if_neg (by omega)]
  have hnew:(w.alloc (.cells (bs.map Value.string).toArray T)).heap[w.heap.size]? = some (.cells (bs.map Value.string).toArray T):=by rw[alloc_heap,if_pos rfl]
  have hsz:(w.alloc (.cells (bs.map Value.string).toArray T)).heap.size=w.heap.size+1:=by show (w.heap.push _).size=_;simp
  refine⟨_,fun i=>if i=w.heap.size then .fl 0 else ow i,rfl,⟨rfl,rfl,rfl,by omega,fun _=>Nat.le_refl _⟩,fun i hi _=>⟨hold i hi,if_neg (by omega)⟩,fun i hi=>?_,?_,⟨rfl,rfl⟩⟩
  ·rw[hsz]
   by_cases hi2:i=w.heap.size
   ·omega
   ·have:ow i ≠ .none:=by simpa [hi2] using hi
    have:=hlt i this
    omega
  ·refine⟨rfl,rfl,_,_,_,rfl,?_,Nat.le_refl _,.inr ⟨w.heap.size,0,_,_,rfl,by simp[So],hnew,by simp[Sh.size],fun _=>0,fun j hj=>fun _=>?_⟩⟩
   ·show List.length zs=bs.length
    rw[←hdat];simp
   ·have hj':j<bs.length:=by
     have:List.length zs=bs.length:=by rw[←hdat];simp
     rw[←this];exact hj
    have hj2:j<zs.length:=hj
    have e:zs[j]=bs[j].data.toList:=(List.getElem_of_eq hdat.symm hj2).trans (by simp)
    show World.cell? _ ⟨w.heap.size,0+j * 1+0,none⟩=some (.string ⟨List.toArray (zs[j]'hj2)⟩)
    rw[e,show (⟨List.toArray bs[j].data.toList⟩:ByteArray)=bs[j] from by rw[Array.toArray_toList]]
    unfold World.cell?
    simp only[hnew]
    simp[hj']
end Go.Dx
namespace Go.Dx
open Go.Lib
theorem tab_of_vars {P:Program} {W:World} {name:String} {k:IntKind} {zs:List Int} {g:Nat} {t e:TypeId} {n:Nat}
  (hg:P.globalNamed name=some g) (hty:(P.globals[g]?).map (·.type)=some t) (ht:P.underlying t=some (.array n e)) (he:P.underlying e=some (.int k)) (hce:P.cellsOf e=1) (hct:P.cellsOf t=n) :
  ∀(l:List (String×DataW Unit)) (ps:List MemPlace),DataW.LaidVars P W l ps→(name,tabData k zs) ∈ l→TabIs P W name k zs
 | [],_,_,h=>by cases h
 | (m,d)::l,ps,hv,h=>by
  obtain⟨g',t',cs,fuel,p,q,hg',ht',hvar,hd,hr,_⟩:=hv
  rcases List.mem_cons.1 h with h | h
  ·simp only[Prod.mk.injEq] at h
   obtain⟨rfl,rfl⟩:=h
   obtain rfl:=Option.some.inj (hg.symm.trans hg')
   obtain rfl:=Option.some.inj (hty.symm.trans ht')
   unfold TabIs
   rw[hvar,←cells_of_tab ht he hce hct hd]
  ·exact tab_of_vars hg hty ht he hce hct l q hr h
theorem tab_of_laid {P:Program} {W:World} {name:String} {k:IntKind} {zs:List Int} {g:Nat} {t e:TypeId} {n:Nat} {l:List (String×DataW Unit)}
  (hg:P.globalNamed name=some g) (hty:(P.globals[g]?).map (·.type)=some t) (ht:P.underlying t=some (.array n e)) (he:P.underlying e=some (.int k)) (hce:P.cellsOf e=1) (hct:P.cellsOf t=n)
  (h:laidMet P l W) (hm:(name,tabData k zs) ∈ l):TabIs P W name k zs:=
 let ⟨ps,hv,_⟩:=h
 tab_of_vars hg hty ht he hce hct l ps hv hm
theorem handed_shaped {H:Type} {enc:TypeId×Value→H} {a:Assume} {C:Checked} {os:Os} {f:FuncId} {fn:Func} {s:ChangeSpec} {conds:List PathCond} {apart fresh handsOn again:Bool} {X:World→Array Value→Prop}
  (hX:∀(w w':World) (args:Array Value),w.heap=w'.heap→X w args→X w' args)
  (own:ownKnob C.prog.godebug=none) (started:os.Started) (noInit:C.prog.inits.idxOf? f=none) (hfn:C.prog.funcs[f]? = some fn)
  (witness:∃(w:World) (tape:Tape) (i:Input),w.os=os∧(w.forCall tape i).Shaped C.prog∧i.vars=[]∧Input.okWide C.prog (w.forCall tape i) .any w.heap.size f i∧
   ((s.pre enc C.prog fn conds apart (w.forCall tape i).memory i.args∧X (w.forCall tape i).memory i.args)∧sizedMet enc C.prog fn (OpenSpec.ofChange s) apart (w.forCall tape i).memory i.args)∧a.holds C.prog (lone (Frame.enter C.prog f i.args .normal) [] (w.forCall tape i)))
  (walk:∀(W:World) (base:Nat) (args:Array Value) (ds gs:List (DataW H)) (before:List MemPlace),W.ShapedOpen C.prog→X W args→
   (∀(j:Nat) t v,fn.params[j]? = some t→args[j]? = some v→Value.okWide C.prog W .any base t v)→
   DataW.Whole enc C.prog fn.params.toList s.vars apart W args.toList ds gs before→
   Calls C.prog f args W fun e W'=>∃v,e=.returned v∧s.post enc C.prog fn apart fresh handsOn again W args v W') :
  ReturnsInHanded a C os f .any (fun w args=>(s.pre enc C.prog fn conds apart w args∧X w args)∧sizedMet enc C.prog fn (OpenSpec.ofChange s) apart w args) (s.post enc C.prog fn apart fresh handsOn again):=by
 refine returnsInHanded_of_calls own started noInit witness fun w tape i _ hsh _ hok hpre _=>?_
 obtain⟨_,_,_,fn',hfn',_,_,_,_,hval⟩:=hok
 cases Option.some.inj (hfn'.symm.trans hfn)
 obtain⟨⟨⟨ds,gs,before,hw,_⟩,hx⟩,_⟩:=hpre
 refine (walk (w.forCall tape i) w.heap.size i.args ds gs before hsh (hX _ _ _ (by rfl) hx) hval (DataW.Whole.of_heap (w':=w.forCall tape i) (by rfl) hw)).mono fun e W' h=>?_
 obtain⟨v,rfl,hp⟩:=h
 exact ChangeSpec.post_blind hp
end Go.Dx
