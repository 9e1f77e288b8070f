/- THE LIBRARY: slices.Reverse -/
import Derived.Test.YtmklfdnhndakcaaGreatDoorDxd
import Derived.Sort.WalkB12
set_option linter.unusedVariables false
set_option linter.unusedSimpArgs false
set_option maxRecDepth 100000
namespace Go.Dx
open Go.Proofs Go.Sort
variable {P:Program} {W0:World}
theorem Qls {j:FuncId} (hE:Enters P j)
  (h1:∀(blk off cap:Nat) (d:Array Int) (w:World),Holds (Value.int .i64) w blk off d->d.size<=9223372036854775807->
   Calls P j #[.slice (some ⟨blk,off,none⟩) d.size cap] w fun e w'=>e=.returned (.tuple #[])/\∃n,w'=putRow (Value.int .i64) (Sort.ahead w n) blk off d.reverse)
  (h2:∀(a:Option Addr) (cap:Nat) (w:World),Calls P j #[.slice a 0 cap] w fun e w'=>e=.returned (.tuple #[])/\w'=w) :
  Contract P W0 j { ins:=[.mu (.list (.int .i64)) (.o .z) (.o .z)],outs:=[],F:=fun t=>bif Nat.ble (List.length t.1) 9223372036854775807 then some (List.reverse t.1) else none }:=by
 refine⟨hE,fun w ow vs xs ys hlt hG hp hF=>?_⟩
 match vs,hp with
 | [],hp=>exact hp.elim
 | _::_::_,hp=>cases hp.2
 | [v],hp=>
  obtain⟨⟨I,A,n,cap,e1,e2,e3,e4⟩,_⟩:=hp;obtain⟨x,_⟩:=xs;have e2:List.length (α:=Int) x=n:=e2
  have hv1:v.cells = #[v]:=I
  simp only[Qg,hv1] at e1;simp only[List.getElem?_toArray,aLt,aLb] at e1;subst e1;have hF:(bif Nat.ble (List.length (α:=Int) x) 9223372036854775807 then some (List.reverse x) else none)=some ys:=hF
  cases hb:Nat.ble (List.length (α:=Int) x) 9223372036854775807 with
  | false=>rw[hb] at hF;cases hF
  | true=>
  rw[hb,aLB] at hF;have hlen:=Nat.le_of_ble_eq_true hb
  simp only[aLb] at hF;have hF:(List.reverse x:List Int)=ys:=hF
  subst hF;let ow':Nat->Tag:=fun j=>if ow j=.fl 0 then .b 0 else ow j
  have kz:∀j,ow j ≠ .fl 0->ow' j=ow j:=fun j hj=>by simp[ow',hj]
  have k0:∀j,ow j=.fl 0->ow' j=.b 0:=fun j hj=>by simp[ow',hj]
  have hlt':∀j,ow' j ≠ .none->j<w.heap.size:=fun j hj=>hlt j fun h0=>hj (by rw[kz j (by rw[h0];simp)];exact h0)
  rcases e4 with ⟨rfl,rfl,rfl⟩ | ⟨b,off,arr,ty,rfl,hS,hblk,hsz,t1,hr⟩
  ·have hx:x=([]:List Int):=aMk e2
   subst hx;refine (h2 none 0 w).mono fun e w' h=>?_
   obtain⟨rfl,rfl⟩:=h;refine⟨.tuple #[],ow',rfl,⟨(Streams.refl _).d,fun j hj h=>⟨rfl,kz j (by rcases h with h | h<;>rw[h]<;>simp)⟩,hlt',⟨rfl,#[],rfl,rfl,fun k o y u hk=>by simp at hk⟩,?_⟩⟩
   exact⟨⟨rfl,I,none,0,0,rfl,rfl,aMb _,.inl ⟨rfl,rfl,rfl⟩⟩,rfl,rfl⟩
  ·have hSb:ow b=.fl 0:=hS
   have hH:Holds (Value.int .i64) w b off (List.toArray x):=by
    intro k hk;have J:k<List.length (α:=Int) x:=by simpa using hk
    have hr:=hr k J
    have hr:Qd w b (off+k * 1) 0=some (.int .i64 (x[k]'J)):=hr (by simp)
    constructor
    ·rw[getElem!_pos _ k hk]
     simpa [Qd] using hr
    ·simp[World.frozen?,hblk]
   have hw1:=h1 b off cap (List.toArray x) w hH (by simpa using hlen)
   rw[show (List.toArray x:Array Int).size=n by simpa using e2] at hw1
   refine hw1.mono fun e w' h=>?_
   obtain⟨rfl,m,rfl⟩:=h;have hw':Holds (Value.int .i64) (putRow (Value.int .i64) (Sort.ahead w m) b off (List.toArray x:Array Int).reverse) b off (List.toArray x:Array Int).reverse:=
    holds_putRow _ _ _ _ (List.toArray x) _ (holds_ahead _ _ _ _ _ _ hH) (by simp)
   have U:(putRow (Value.int .i64) (Sort.ahead w m) b off (List.toArray x:Array Int).reverse).heap=w.heap.modify b (onCells (putCells (Value.int .i64) off (List.toArray x:Array Int).reverse)):=rfl
   have hother:∀j,j ≠ b->(putRow (Value.int .i64) (Sort.ahead w m) b off (List.toArray x:Array Int).reverse).heap[j]? = w.heap[j]?:=fun j hj=>by
    rw[U,Array.getElem?_modify,if_neg (Ne.symm hj)]
   have hblk':(putRow (Value.int .i64) (Sort.ahead w m) b off (List.toArray x:Array Int).reverse).heap[b]? = some (.cells (putCells (Value.int .i64) off (List.toArray x:Array Int).reverse arr) ty (0,0)):=by
    rw[U,Array.getElem?_modify,if_pos rfl,hblk];rfl
   have hst:Streams w (putRow (Value.int .i64) (Sort.ahead w m) b off (List.toArray x:Array Int).reverse):=⟨rfl,rfl,rfl,by simp,by show w.drawn<=w.drawn+m;omega⟩
   have hsz2:(putRow (Value.int .i64) (Sort.ahead w m) b off (List.toArray x:Array Int).reverse).heap.size=w.heap.size:=by simp
   have hcs:(putCells (Value.int .i64) off (List.toArray x:Array Int).reverse arr).size=arr.size:=by simp[putCells]
   generalize putRow (Value.int .i64) (Sort.ahead w m) b off (List.toArray x:Array Int).reverse=w2 at *;generalize putCells (Value.int .i64) off (List.toArray x:Array Int).reverse arr=arr2 at *;refine⟨.tuple #[],ow',rfl,⟨hst.d,fun j hj h=>⟨hother j (fun hjb=>?_),kz j (by rcases h with h | h<;>rw[h]<;>simp)⟩,fun j hj=>by rw[hsz2];exact hlt' j hj,⟨rfl,#[],rfl,rfl,fun k o y u hk=>by simp at hk⟩,?_⟩⟩
   ·subst hjb;rw[hSb] at h;rcases h with h | h<;>cases h
   ·refine⟨⟨rfl,I,some ⟨b,off,none⟩,n,cap,rfl,by show (List.reverse x).length=n;simpa using e2,e3,.inr ⟨b,off,arr2,ty,rfl,k0 b hSb,hblk',by rw[hcs];exact hsz,t1,fun k hk=>?_⟩⟩,rfl,rfl⟩
    intro _;have J:k<(List.toArray x:Array Int).reverse.size:=by simpa using hk
    have:=(hw' k J).1
    rw[getElem!_pos _ k J] at this;simp only[Qd,Sh.size,Nat.mul_one,Nat.add_zero];rw[this];simp
end Go.Dx
