/- A function of the library, walked -/
import Derived.Test.YtmklfdnhndakcaaGreatDoorProg
import Derived.WalkKit
import Derived.Deep.LoopGhost
import Derived.Deep.RegionLaw
import Derived.Lib.Walk
import Derived.Lib.SliceRun
import Derived.Shelf.RegionOpenPlain
import Derived.KernelRfl
import Derived.Test.YtmklfdnhndakcaaGreatDoorDxd
set_option linter.unusedVariables false
set_option linter.unusedSimpArgs false
namespace Go.Dx
open Go.Proofs Go.RowKit Go.Lib Go.Shelf
theorem Qrc {P:Program} (w:World) (t e ty:TypeId) (z:Value) (ht:P.underlying t=some (.slice e)) (hv:∀w,(zeroValue e).run P w=.ok z w) (b o n c:Nat) (hn:0<n)
  (hc:∀j,j<(Builtin.zeroCells z.cells n).size->(w.cell? ⟨b,o+j,none⟩).isSome=true) (hf:∀j,j<(Builtin.zeroCells z.cells n).size->w.frozen? ⟨b,o+j,none⟩=false) (h1:∀v ∈ (Builtin.zeroCells z.cells n).toList,v.oneCell'=true) :
  (Builtin.clear_ #[t] ty #[.slice (some ⟨b,o,none⟩) n c]).run P w=.ok (.tuple #[]) (w.setCells b o (Builtin.zeroCells z.cells n).toList):=by
 have hst:=run_storeCells_cells (P:=P) b o (Builtin.zeroCells z.cells n).toList 0 w (by simpa using hc) (by simpa using hf) h1
 simp only[Nat.add_zero] at hst
 obtain⟨m,rfl⟩:∃m,n=m+1:=⟨n - 1,by omega⟩
 simp[Builtin.clear_,run_underlying ht,hv,hst]
theorem Qw8:(Tryz.prog.info? 182).map (·.size)=some 8:=by kernel_rfl
set_option maxHeartbeats 4000000 in
set_option maxRecDepth 1000000 in
theorem Quh (w:World) (a:Option Addr) (n cap i:Nat) (hi:i<=n) (hcap:n<=cap) (ha:a=none/\cap=0\/∃b o,a=some ⟨b,o,none⟩):Calls Tryz.prog 260 #[.slice a n cap,.int .i64 i,.int .i64 i] w fun e w'=>e=.returned (.slice a n cap)/\w'=w:=by
 have mixed:Tryz.prog.follows .mixedOrders=true:=by kernel_rfl
 rcases ha with ⟨rfl,rfl⟩ | ⟨b,o,rfl⟩
 ·obtain rfl:n=0:=by omega
  obtain rfl:i=0:=by omega
  go_enter Tryz.func260,Tryz.ntmps260
  go_wp2
  all_goals (go_ret;exact⟨rfl,rfl⟩)
 ·go_enter Tryz.func260,Tryz.ntmps260
  go_wp2
  all_goals (go_ret;exact⟨rfl,rfl⟩)
set_option maxHeartbeats 4000000 in
set_option maxRecDepth 1000000 in
theorem QtU (w:World) (blk off n cap i j:Nat) (news zs:List Value) (hcap:n<=cap) (hm:n<=1000000) (hlt:i<j) (hj:j<=n) (hlen:news.length=(n - j) * 8)
  (hsrc0:∀t u,news[t]? = some u->w.cell? ⟨blk,off+j * 8+t,none⟩=some u) (hone:∀u ∈ news,u.oneCell'=true)
  (hall:∀t,t<n * 8->(w.cell? ⟨blk,off+t,none⟩).isSome=true/\w.frozen? ⟨blk,off+t,none⟩=false)
  (hcl:∀ty,(Builtin.clear_ #[40] ty #[.slice (some ⟨blk,off+(i+(n - j)) * 8,none⟩) (n - (i+(n - j))) (cap - (i+(n - j)))]).run Tryz.prog (w.drew.setCells blk (off+i * 8) news)=.ok (.tuple #[]) ((w.drew.setCells blk (off+i * 8) news).setCells blk (off+(i+(n - j)) * 8) zs)) :
  Calls Tryz.prog 260 #[.slice (some ⟨blk,off,none⟩) n cap,.int .i64 i,.int .i64 j] w fun e w'=>e=.returned (.slice (some ⟨blk,off,none⟩) (n - (j - i)) cap)/\w'=(w.drew.setCells blk (off+i * 8) news).setCells blk (off+(i+(n - j)) * 8) zs:=by
 have mixed:Tryz.prog.follows .mixedOrders=true:=by kernel_rfl
 obtain⟨i0,hi0,hz1⟩:∃i0,Tryz.prog.info? 182=some i0/\i0.size=8:=Option.map_eq_some_iff.1 Qw8
 obtain⟨A,hA,hsrc⟩:∃A:Addr,(if cap=j then (some ⟨blk,off,none⟩:Option Addr) else some ⟨blk,off+j * 8,none⟩)=some A/\Hid (∀t u,news[t]? = some u->w.drew.cell? (A.add t)=some u):=by
  by_cases h:cap=j
  ·refine⟨⟨blk,off,none⟩,by simp[h],fun t u hu=>?_⟩
   have h00:n - j=0:=by omega
   have h0:news.length=0:=by rw[hlen,h00,Nat.zero_mul]
   rw[List.length_eq_zero_iff.1 h0] at hu
   simp at hu
  ·refine⟨⟨blk,off+j * 8,none⟩,by simp[h],fun t u hu=>?_⟩
   rw[Addr.add_lit]
   exact hsrc0 t u hu
 have s1:Hid (news.length=(n - j) * 8):=hlen
 have s2:Hid (∀u ∈ news,u.oneCell'=true):=hone
 have s3:Hid (∀t,t<news.length->(w.drew.cell? ⟨blk,off+i * 8+t,none⟩).isSome=true/\w.drew.frozen? ⟨blk,off+i * 8+t,none⟩=false):=by
  intro t ht
  rw[hlen] at ht
  rw[Nat.add_assoc]
  exact hall (i * 8+t) (by omega)
 obtain⟨W1,hW1⟩:∃W1,W1=w.drew.setCells blk (off+i * 8) news:=⟨_,rfl⟩
 rw[<-hW1] at hcl
 have hW:Hid (W1=w.drew.setCells blk (off+i * 8) news):=hW1
 rw[<-hW1]
 have hic:i<=cap:=by omega
 have hjc:j<=cap:=by omega
 clear hW1 hlen hsrc0 hone hall
 go_enter Tryz.func260,Tryz.ntmps260
 go_wp2_with fail
 go_region_law_o (refine step_append_room rfl (.tmp 22) (.tmp 25) 40 rfl 182 i0 8 Tryz.underlying40 hi0 hz1 blk off i cap (by simp[Act.eval,Act.put]) A (n - j) (cap - j) news (by simp[Act.eval,Act.put]) s1.out hsrc.out s2.out (by omega) s3.out ?_;rw[<-hW.out])
 go_wp2
 go_ret
 exact⟨by rw[show n - (j - i)=i+(n - j) by omega];rfl,rfl⟩
theorem Qsn (c:Array Value) (m:Nat):(Builtin.zeroCells c m).size=m * c.size:=by simp[Builtin.zeroCells]
theorem Qt3 (c:Array Value) (m:Nat) (h:∀k (hk:k<c.size),c[k].oneCell'=true):∀v ∈ (Builtin.zeroCells c m).toList,v.oneCell'=true:=by
 intro v hv
 obtain⟨i,hi,rfl⟩:=List.mem_iff_getElem.1 hv
 have hi:i<m * c.size:=by simpa [Builtin.zeroCells] using hi
 have hp:0<c.size:=by rcases Nat.eq_zero_or_pos c.size with h0 | h0;rw[h0,Nat.mul_zero] at hi;omega;exact h0
 have hk:i % c.size<c.size:=Nat.mod_lt _ hp
 have e:(Builtin.zeroCells c m).toList[i]=c[i % c.size]:=by simp[Builtin.zeroCells,hk]
 rw[e];exact h _ hk
def zvC:Value:=.agg #[.int .i64 0,.int .i64 0,.int .i64 0,.slice none 0 0,.int .i64 0,.int .i64 0,.int .i64 0,.bool false]
theorem Qvr:zvC.cells.size=8:=by rfl
theorem Qwl:∀k (hk:k<zvC.cells.size),zvC.cells[k].oneCell'=true:=by
 intro k hk
 have hk:k<8:=hk
 have:k=0\/k=1\/k=2\/k=3\/k=4\/k=5\/k=6\/k=7:=by omega
 rcases this with rfl | rfl | rfl | rfl | rfl | rfl | rfl | rfl<;>rfl
theorem Quv {W0:World} (hE:Enters Tryz.prog 260):Contract Tryz.prog W0 260 { ins:=[.v (.list (.prod (.prod (.int .i64) (.int .i64)) (.prod (.prod (.int .i64) (.prod (.list (.int .i64)) (.prod (.int .i64) (.int .i64)))) (.prod (.int .i64) .bool)))) (.o .z),.v (.int .i64) .z,.v (.int .i64) .z],outs:=[(.list (.prod (.prod (.int .i64) (.int .i64)) (.prod (.prod (.int .i64) (.prod (.list (.int .i64)) (.prod (.int .i64) (.int .i64)))) (.prod (.int .i64) .bool))),.o .z)],F:=fun t=>delS t.1 t.2.1 t.2.2.1 }:=by
 refine QkD (S:=.prod (.prod (.int .i64) (.int .i64)) (.prod (.prod (.int .i64) (.prod (.list (.int .i64)) (.prod (.int .i64) (.int .i64)))) (.prod (.int .i64) .bool))) rfl hE Quh ?_
 intro w blk off n cap i q arr ty hblk hsz hcap hn hlt hj hone
 have hsz:off+cap * 8<=arr.size:=hsz
 have hone:∀t,t<n * 8->∃v,arr[off+t]? = some v/\v.oneCell'=true:=hone
 obtain⟨news,hnews⟩:∃news,news=(arr.toList.drop (off+q * 8)).take ((n - q) * 8):=⟨_,rfl⟩
 have hlen:news.length=(n - q) * 8:=by rw[hnews];simp;omega
 have hget:∀t,t<(n - q) * 8->news[t]? = arr[off+q * 8+t]?:=fun t ht=>by
  rw[hnews,List.getElem?_take,if_pos ht,List.getElem?_drop,Array.getElem?_toList]
 have hcl0:∀k,w.cell? ⟨blk,k,none⟩=arr[k]?:=fun k=>by simp[World.cell?,hblk]
 have hfr0:∀k,w.frozen? ⟨blk,k,none⟩=false:=fun k=>by simp[World.frozen?,hblk]
 have hmem:∀u ∈ news,u.oneCell'=true:=fun u hu=>by
  obtain⟨t,ht,rfl⟩:=List.mem_iff_getElem.1 hu
  have h1:=hget t (by omega)
  rw[List.getElem?_eq_getElem ht] at h1
  obtain⟨v,hv,ho⟩:=hone (q * 8+t) (by omega)
  rw[<-Nat.add_assoc,<-h1] at hv
  cases hv;exact ho
 have hbd:w.drew.heap[blk]? = some (.cells arr ty (0,0)):=hblk
 obtain⟨arr1,r1,r2,r3,r4⟩:=Yr news (off+i * 8) w.drew arr hbd (by omega)
 obtain⟨s1,s2⟩:=ZC (b:=blk) news (off+i * 8) w.drew
 have hz:∀w',(zeroValue 182).run Tryz.prog w'=.ok zvC w':=fun w'=>by kernel_rfl
 obtain⟨zs,hzs⟩:∃zs:List Value,zs=(Builtin.zeroCells zvC.cells (q - i)).toList:=⟨_,rfl⟩
 have hzsz:(Builtin.zeroCells zvC.cells (q - i)).size=(q - i) * 8:=by rw[Qsn,Qvr]
 have hzl:zs.length=(q - i) * 8:=by rw[hzs,Array.length_toList,hzsz]
 have hclear:∀ty,(Builtin.clear_ #[40] ty #[.slice (some ⟨blk,off+(i+(n - q)) * 8,none⟩) (n - (i+(n - q))) (cap - (i+(n - q)))]).run Tryz.prog (w.drew.setCells blk (off+i * 8) news)=.ok (.tuple #[]) ((w.drew.setCells blk (off+i * 8) news).setCells blk (off+(i+(n - q)) * 8) zs):=fun ty'=>by
  have e0:n - (i+(n - q))=q - i:=by omega
  rw[e0,hzs]
  refine Qrc _ 40 182 ty' _ Tryz.underlying40 hz blk _ (q - i) _ (by omega) (fun t ht=>?_) (fun t ht=>by simp[World.frozen?,r1]) (Qt3 _ _ Qwl)
  rw[hzsz] at ht
  simp only[World.cell?,r1]
  simp
  omega
 have hwk:=QtU w blk off n cap i q news zs hcap hn hlt hj hlen (fun t u hu=>by
   rw[hcl0,<-hget t (by have:=(List.getElem?_eq_some_iff.1 hu).1;omega)];exact hu) hmem (fun t ht=>⟨by rw[hcl0];obtain⟨v,hv,_⟩:=hone t ht;rw[hv];rfl,hfr0 _⟩) hclear
 refine hwk.mono fun e w' h=>?_
 obtain⟨he,hw'⟩:=h
 obtain⟨arr2,u1,u2,u3,u4⟩:=Yr zs (off+(i+(n - q)) * 8) (w.drew.setCells blk (off+i * 8) news) arr1 r1 (by rw[r2];omega)
 obtain⟨s3,s4⟩:=ZC (b:=blk) zs (off+(i+(n - q)) * 8) (w.drew.setCells blk (off+i * 8) news)
 have sd:Streams w w.drew:=⟨rfl,rfl,rfl,Nat.le_refl _,Nat.le_succ _⟩
 subst hw'
 refine⟨he,sd.trans (s1.trans s3),by rw[s4,s2];rfl,fun b hb=>by rw[Je hb,Je hb];rfl,arr2,u1,by rw[u2,r2],fun t ht=>?_,fun t ht=>?_⟩
 ·have ht:t<i * 8:=ht
  rw[u3 (off+t) (.inl (by omega)),r3 (off+t) (.inl (by omega))]
 ·have ht:t<(n - q) * 8:=ht
  show arr2[off+i * 8+t]? = arr[off+q * 8+t]?
  rw[u3 (off+i * 8+t) (.inl (by omega)),r4 t (by omega),hget t ht]
end Go.Dx
