/- A function of the library, walked -/
import Derived.Test.YtmklfdnhndakcaaGreatDoorProg
import Derived.WalkKit
import Derived.Deep.LoopGhost
import Derived.Lib.Walk
import Derived.Lib.ConvBytes
import Derived.Laws.IdiomStrings
import Derived.KernelRfl
import Derived.Test.YtmklfdnhndakcaaGreatDoorDxd
set_option linter.unusedVariables false
set_option linter.unusedSimpArgs false
namespace Go.Dx
open Go.Proofs Go.RowKit
theorem Qnd (m:List UInt8) (j:Nat) (h:j<m.length):m.getD j 0=m[j]:=by rw[show m.getD j 0=m[j]?.getD 0 from rfl,List.getElem?_eq_getElem h];rfl
def swpR (f:UInt8->UInt8) (l:List UInt8) (i:Nat):List UInt8:=(l.take i).map f++l.drop i
theorem Qhw (f:UInt8->UInt8) (l:List UInt8) (i:Nat):(swpR f l i).length=l.length:=by
 unfold swpR;rw[List.length_append,List.length_map,List.length_take,List.length_drop];omega
theorem Qvp (f:UInt8->UInt8) (l:List UInt8) {i:Nat} (h:l.length<=i):swpR f l i=l.map f:=by
 unfold swpR;rw[List.take_of_length_le h,List.drop_eq_nil_of_le h,List.append_nil]
theorem Qf4 (f:UInt8->UInt8) (l:List UInt8) (i j:Nat) (hj:j<l.length):(swpR f l i).getD j 0=if j<i then f (l.getD j 0) else l.getD j 0:=by
 unfold swpR
 have hd:∀m:List UInt8,m.getD j 0=m[j]?.getD 0:=fun m=>rfl
 rw[hd,hd]
 by_cases h:j<i
 ·rw[if_pos h,List.getElem?_append_left (by simp;omega)]
  simp[h,List.getElem?_eq_getElem hj]
 ·rw[if_neg h,List.getElem?_append_right (by simp;omega)]
  simp only[List.length_map,List.length_take,List.getElem?_drop]
  rw[show i+(j - min i l.length)=j by omega]
structure SwpI (w wr:World) (blk n:Nat) (l:List UInt8):Prop where
 bel:Below w.heap.size w wr
 lt:w.heap.size<=blk
 len:l.length=n
 cell:∀j,j<n->wr.cell? ⟨blk,j,none⟩=some (.int .u8 ((l.getD j 0).toNat:Int))/\wr.frozen? ⟨blk,j,none⟩=false
theorem SwpI.set {w wr:World} {blk n i:Nat} {l l':List UInt8} {c:UInt8} (h:SwpI w wr blk n l) (hi:i<n) (hl:l'.length=n) (h1:l'.getD i 0=c) (h2:∀j,j<n->j ≠ i->l'.getD j 0=l.getD j 0):SwpI w (wr.setCell ⟨blk,i,none⟩ (.int .u8 (c.toNat:Int))) blk n l':=by
 have hbn:blk<wr.heap.size:=World.block_lt_of_cell? _ _ (h.cell i hi).1
 refine⟨⟨h.bel.os,h.bel.tape,h.bel.output,by simpa [World.setCell] using h.bel.size,fun k hk=>?_⟩,h.lt,hl,fun j hj=>⟨?_,?_⟩⟩
 ·rw[QiF (by have:=h.lt;omega)];exact h.bel.block k hk
 ·by_cases hji:j=i
  ·subst hji
   rw[h1]
   exact World.cell?_setCell_same _ _ _ (h.cell j hj).1
  ·rw[h2 j hj hji,World.cell?_setCell_other _ _ _ _ (by intro e;apply hji;injection e with e1 e2;exact e2.symm),(h.cell j hj).1]
 ·rw[World.frozen?_setCell];exact (h.cell j hj).2
set_option maxHeartbeats 4000000 in
set_option maxRecDepth 1000000 in
theorem Qvb (s:ByteArray) (a b:Int) (w:World) (hs:s.size<=1000000) (hb0:0<=b) (hb1:b<256) :
  Calls Tryz.prog 264 #[.string s,.int .u8 a,.int .u8 b] w fun e w'=>e=.returned (.string ⟨(List.map (fun c=>if (c.toNat:Int)=a then UInt8.ofNat b.toNat else c) s.data.toList).toArray⟩)/\Below w.heap.size w w':=by
 obtain⟨f,hf⟩:∃f:UInt8->UInt8,f=fun c=>if (c.toNat:Int)=a then UInt8.ofNat b.toNat else c:=⟨_,rfl⟩
 rw[<-hf]
 obtain⟨l,hl⟩:∃l:List UInt8,l=s.data.toList:=⟨_,rfl⟩
 rw[<-hl]
 have hn:l.length=s.size:=by rw[hl];rfl
 have hcv:=Lib.run_convert_string_bytes (P:=Tryz.prog) w 9 252 5 s (u:=.string) Tryz.underlying9 Tryz.underlying252 Tryz.underlying5
 have hbel:Below w.heap.size w (Lib.bytesWorld w 5 s):=⟨rfl,rfl,rfl,by rw[Lib.bytesWorld_size];exact Nat.le_succ _,fun k hk=>Lib.bytesWorld_at_old w 5 s k hk⟩
 have hI:SwpI w (Lib.bytesWorld w 5 s) w.heap.size s.size (swpR f l 0):=by
  refine⟨hbel,Nat.le_refl _,by rw[Qhw,hn],fun j hj=>⟨?_,?_⟩⟩
  ·rw[Lib.bytesWorld_cell w 5 s j hj,Qf4 f l 0 j (by omega),if_neg (by omega),hl]
  ·have h:=Lib.bytesWorld_at_new w 5 s
   have hsz:s.size<=(Lib.bytesCells w 5 s).size:=by
    have h3:=Lib.bytesWorld_cell w 5 s j hj
    rcases Nat.lt_or_ge (Lib.bytesCells w 5 s).size s.size with hh | hh
    ·have h4:=Lib.bytesWorld_cell w 5 s (Lib.bytesCells w 5 s).size hh
     simp only[World.cell?,h] at h4
     simp at h4
    ·exact hh
   simp only[World.frozen?,h]
   simp
   omega
 obtain⟨W1,hW1⟩:∃W1,W1=Lib.bytesWorld w 5 s:=⟨_,rfl⟩
 rw[<-hW1] at hcv hI
 obtain⟨cap,hcap⟩:∃cap,cap=grownCap w s.size 0 5:=⟨_,rfl⟩
 rw[<-hcap] at hcv
 obtain⟨N,hN⟩:∃N,N=w.heap.size:=⟨_,rfl⟩
 have HI:Hid (SwpI w W1 N s.size (swpR f l 0)):=by rw[hN];exact hI
 have HF:Hid (f=fun c=>if (c.toNat:Int)=a then UInt8.ofNat b.toNat else c):=hf
 have HL:Hid (l.length=s.size):=hn
 rw[<-hN] at hcv
 have hG:∀w':World,Hid (Below w.heap.size w w')->Below w.heap.size w w':=fun w' h=>h.out
 clear hI hf hl hn hbel hW1 hcap hN
 refine Calls.mono (R:=fun e w'=>e=.returned (.string ⟨(l.map f).toArray⟩)/\Hid (Below w.heap.size w w')) ?_ (fun e w' h=>⟨h.1,hG w' h.2⟩)
 clear hG
 go_enter Tryz.func264,Tryz.ntmps264
 go_wp2
 go_loopg [8] s.size (fun k c wr=>∃i,k=s.size - i/\i<=s.size/\c=.int .i64 (i:Int)/\Hid (SwpI w wr N s.size (swpR f l i)))
 case atStart=>exact⟨0,rfl,Nat.zero_le _,rfl,HI⟩
 case round=>
  obtain⟨i,hk,hi,rfl,hII⟩:=hrel
  by_cases hlt:i<s.size
  ·have hlt':(i:Int)<(s.size:Int):=by omega
   have hc:=(hII.out.cell i hlt).1
   have hfz:=(hII.out.cell i hlt).2
   have hat:(swpR f l i).getD i 0=l.getD i 0:=by rw[Qf4 f l i i (by rw[HL.out];exact hlt),if_neg (Nat.lt_irrefl i)]
   rw[hat] at hc
   obtain⟨c,hcc⟩:∃c,c=l.getD i 0:=⟨_,rfl⟩
   rw[<-hcc] at hc hat
   have HC:Hid (c=l.getD i 0):=hcc
   have HA:Hid ((swpR f l i).getD i 0=c):=hat
   clear hcc hat
   by_cases heq:(c.toNat:Int)=a
   ·have HE:Hid (b=((f c).toNat:Int)):=by
     rw[HF.out];simp only;rw[if_pos heq]
     show b=((UInt8.ofNat b.toNat).toNat:Int)
     rw[UInt8.toNat_ofNat']
     omega
    have HQ:Hid (SwpI w (wr.setCell ⟨N,i,none⟩ (.int .u8 b)) N s.size (swpR f l (i+1))):=by
     rw[HE.out]
     refine hII.out.set hlt (by rw[Qhw,HL.out]) ?_ (fun j hj hji=>?_)
     ·rw[Qf4 f l (i+1) i (by rw[HL.out];exact hlt),if_pos (Nat.lt_succ_self i),HC.out]
     ·rw[Qf4 f l (i+1) j (by rw[HL.out];exact hj),Qf4 f l i j (by rw[HL.out];exact hj)]
      by_cases h:j<i
      ·rw[if_pos h,if_pos (by omega)]
      ·rw[if_neg h,if_neg (by omega)]
    go_wp2
    go_roundg (s.size - (i+1))
    case measure=>omega
    case rel=>exact⟨i+1,rfl,by omega,by simp,HQ⟩
   ·have HQ:Hid (SwpI w wr N s.size (swpR f l (i+1))):=by
     have e:swpR f l (i+1)=swpR f l i:=by
      apply List.ext_getElem
      ·rw[Qhw,Qhw]
      ·intro j h1 h2
       have hj:j<l.length:=by rw[Qhw] at h1;exact h1
       have g1:=Qf4 f l (i+1) j hj
       have g2:=Qf4 f l i j hj
       rw[Qnd _ _ h1] at g1
       rw[Qnd _ _ h2] at g2
       rw[g1,g2]
       by_cases h:j<i
       ·rw[if_pos h,if_pos (by omega)]
       ·by_cases h':j=i
        ·subst h'
         rw[if_pos (Nat.lt_succ_self j),if_neg h,HF.out,<-HC.out]
         simp only
         rw[if_neg heq]
        ·rw[if_neg h,if_neg (by omega)]
     rw[e];exact hII
    go_wp2
    go_roundg (s.size - (i+1))
    case measure=>omega
    case rel=>exact⟨i+1,rfl,by omega,by simp,HQ⟩
  ·obtain rfl:i=s.size:=by omega
   have hback:=run_convert_bytes_back (P:=Tryz.prog) wr 252 9 5 ⟨N,0,none⟩ cap (l.map f) Tryz.underlying252 Tryz.underlying5 Tryz.underlying9 (fun j hj=>by
    have hj':j<l.length:=by simpa using hj
    have h:=(hII.out.cell j (by rw[<-HL.out];exact hj')).1
    rw[Qvp f l (by rw[HL.out];exact Nat.le_refl _)] at h
    rw[show (⟨N,0,none⟩:Addr).add j=⟨N,j,none⟩ by simp[Addr.add];exact Eq.symm,h,Qnd _ _ hj])
   rw[List.length_map,HL.out] at hback
   have HB:Hid (Below w.heap.size w wr):=hII.out.bel
   go_wp2
   go_ret
   exact⟨rfl,HB⟩
theorem QuT {W0:World} (hE:Enters Tryz.prog 264):Contract Tryz.prog W0 264 { ins:=[.v .str .z,.v (.int .u8) .z,.v (.int .u8) .z],outs:=[(.str,.z)],F:=fun t=>swpS t.1 t.2.1 t.2.2.1,dm:=false }:=
 Qqg hE fun s a b w hs h0 h1=>Qvb s a b w hs h0 h1
end Go.Dx
