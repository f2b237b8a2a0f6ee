/- What the specification's Balance and Voids answer, on any book; and a drawn region that fills one block. -/
import Derived.Test.YtnkejaohnhpbpaaGreatDoorA34
import Derived.Test.YtnkejaohnhpbpaaGreatDoorA35
import Derived.Test.YtnkejaohnhpbpaaGreatDoorA36
import Derived.Test.YtnkejaohnhpbpaaGreatDoorA59
import Derived.Test.YtnkejaohnhpbpaaGreatDoorA78
set_option linter.all false
section
namespace Go.Proofs.YtnkejaohnhpbpaaGreatDoor
open Go Go.RowKit Lift
def aN.kD(b:aN)(c:Int):Prop:=0≤c∧c<b.coins.length
instance (b:aN) (c:Int):Decidable (b.kD c):=by unfold aN.kD;exact inferInstance
def aN.bA(b:aN)(c day:Int):Int×Int×Int×Int×Int:=if b.ji (b.kD c) day=0 then((b.to.after day).acc c.toNat,b.to.cO (b.to.after day) c.toNat,(b.to.after day).tkn c.toNat,(b.to.after day).pd c.toNat,0)else(0,0,0,0,b.ji (b.kD c) day)
theorem bA_ok{b:aN}{c day:Int}(h:b.ji (b.kD c) day=0):b.bA c day=((b.to.after day).acc c.toNat,b.to.cO (b.to.after day) c.toNat,(b.to.after day).tkn c.toNat,(b.to.after day).pd c.toNat,0):=if_pos h
theorem Jr{b:aN}{c day:Int}(h:¬b.ji (b.kD c) day=0):b.bA c day=(0,0,0,0,b.ji (b.kD c) day):=if_neg h
def iQ(V:List Int):Nat→List Int
 |0=>[]
 |k+1=>if(k:Int)∈V then iQ V k++[(k:Int)]else iQ V k
def aN.vR(b:aN):List Int:=if b.eX=0 then iQ (b.to.after 9999).voids b.ps.length else[]
theorem OV{b:aN}(h:b.eX=0):b.vR=iQ (b.to.after 9999).voids b.ps.length:=if_pos h
theorem OU{b:aN}(h:¬b.eX=0):b.vR=[]:=if_neg h
theorem rM(V:List Int)(x:Int):∀k:Nat,x∈iQ V k↔x∈V∧0≤x∧x<k
 |0=>⟨λh=>by simp[iQ]at h,λh=>by omega⟩
 |k+1=>by
  rw[iQ];by_cases q:(k:Int)∈V
  ·rw[if_pos q,List.mem_append,rM V x k,List.mem_singleton];constructor
   ·rintro(⟨h1,h2,h3⟩|rfl)
    ·exact⟨h1,h2,by omega⟩
    ·exact⟨q,by omega,by omega⟩
   ·rintro⟨h1,h2,h3⟩;by_cases e:x=k
    ·exact .inr e
    ·exact .inl ⟨h1,h2,by omega⟩
  ·rw[if_neg q,rM V x k];refine⟨λh=>⟨h.1,h.2.1,by omega⟩,λh=>⟨h.1,h.2.1,?_⟩⟩;have:x≠k:=λe=>q (e▸h.1);omega
theorem pJ(V:List Int):∀k:Nat,(iQ V k).Pairwise (·<·)
 |0=>by simp[iQ]
 |k+1=>by
  rw[iQ];split
  ·refine List.pairwise_append.2 ⟨pJ V k,by simp,λx hx y hy=>?_⟩;have:=(rM V x k).1 hx;rw[List.mem_singleton]at hy;omega
  ·exact pJ V k
theorem pI(V:List Int):∀k:Nat,(iQ V k).length≤k
 |0=>by simp[iQ]
 |k+1=>by
  have:=pI V k;rw[iQ];split
  ·rw[List.length_append];simp;omega
  ·omega
theorem Ji{b:Book}{V:List Int}(h:pY b V):iQ V b.ps.length=jf V:=
 uD (pJ V _) (Ee V h.nd) λx=>by
  rw[rM,← (uz V).mem_iff];refine⟨λq=>q.1,λq=>⟨q,?_⟩⟩;obtain⟨i,rfl,hi,_⟩:=h.of x q;exact⟨by omega,by omega⟩
def WZ(w0:World)(X i:Nat)(z vals:Array Value):Wm:=λD _ w=>Below X w0 w∧(∀k,k≠X→k<w0.heap.size→w.heap[k]?=w0.heap[k]?)∧Blk w X 41 (if D i=true then vals else z)
section
variable {w0 w w':World} {X i:Nat} {z vals:Array Value} {D:Nat→Bool} {x:Tmp→Value}
theorem WZ.start(h:Blk w0 X 41 z):WZ w0 X i z vals (λ_=>false) x { w0 with drawn:=w0.drawn+1 }:=⟨⟨rfl,rfl,rfl,ay _,λ_ _=>rfl⟩,λ_ _ _=>rfl,h⟩
theorem WZ.pure(h:WZ w0 X i z vals D x w){j:Nat}(hj:j≠i):WZ w0 X i z vals (aJ D j) x w:=by
 refine⟨h.1,h.2.1,?_⟩;rw[fF (Ne.symm hj)];exact h.2.2
theorem WZ.blk(h:WZ w0 X i z vals D x w){B:Nat}{ty:TypeId}{cs:Array Value}(hb:Blk w0 B ty cs)(hB:B≠X):Blk w B ty cs:=(h.2.1 B hB hb.lt).trans hb
end
end Go.Proofs.YtnkejaohnhpbpaaGreatDoor
end
section
namespace Go.Proofs.YtnkejaohnhpbpaaGreatDoor
open Go Go.RowKit Lift
set_option maxRecDepth 100000 in
set_option maxHeartbeats 16000000 in
theorem BalR_in{N:Nat}{l:Lay}{b:aN}{w:World}(hbk:bV N l b w)(hcap:b.coins.length≤l.cc)(hs:b.Small)(c day:Int):CallsIn Fz 0 Tryz.prog 27 #[.agg (l.bY b),.int .i64 c,.int .i64 day] w λe w'=>e=.returned (.tuple #[.agg #[.int .i64 (b.bA c day).1,.int .i64 (b.bA c day).2.1,.int .i64 (b.bA c day).2.2.1,.int .i64 (b.bA c day).2.2.2.1],.int .i64 (b.bA c day).2.2.2.2])∧Below w.heap.size w w':=by
 have hb1:Below w.heap.size w (w.alloc (.cells (l.bY b) 27)):=(Below.refl _ w).alloc (ay _) _;have hb2:Below w.heap.size w ((w.alloc (.cells (l.bY b) 27)).alloc (.cells #[.int .i64 0,.int .i64 0,.int .i64 0,.int .i64 0] 41)):=hb1.alloc (by simp) _;have hA:=(Blk.new w (l.bY b) 27).below ((Below.refl _ _).alloc (o:=.cells #[.int .i64 0,.int .i64 0,.int .i64 0,.int .i64 0] 41) (ay _));have hX:=Blk.new (w.alloc (.cells (l.bY b) 27)) #[.int .i64 0,.int .i64 0,.int .i64 0,.int .i64 0] 41;rw[World.size_alloc]at hX;have hN1:=hbk.below (hb2.mono hbk.hN);have hck:=wU hN1 hcap (by have:=hs.1;omega) (by have:=hs.2.1;omega) (by have:=hs.2.2.1;omega) (by have:=hs.2.2.2;omega);have hnk:=hs.2.2.1;have hsc:b.coins.length<1000000:=by have:=hs.1;omega
 by_cases hf:b.eX=0
 ·rw[hf]at hck;by_cases hc:b.kD c
  ·by_cases hd:0≤day∧day≤9999
   ·rw[bA_ok (Dj hf hc hd)];have hR:=b.nP.1 hf;have hfull:=hR.full;clear hf;unfold aN.kD at hc;obtain⟨k,rfl⟩:∃k:Nat,c=k:=⟨c.toNat,by omega⟩
    rw[Int.toNat_natCast];have hk:k<b.coins.length:=by omega
    have hk':k<b.to.coins.length:=hk;have hrun:=λ{w'} (h:bV N l b w')=>MI (h.to hR) hfull hd.1 hd.2;rw[aN.Af]at hrun;have h04:0<cnt b.to 4:=Nat.lt_of_le_of_lt (Nat.zero_le _) hk';have h05:0<cnt b.to 5:=h04;have h06:0<cnt b.to 6:=h04;have h04k:k<cnt b.to 4:=hk';have h05k:k<cnt b.to 5:=hk';have h06k:k<cnt b.to 6:=hk';gi_enter Tryz.func27,Tryz.ntmps27
    gi_wp2_with (first
     |(gi_at_call 21;with_reducible refine hck.mono ?_;rintro e w2 ⟨rfl,hb3⟩;have hA2:=hA.below hb3;have hX2:=hX.below hb3;have hN2:=hN1.below (hb3.mono hN1.hN);have g0:=hA2.cell 0;have g1:=hA2.cell 1;have g2:=hA2.cell 2;have g3:=hA2.cell 3;simp at g0 g1 g2 g3;have ltg:=hA2.lt;have x0:=hX2.cell 0;have x1:=hX2.cell 1;have x2:=hX2.cell 2;have x3:=hX2.cell 3;have y0:=hX2.frozen 0;have y1:=hX2.frozen 1;have y2:=hX2.frozen 2;have y3:=hX2.frozen 3;simp at x0 x1 x2 x3;have ltx:=hX2.lt)
     |(gi_at_call 61;with_reducible refine(iG (l:=l) (b:=b) hc hsc).mono ?_;rintro e w4 ⟨rfl,hb4⟩;have hA4:=hA2.below hb4;have hX4:=hX2.below hb4;have hN4:=hN2.below (hb4.mono hN2.hN);clear g0 g1 g2 g3 ltg;clear x0 x1 x2 x3 y0 y1 y2 y3 ltx;have g0:=hA4.cell 0;have g1:=hA4.cell 1;have g2:=hA4.cell 2;have g3:=hA4.cell 3;simp at g0 g1 g2 g3;have ltg:=hA4.lt;have x0:=hX4.cell 0;have x1:=hX4.cell 1;have x2:=hX4.cell 2;have x3:=hX4.cell 3;have y0:=hX4.frozen 0;have y1:=hX4.frozen 1;have y2:=hX4.frozen 2;have y3:=hX4.frozen 3;simp at x0 x1 x2 x3;have ltx:=hX4.lt)
     |(gi_at_call 47;with_reducible refine(jU day _ hd).mono ?_;rintro e w5 ⟨rfl,rfl⟩)
     |(gi_at_call 58;with_reducible refine(hrun hN4).mono ?_;rintro e w6 ⟨R,rfl,G6,hb6⟩;have hA6:=hA4.below hb6;have hX6:=hX4.below hb6;have hN6:=hN4.below (hb6.mono hN4.hN);have HE4:=Lib.hid (G6.at_ 4 (by omega) h04);have HE5:=Lib.hid (G6.at_ 5 (by omega) h05);have HE6:=Lib.hid (G6.at_ 6 (by omega) h06);have HAT:=Lib.hid (G6.at_ 1 (by omega));have hb7:=(Below.refl w6.heap.size w6).alloc (ay _) (.cells (R.arr b.to) 102);have hR7:=Blk.new w6 (R.arr b.to) 102))
    have hlo:∀q,R.has b.to q→w5.heap.size≤q:=λq z=>G6.least z;have G7:=G6.same hb7;have hB7:=hb2.trans ((hb3.trans ((hb4.trans ((hb6.trans (hb7.mono hb6.size)).mono hb4.size)).mono hb3.size)).mono hb2.size);have hA7:=hA6.below hb7;have hX7:=hX6.below hb7;have hN7:=hN6.below (hb7.mono hN6.hN);have hfr:∀q,R.has b.to q→q≠w6.heap.size:=λq z=>Nat.ne_of_lt (G6.lt z);have hRx:w6.heap.size≠w.heap.size+1:=by have:=hX6.lt;omega
    have hX1:w.heap.size+1<w5.heap.size:=hX4.lt;simp only[RW.arr]at hb7 hR7 G7 hA7 hX7 hN7 hB7;generalize w6.alloc _=w7 at *;generalize w6.heap.size=RX at *;clear g0 g1 g2 g3 ltg;clear x0 x1 x2 x3 y0 y1 y2 y3 ltx;have hkc:b.to.cs.length=b.cs.length:=OM b;have g0:=hA7.cell 0;have g1:=hA7.cell 1;have g2:=hA7.cell 2;have g3:=hA7.cell 3;simp at g0 g1 g2 g3;have ltg:=hA7.lt;gi_loopw [10,11] (λv i wr=>∃j:Nat,j≤b.cs.length∧i=.int .i64 j∧v=.int .i64 (b.to.held (b.to.after day) k j)∧Below w7.heap.size w7 wr) (λ_ i _=>b.cs.length-(intOf i).toNat)
    case atStart=>exact⟨0,Nat.zero_le _,rfl,rfl,Below.refl _ _⟩
    case round=>
     obtain⟨j,hj,rfl,rfl,HB⟩:=hrel;clear g0 g1 g2 g3 ltg;have hA8:=hA7.below HB;have hN8:=hN7.below (HB.mono hN7.hN);have g0:=hA8.cell 0;have g1:=hA8.cell 1;have g2:=hA8.cell 2;have g3:=hA8.cell 3;simp at g0 g1 g2 g3;have ltg:=hA8.lt;by_cases hl:j<b.cs.length
     ·have hl':j<b.to.cs.length:=by rw[hkc];exact hl
      have h01:0<cnt b.to 1:=Nat.lt_of_le_of_lt (Nat.zero_le _) hl';have h01j:j<cnt b.to 1:=hl';have Ga8:=G7.same HB;have hco:=nN (hN8.to hR) hfull.v hl';rw[aN.Af]at hco;have hR8:=hR7.below HB;have r1:=hR8.cell 1;simp at r1;rw[HAT.out h01]at r1;have ltr:=hR8.lt;have s1:=Ga8.cell (j:=1) (i:=j) (by omega) h01j;have lt1:=Ga8.blt (j:=1) (i:=j) (by omega) h01j;simp only[cval]at s1;have hh:b.to.held (b.to.after day) k (j+1)=if b.to.aS j=k then wrap64 (b.to.held (b.to.after day) k j+((b.to.after day).cases j).held)else b.to.held (b.to.after day) k j:=rfl
      have hlc:j<b.to.cs.length:=hl';generalize b.to.held (b.to.after day) k j=m at *;by_cases hck:b.to.aS j=k
      ·rw[if_pos hck]at hh;have HH:=Lib.hid hh;have HC:=Lib.hid hck;rw[hck]at hco;clear hh hck
       gi_wp2_with (gi_at_call 62;with_reducible refine hco.mono ?_;rintro e w9 ⟨rfl,hb9⟩;have r1':=(hR8.below hb9).cell 1;have ltr':=(hR8.below hb9).lt;have s1':=(Ga8.same hb9).cell (j:=1) (i:=j) (by omega) h01j;have lt1':=(Ga8.same hb9).blt (j:=1) (i:=j) (by omega) h01j;simp only[cval]at s1';simp at r1';rw[HAT.out h01]at r1';clear r1 s1 lt1 ltr)
       go_roundw
       case rel=>exact⟨j+1,by omega,by go_num,by rw[HH.out],HB.trans (hb9.mono HB.size)⟩
       case measure=>simp[intOf];omega
      ·rw[if_neg hck]at hh;have HH:=Lib.hid hh;have hck':((b.to.aS j:Int)==(k:Int))=false:=beq_eq_false_iff_ne.2 (by omega);clear hh
       gi_wp2_with (gi_at_call 62;with_reducible refine hco.mono ?_;rintro e w9 ⟨rfl,hb9⟩)
       go_roundw
       case rel=>exact⟨j+1,by omega,by go_num,by rw[HH.out],HB.trans (hb9.mono HB.size)⟩
       case measure=>simp[intOf];omega
     ·obtain rfl:j=b.cs.length:=by omega
      have HFI:=Lib.hid (show b.to.cO (b.to.after day) k=b.to.held (b.to.after day) k b.cs.length from by rw[← hkc];exact if_pos hk');have Ga9:=G7.same HB;have hR9:=hR7.below HB;have hX9:=hX7.below HB;have hB9:=hB7.trans (HB.mono hB7.size);have hBX4:R.B 4≠w.heap.size+1:=λz=>by have:=hlo _ ⟨4,by omega,h04,rfl⟩;omega
      have hBX5:R.B 5≠w.heap.size+1:=λz=>by have:=hlo _ ⟨5,by omega,h04,rfl⟩;omega
      have hBX6:R.B 6≠w.heap.size+1:=λz=>by have:=hlo _ ⟨6,by omega,h04,rfl⟩;omega
      have hBl4:=Ga9.blt (j:=4) (i:=k) (by omega) h04k;have hBl5:=Ga9.blt (j:=5) (i:=k) (by omega) h05k;have hBl6:=Ga9.blt (j:=6) (i:=k) (by omega) h06k;generalize b.to.held (b.to.after day) k b.cs.length=m at *;gi_wp2;refine aY rfl mixed (by kernel_rfl) (WZ wr (w.heap.size+1) 17 #[.int .i64 0,.int .i64 0,.int .i64 0,.int .i64 0] #[.int .i64 ((b.to.after day).acc k),.int .i64 m,.int .i64 ((b.to.after day).tkn k),.int .i64 ((b.to.after day).pd k)]) [] (x₀:=λ_=>undef) (λg hg=>by cases hg) (WZ.start hX9) ?_;simp only[aF,aC,aH,Nat.reduceAdd,List.range,List.range.loop];refine aP rfl rfl ?_;apply ah;refine⟨λD x w' hm hW K Q hK=>?_,?_⟩
      ·gi_wp2;exact hW.pure (by decide)
      refine⟨_,rfl,?_⟩;refine aP rfl rfl ?_;apply ah;refine⟨λD x w' hm hW K Q hK=>?_,?_⟩
      ·have q:=hW.blk hR9 hRx;have ltq:=q.lt;have q4:=q.cell 4;simp at q4;rw[HE4.out]at q4;gi_wp2;exact hW.pure (by decide)
      iterate 2
       refine⟨_,rfl,?_⟩;refine aP rfl rfl ?_;apply ah;refine⟨λD x w' hm hW K Q hK=>?_,?_⟩
       ·gi_wp2;exact hW.pure (by decide)
      refine⟨_,rfl,?_⟩;refine aP rfl rfl ?_;apply ah;refine⟨λD x w' hm hW K Q hK=>?_,?_⟩
      ·have z:=(hW.2.1 (R.B 4) hBX4 hBl4);have s:=Ga9.cell (j:=4) (i:=k) (by omega) h04k;have lts:=aG hBl4 hW.1.size;replace s:w'.cell? ⟨R.B 4,k,none⟩=some (cval (b.to.after day) 4 k):=by(unfold World.cell? at s ⊢;rw[z];exact s)
       simp only[cval]at s;gi_wp2;exact hW.pure (by decide)
      iterate 2
       refine⟨_,rfl,?_⟩;refine aP rfl rfl ?_;apply ah;refine⟨λD x w' hm hW K Q hK=>?_,?_⟩
       ·gi_wp2;exact hW.pure (by decide)
      refine⟨_,rfl,?_⟩;refine aP rfl rfl ?_;apply ah;refine⟨λD x w' hm hW K Q hK=>?_,?_⟩
      ·have q:=hW.blk hR9 hRx;have ltq:=q.lt;have q5:=q.cell 5;simp at q5;rw[HE5.out]at q5;gi_wp2;exact hW.pure (by decide)
      iterate 2
       refine⟨_,rfl,?_⟩;refine aP rfl rfl ?_;apply ah;refine⟨λD x w' hm hW K Q hK=>?_,?_⟩
       ·gi_wp2;exact hW.pure (by decide)
      refine⟨_,rfl,?_⟩;refine aP rfl rfl ?_;apply ah;refine⟨λD x w' hm hW K Q hK=>?_,?_⟩
      ·have z:=(hW.2.1 (R.B 5) hBX5 hBl5);have s:=Ga9.cell (j:=5) (i:=k) (by omega) h05k;have lts:=aG hBl5 hW.1.size;replace s:w'.cell? ⟨R.B 5,k,none⟩=some (cval (b.to.after day) 5 k):=by(unfold World.cell? at s ⊢;rw[z];exact s)
       simp only[cval]at s;gi_wp2;exact hW.pure (by decide)
      refine⟨_,rfl,?_⟩;refine aP rfl rfl ?_;apply ah;refine⟨λD x w' hm hW K Q hK=>?_,?_⟩
      ·gi_wp2;exact hW.pure (by decide)
      refine⟨_,rfl,?_⟩;refine aP rfl rfl ?_;apply ah;refine⟨λD x w' hm hW K Q hK=>?_,?_⟩
      ·have q:=hW.blk hR9 hRx;have ltq:=q.lt;have q6:=q.cell 6;simp at q6;rw[HE6.out]at q6;gi_wp2;exact hW.pure (by decide)
      iterate 2
       refine⟨_,rfl,?_⟩;refine aP rfl rfl ?_;apply ah;refine⟨λD x w' hm hW K Q hK=>?_,?_⟩
       ·gi_wp2;exact hW.pure (by decide)
      refine⟨_,rfl,?_⟩;refine aP rfl rfl ?_;apply ah;refine⟨λD x w' hm hW K Q hK=>?_,?_⟩
      ·have z:=(hW.2.1 (R.B 6) hBX6 hBl6);have s:=Ga9.cell (j:=6) (i:=k) (by omega) h06k;have lts:=aG hBl6 hW.1.size;replace s:w'.cell? ⟨R.B 6,k,none⟩=some (cval (b.to.after day) 6 k):=by(unfold World.cell? at s ⊢;rw[z];exact s)
       simp only[cval]at s;gi_wp2;exact hW.pure (by decide)
      refine⟨_,rfl,?_⟩;refine aP rfl rfl ?_;apply ah;refine⟨λD x w' hm hW K Q hK=>?_,?_⟩
      ·gi_wp2;exact hW.pure (by decide)
      refine⟨_,rfl,?_⟩;refine jC rfl rfl rfl (λD x w' hm hW K Q hK=>?_) ?_
      ·have ds:=hm.1;have hz:=hW.2.2;rw[ds]at hz;simp only[Bool.false_eq_true,if_false]at hz;have x0:=hz.cell 0;have x1:=hz.cell 1;have x2:=hz.cell 2;have x3:=hz.cell 3;have y0:=hz.frozen 0;have y1:=hz.frozen 1;have y2:=hz.frozen 2;have y3:=hz.frozen 3;simp at x0 x1 x2 x3;have ltx:=hz.lt;have hst:WZ wr (w.heap.size+1) 17 #[.int .i64 0,.int .i64 0,.int .i64 0,.int .i64 0] #[.int .i64 ((b.to.after day).acc k),.int .i64 m,.int .i64 ((b.to.after day).tkn k),.int .i64 ((b.to.after day).pd k)] (aJ D 17) x ((((w'.setCell ⟨w.heap.size+1,0,none⟩ (.int .i64 ((b.to.after day).acc k))).setCell ⟨w.heap.size+1,1,none⟩ (.int .i64 m)).setCell ⟨w.heap.size+1,2,none⟩ (.int .i64 ((b.to.after day).tkn k))).setCell ⟨w.heap.size+1,3,none⟩ (.int .i64 ((b.to.after day).pd k))):=by
        refine⟨(((hW.1.setCell (p:=⟨w.heap.size+1,0,none⟩) (ay _) _).setCell (p:=⟨w.heap.size+1,1,none⟩) (ay _) _).setCell (p:=⟨w.heap.size+1,2,none⟩) (ay _) _).setCell (p:=⟨w.heap.size+1,3,none⟩) (ay _) _,λq hq hl=>?_,?_⟩
        ·rw[Below.heap_setCell _ _ _ q (by simpa using hq),Below.heap_setCell _ _ _ q (by simpa using hq),Below.heap_setCell _ _ _ q (by simpa using hq),Below.heap_setCell _ _ _ q (by simpa using hq)];exact hW.2.1 q hq hl
        ·rw[eF,if_pos rfl];have:=(((hz.put 0 (.int .i64 ((b.to.after day).acc k))).put 1 (.int .i64 m)).put 2 (.int .i64 ((b.to.after day).tkn k))).put 3 (.int .i64 ((b.to.after day).pd k));simpa only[aj,au,ak]using this
       gi_wp2
       all_goals exact hst
      refine aP rfl rfl ?_;apply ah;refine⟨λD x w' hm hW K Q hK=>?_,?_⟩
      ·gi_wp2;exact hW.pure (by decide)
      refine⟨_,rfl,?_⟩;rintro x w9 hW;have hF:=hW.2.2;simp only[Nat.reduceLT,decide_true,if_true]at hF;simp only[Lift.Act.bK,List.foldl_cons,List.foldl_nil,aj,au,ak];gi_wp2
      (try simp only[Exit.inBlock,Exit.then])
      refine bodyPost_ret (v:=.tuple #[.agg #[.int .i64 ((b.to.after day).acc k),.int .i64 m,.int .i64 ((b.to.after day).tkn k),.int .i64 ((b.to.after day).pd k)],.int .i64 0]) ?_ rfl ⟨by rw[HFI.out],hB9.trans (hW.1.mono (by omega))⟩;rw[results_cell_tmp rfl];simp[asAddr,Result.andThen,wG hF]
   ·rw[Jr (by rw[uJ hf hc hd];decide),uJ hf hc hd];clear hf;unfold aN.kD at hc;gi_enter Tryz.func27,Tryz.ntmps27
    gi_wp2_with (first
     |(gi_at_call 21;with_reducible refine hck.mono ?_;rintro e w2 ⟨rfl,hb3⟩;have hA2:=hA.below hb3;have hX2:=hX.below hb3;have hN2:=hN1.below (hb3.mono hN1.hN);have g0:=hA2.cell 0;have g1:=hA2.cell 1;have g2:=hA2.cell 2;have g3:=hA2.cell 3;simp at g0 g1 g2 g3;have ltg:=hA2.lt;have x0:=hX2.cell 0;have x1:=hX2.cell 1;have x2:=hX2.cell 2;have x3:=hX2.cell 3;have y0:=hX2.frozen 0;have y1:=hX2.frozen 1;have y2:=hX2.frozen 2;have y3:=hX2.frozen 3;simp at x0 x1 x2 x3;have ltx:=hX2.lt)
     |(gi_at_call 61;with_reducible refine(iG (l:=l) (b:=b) hc hsc).mono ?_;rintro e w4 ⟨rfl,hb4⟩;have hA4:=hA2.below hb4;have hX4:=hX2.below hb4;have hN4:=hN2.below (hb4.mono hN2.hN);clear g0 g1 g2 g3 ltg;clear x0 x1 x2 x3 y0 y1 y2 y3 ltx;have g0:=hA4.cell 0;have g1:=hA4.cell 1;have g2:=hA4.cell 2;have g3:=hA4.cell 3;simp at g0 g1 g2 g3;have ltg:=hA4.lt;have x0:=hX4.cell 0;have x1:=hX4.cell 1;have x2:=hX4.cell 2;have x3:=hX4.cell 3;have y0:=hX4.frozen 0;have y1:=hX4.frozen 1;have y2:=hX4.frozen 2;have y3:=hX4.frozen 3;simp at x0 x1 x2 x3;have ltx:=hX4.lt)
     |(gi_at_call 47;with_reducible refine(I8 day _ hd).mono ?_;rintro e w5 ⟨rfl,rfl⟩))
    have hF:=(((hX4.put 0 (.int .i64 0)).put 1 (.int .i64 0)).put 2 (.int .i64 0)).put 3 (.int .i64 0);simp only[aj,au,ak]at hF;have hB4:=(hb2.trans ((hb3.trans (hb4.mono hb3.size)).mono hb2.size))
    (try simp only[Exit.inBlock,Exit.then])
    refine bodyPost_ret (v:=.tuple #[.agg #[.int .i64 0,.int .i64 0,.int .i64 0,.int .i64 0],.int .i64 1]) ?_ rfl ⟨rfl,(((hB4.setCell (p:=⟨w.heap.size+1,0,none⟩) (by simp) _).setCell (p:=⟨w.heap.size+1,1,none⟩) (by simp) _).setCell (p:=⟨w.heap.size+1,2,none⟩) (by simp) _).setCell (p:=⟨w.heap.size+1,3,none⟩) (by simp) _⟩;rw[results_cell_tmp rfl];simp[asAddr,Result.andThen,wG hF]
  ·rw[Jr (by rw[yB hf hc];decide),yB hf hc];clear hf;unfold aN.kD at hc;gi_enter Tryz.func27,Tryz.ntmps27
   gi_wp2_with (first
    |(gi_at_call 21;with_reducible refine hck.mono ?_;rintro e w2 ⟨rfl,hb3⟩;have hA2:=hA.below hb3;have hX2:=hX.below hb3;have hN2:=hN1.below (hb3.mono hN1.hN);have g0:=hA2.cell 0;have g1:=hA2.cell 1;have g2:=hA2.cell 2;have g3:=hA2.cell 3;simp at g0 g1 g2 g3;have ltg:=hA2.lt;have x0:=hX2.cell 0;have x1:=hX2.cell 1;have x2:=hX2.cell 2;have x3:=hX2.cell 3;have y0:=hX2.frozen 0;have y1:=hX2.frozen 1;have y2:=hX2.frozen 2;have y3:=hX2.frozen 3;simp at x0 x1 x2 x3;have ltx:=hX2.lt)
    |(gi_at_call 61;with_reducible refine(wE (l:=l) (b:=b) hc hsc).mono ?_;rintro e w4 ⟨rfl,hb4⟩;have hX4:=hX2.below hb4;clear g0 g1 g2 g3 ltg;clear x0 x1 x2 x3 y0 y1 y2 y3 ltx;have x0:=hX4.cell 0;have x1:=hX4.cell 1;have x2:=hX4.cell 2;have x3:=hX4.cell 3;have y0:=hX4.frozen 0;have y1:=hX4.frozen 1;have y2:=hX4.frozen 2;have y3:=hX4.frozen 3;simp at x0 x1 x2 x3;have ltx:=hX4.lt))
   have hF:=(((hX4.put 0 (.int .i64 0)).put 1 (.int .i64 0)).put 2 (.int .i64 0)).put 3 (.int .i64 0);simp only[aj,au,ak]at hF;have hB4:=(hb2.trans ((hb3.trans (hb4.mono hb3.size)).mono hb2.size))
   (try simp only[Exit.inBlock,Exit.then])
   refine bodyPost_ret (v:=.tuple #[.agg #[.int .i64 0,.int .i64 0,.int .i64 0,.int .i64 0],.int .i64 6]) ?_ rfl ⟨rfl,(((hB4.setCell (p:=⟨w.heap.size+1,0,none⟩) (by simp) _).setCell (p:=⟨w.heap.size+1,1,none⟩) (by simp) _).setCell (p:=⟨w.heap.size+1,2,none⟩) (by simp) _).setCell (p:=⟨w.heap.size+1,3,none⟩) (by simp) _⟩;rw[results_cell_tmp rfl];simp[asAddr,Result.andThen,wG hF]
 ·rw[Jr (by rw[nI hf];exact hf),nI hf];generalize b.eX=f at hck hf ⊢;gi_enter Tryz.func27,Tryz.ntmps27
  gi_wp2_with (first
   |(gi_at_call 21;with_reducible refine hck.mono ?_;rintro e w2 ⟨rfl,hb3⟩;have hA2:=hA.below hb3;have hX2:=hX.below hb3;have hN2:=hN1.below (hb3.mono hN1.hN);have g0:=hA2.cell 0;have g1:=hA2.cell 1;have g2:=hA2.cell 2;have g3:=hA2.cell 3;simp at g0 g1 g2 g3;have ltg:=hA2.lt;have x0:=hX2.cell 0;have x1:=hX2.cell 1;have x2:=hX2.cell 2;have x3:=hX2.cell 3;have y0:=hX2.frozen 0;have y1:=hX2.frozen 1;have y2:=hX2.frozen 2;have y3:=hX2.frozen 3;simp at x0 x1 x2 x3;have ltx:=hX2.lt))
  have hF:=(((hX2.put 0 (.int .i64 0)).put 1 (.int .i64 0)).put 2 (.int .i64 0)).put 3 (.int .i64 0);simp only[aj,au,ak]at hF;have hB4:=(hb2.trans (hb3.mono hb2.size))
  (try simp only[Exit.inBlock,Exit.then])
  refine bodyPost_ret (v:=.tuple #[.agg #[.int .i64 0,.int .i64 0,.int .i64 0,.int .i64 0],.int .i64 f]) ?_ rfl ⟨rfl,(((hB4.setCell (p:=⟨w.heap.size+1,0,none⟩) (by simp) _).setCell (p:=⟨w.heap.size+1,1,none⟩) (by simp) _).setCell (p:=⟨w.heap.size+1,2,none⟩) (by simp) _).setCell (p:=⟨w.heap.size+1,3,none⟩) (by simp) _⟩;rw[results_cell_tmp rfl];simp[asAddr,Result.andThen,wG hF]
end Go.Proofs.YtnkejaohnhpbpaaGreatDoor
end
section
namespace Go.Proofs.YtnkejaohnhpbpaaGreatDoor
open Go Go.RowKit Lift
set_option maxRecDepth 100000 in
set_option maxHeartbeats 16000000 in
theorem JV{N:Nat}{l:Lay}{b:aN}{w:World}(hbk:bV N l b w)(hcap:b.coins.length≤l.cc)(hs:b.Small):CallsIn Fz 0 Tryz.prog 29 #[.agg (l.bY b)] w λe w'=>∃v,e=.returned (.tuple #[v,.int .i64 b.eX])∧w'.ownsRow w.heap.size 3 1 v b.vR.length (b.vR.map (Value.int .i64))∧Below w.heap.size w w':=by
 have hb1:Below w.heap.size w (w.alloc (.cells (l.bY b) 27)):=(Below.refl _ w).alloc (ay _) _;have hA:=Blk.new w (l.bY b) 27;have hN1:=hbk.below (hb1.mono hbk.hN);have hck:=wU hN1 hcap (by have:=hs.1;omega) (by have:=hs.2.1;omega) (by have:=hs.2.2.1;omega) (by have:=hs.2.2.2;omega);have hps:=hs.2.2.2;by_cases hf:b.eX=0
 ·rw[hf]at hck ⊢;rw[OV hf];have hR:=b.nP.1 hf;have hfull:=hR.full;clear hf;have hrun:=λ{w'} (h:bV N l b w')=>MI (h.to hR) hfull (n:=9999) (by decide) (by decide);rw[aN.Af]at hrun;gi_enter Tryz.func29,Tryz.ntmps29
  gi_wp2_with (first
   |(gi_at_call 21;with_reducible refine hck.mono ?_;rintro e w2 ⟨rfl,hb3⟩;have hA2:=hA.below hb3;have hN2:=hN1.below (hb3.mono hN1.hN);have g0:=hA2.cell 0;have g1:=hA2.cell 1;have g2:=hA2.cell 2;have g3:=hA2.cell 3;simp at g0 g1 g2 g3;have ltg:=hA2.lt)
   |(gi_at_call 58;with_reducible refine(hrun hN2).mono ?_;rintro e w6 ⟨R,rfl,G6,hb6⟩;have HE7:=Lib.hid (G6.at_ 7 (by omega));have hb7:=(Below.refl w6.heap.size w6).alloc (ay _) (.cells (R.arr b.to) 102);have hR7:=Blk.new w6 (R.arr b.to) 102))
  have G7:=G6.same hb7;have hB7:=hb1.trans ((hb3.trans ((hb6.trans (hb7.mono hb6.size)).mono hb3.size)).mono hb1.size);simp only[RW.arr]at hb7 hR7 G7 hB7;generalize w6.alloc _=w7 at *;generalize w6.heap.size=RX at *;have hpc:b.to.ps.length=b.ps.length:=Ad b;clear g0 g1 g2 g3 ltg;obtain⟨i0,hi0,hz0,hz1,hz2⟩:=info_parts Tryz.pR;gi_loopw [6,7] (λv i wr=>∃k:Nat,k≤b.ps.length∧i=.int .i64 k∧wr.ownsRow w7.heap.size 3 1 v (iQ (b.to.after 9999).voids k).length ((iQ (b.to.after 9999).voids k).map (Value.int .i64))∧Below w7.heap.size w7 wr) (λ_ i _=>b.ps.length-(intOf i).toNat)
  case atStart=>exact⟨0,Nat.zero_le _,rfl,World.ownsRow_nil _ _ _ _,Below.refl _ _⟩
  case round=>
   obtain⟨k,hk,rfl,hrow,HB⟩:=hrel;have hsz:=HB.size;have hR8:=hR7.below HB;have r7:=hR8.cell 7;simp at r7;have ltr:=hR8.lt;by_cases hl:k<b.ps.length
   ·have hlp:k<b.to.ps.length:=by rw[hpc];exact hl
    have h07k:k<cnt b.to 7:=hlp;have h07:0<cnt b.to 7:=Nat.lt_of_le_of_lt (Nat.zero_le _) h07k;rw[HE7.out h07]at r7;have Ga8:=G7.same HB;have s:=Ga8.cell (j:=7) (i:=k) (by omega) h07k;have lts:=Ga8.blt (j:=7) (i:=k) (by omega) h07k;simp only[cval]at s;have hL:=pI (b.to.after 9999).voids k;by_cases q:(k:Int)∈(b.to.after 9999).voids
    ·have HV:=Lib.hid (show iQ (b.to.after 9999).voids (k+1)=iQ (b.to.after 9999).voids k++[(k:Int)]from by rw[iQ,if_pos q]);rw[decide_eq_true q]at s;clear q;generalize iQ (b.to.after 9999).voids k=L at *;have cn:=cell_one_new wr
     gi_wp2_with (gi_at_builtin;refine wpListIn_append_own _ rfl _ _ 44 rfl w7.heap.size 3 i0 (.int .i64 0) 1 8 Tryz.underlying44 hi0 hz0 hz1 hz2 rfl (by decide) _ _ _ rfl (hrow.alloc _) ⟨wr.heap.size,0,none⟩ 1 1 [.int .i64 k] rfl rfl (cn _ _) (by simp[Value.oneCell']) (by unfold maxLen;omega) (by omega) (by simp;omega) ?_;intro v' w3 hown' hg3 _;go_frame)
     go_roundw
     case rel=>
      refine⟨k+1,by omega,by go_num,?_,?_⟩
      ·rw[HV.out,List.length_append,List.map_append];exact hown'
      ·exact(HB.alloc hsz _).grown hg3 (by simp;omega) (λj hj=>(hrow.lt j hj).1)
     case measure=>simp[intOf];omega
    ·have HV:=Lib.hid (show iQ (b.to.after 9999).voids (k+1)=iQ (b.to.after 9999).voids k from by rw[iQ,if_neg q]);rw[decide_eq_false q]at s;clear q;gi_wp2;go_roundw
     case rel=>exact⟨k+1,by omega,by go_num,by rw[HV.out];exact hrow,HB⟩
     case measure=>simp[intOf];omega
   ·obtain rfl:k=b.ps.length:=by omega
    gi_wp2
    (try simp only[Exit.inBlock,Exit.then])
    refine bodyPost_ret (results_tmp2 rfl _ _ _) rfl ?_;exact⟨_,rfl,nZ hrow hB7.size,hB7.trans (HB.mono hB7.size)⟩
 ·rw[OU hf];generalize b.eX=f at hck hf ⊢;gi_enter Tryz.func29,Tryz.ntmps29
  gi_wp2_with (gi_at_call 21;with_reducible refine hck.mono ?_;rintro e w2 ⟨rfl,hb3⟩;have hA2:=hA.below hb3;have hN2:=hN1.below (hb3.mono hN1.hN);have g0:=hA2.cell 0;have g1:=hA2.cell 1;have g2:=hA2.cell 2;have g3:=hA2.cell 3;simp at g0 g1 g2 g3;have ltg:=hA2.lt)
  (try simp only[Exit.inBlock,Exit.then])
  refine bodyPost_ret (results_tmp2 rfl _ _ _) rfl ?_;exact⟨_,rfl,World.ownsRow_nil _ _ _ _,hb1.trans (hb3.mono hb1.size)⟩
end Go.Proofs.YtnkejaohnhpbpaaGreatDoor
end
section
namespace Go.Proofs.YtnkejaohnhpbpaaGreatDoor
open Go Go.RowKit Lift
theorem neq41(w:World)(a0 a1 a2 a3:Int):(binOp .neq 41 (.agg #[.int .i64 a0,.int .i64 a1,.int .i64 a2,.int .i64 a3]) (.agg #[.int .i64 a0,.int .i64 a1,.int .i64 a2,.int .i64 a3])).run Tryz.prog w=.ok (.bool false) w:=by
 have u3:=Tryz.underlying3;have a3':=Tryz.isAgg3;have z3:=Tryz.sizeOf3;have hS:Tryz.prog.underlying 41=some (.struct (Tryz.prog.fieldsOf 41)):=by kernel_rfl
 have hp:Tryz.prog.stoodInHeld 41=false:=by kernel_rfl
 rw[run_neq_struct,show(10000:Nat)=9999+1 from rfl,run_equalIn_agg w 9999 41 _ _ hS hp];simp only[Program.fieldsOf,Tryz.underlying41]
 go_simp
theorem KN(base:Option Addr)(n cap:Nat)(x:Int)(hn:n≤1000){ib:Bool}(h:decide (0≤x∧x<n)=ib)(w:World):CallsIn Fz 0 Tryz.prog 59 #[.slice base n cap,.int .i64 x] w λe w'=>e=.returned (.bool ib)∧w'=w:=by
 by_cases q:0≤x∧x<n
 ·rw[decide_eq_true q]at h;subst h;exact fZ base n cap x hn w q
 ·rw[decide_eq_false q]at h;subst h;exact wB base n cap x hn w q
set_option maxHeartbeats 8000000 in
theorem Gz{N:Nat}{l:Lay}{b:aN}{w:World}(hbk:bV N l b w)(hs:b.Small){c day:Int}(hF:¬b.ji (b.kD c) day=0):CallsIn Fz 0 Tryz.prog 26 #[.agg (l.bY b),.int .i64 c,.int .i64 day] w λe w'=>e=.returned (.tuple #[.agg #[.int .i64 0,.int .i64 0,.int .i64 0,.int .i64 0],.int .i64 (b.ji (b.kD c) day)])∧Below w.heap.size w w':=by
 have hb1:Below w.heap.size w (w.alloc (.cells (l.bY b) 27)):=(Below.refl _ w).alloc (ay _) _;have hb2:Below w.heap.size w ((w.alloc (.cells (l.bY b) 27)).alloc (.cells #[.int .i64 0,.int .i64 0,.int .i64 0,.int .i64 0] 41)):=hb1.alloc (by simp) _;have hA1:=(Blk.new w (l.bY b) 27).below ((Below.refl _ _).alloc (o:=.cells #[.int .i64 0,.int .i64 0,.int .i64 0,.int .i64 0] 41) (ay _));have hX:=Blk.new (w.alloc (.cells (l.bY b) 27)) #[.int .i64 0,.int .i64 0,.int .i64 0,.int .i64 0] 41;rw[World.size_alloc]at hX;obtain⟨ib,hib⟩:∃ib,decide (0≤c∧c<b.coins.length)=ib:=⟨_,rfl⟩
 have hiff:ib=true↔b.kD c:=by rw[← hib];exact decide_eq_true_iff
 have hidx:=λw'=>KN l.cb b.coins.length l.cc c (by have:=hs.1;omega) hib w';rw[← GU hiff]at hF ⊢;have hasked:=λw' (h:Below w.heap.size w w')=>Ew (hbk.topR.below h) hs hF;generalize b.ji (ib=true) day=F at *;clear hib hiff;unfold Lay.bY at *;gi_enter Tryz.func26,Tryz.ntmps26
 gi_wp2;generalize (w.alloc _).alloc _=W at *;refine eP rfl mixed (by kernel_rfl) (WB W 10 11 iT) 8 (x₀:=undef) rfl ⟨(show Below W.heap.size W { W with drawn:=W.drawn+1 }from⟨rfl,rfl,rfl,ay _,λ_ _=>rfl⟩),λh=>by cases h⟩ ?_;simp only[aF,aC,aH,Nat.reduceAdd,Nat.zero_add,List.range,List.range.loop]
 iterate 2
  refine bg rfl (λ_=>rfl) (by decide) rfl ?_;apply ah;refine⟨λD x w' hm hW K Q hK=>?_,?_⟩
  ·have q:=hA1.below hW.1;have q0:=q.cell 0;have q1:=q.cell 1;have q2:=q.cell 2;have q3:=q.cell 3;simp at q0 q1 q2 q3;simp only[Lift.Act.bM,aj,au,ak];gi_wp2;exact hW.step (by decide) (by decide) (Below.refl _ _)
  apply ah;refine⟨λx=>rfl,?_⟩;refine bg rfl (λ_=>rfl) (by decide) rfl ?_;apply ah;refine⟨λD x w' hm hW K Q hK=>?_,?_⟩
  ·simp only[Lift.Act.bM,aj,au,ak];gi_wp2;exact hW.step (by decide) (by decide) (Below.refl _ _)
  apply ah;refine⟨λx=>rfl,?_⟩
 refine bg rfl (λ_=>rfl) (by decide) rfl ?_;apply ah;refine⟨λD x w' hm hW K Q hK=>?_,?_⟩
 ·simp only[Lift.Act.bM,aj,au,ak]
  gi_wp2_with (gi_at_call 59;refine(hidx _).mono ?_;rintro e w3 ⟨rfl,rfl⟩)
  exact hW.step (by decide) (by decide) (Below.refl _ _)
 apply ah;refine⟨λx=>rfl,?_⟩;refine bg rfl (λ_=>rfl) (by decide) rfl ?_;apply ah;refine⟨λD x w' hm hW K Q hK=>?_,?_⟩
 ·simp only[Lift.Act.bM,aj,au,ak];gi_wp2;exact hW.step (by decide) (by decide) (Below.refl _ _)
 apply ah;refine⟨λx=>rfl,?_⟩;refine bg rfl (λ_=>rfl) (by decide) rfl ?_;apply ah;refine⟨λD x w' hm hW K Q hK=>?_,?_⟩
 ·simp only[Lift.Act.bM,aj,au,ak]
  gi_wp2_with (gi_at_call 43;refine(hasked _ (hb2.trans (hW.1.mono hb2.size))).mono ?_;rintro e w3 ⟨rfl,hb⟩)
  exact hW.step (by decide) (by decide) hb
 iterate 3
  apply ah;refine⟨λx=>rfl,?_⟩;refine bg rfl (λ_=>rfl) (by decide) rfl ?_;apply ah;refine⟨λD x w' hm hW K Q hK=>?_,?_⟩
  ·simp only[Lift.Act.bM,aj,au,ak];gi_wp2;exact hW.step (by decide) (by decide) (Below.refl _ _)
 apply ah;refine⟨λx=>rfl,?_⟩;refine uU rfl (λ_=>rfl) rfl rfl (λD x w' hm hW K Q hK=>lg _ _ _ _ (hK _ _ (WB.make hm (by kernel_rfl) hW))) ?_;refine jR rfl (λ_=>rfl) rfl (λD x w' hm hW K Q hK=>?_) ?_
 ·obtain⟨B,rfl,hB0,hBz,hBk⟩:=WB.store hm (by kernel_rfl) hW;have z0:=hBz.cell 0;have z1:=hBz.cell 1;have z2:=hBz.cell 2;have z3:=hBz.cell 3;have y0:=hBz.frozen 0;have y1:=hBz.frozen 1;have y2:=hBz.frozen 2;have y3:=hBz.frozen 3;simp[iT]at z0 z1 z2 z3;simp only[Lift.Act.bM,aj,au,ak]at hK ⊢;gi_wp2;refine hBk _ ?_ ?_
  ·have:=(((hBz.put 0 (.slice none 0 0)).put 1 (.slice none 0 0)).put 2 (.slice none 0 0)).put 3 (.slice none 0 0);simpa only[iT,aj,au,ak]using this
  ·exact(((hW.1.setCell (p:=⟨B,0,none⟩) hB0 _).setCell (p:=⟨B,1,none⟩) hB0 _).setCell (p:=⟨B,2,none⟩) hB0 _).setCell (p:=⟨B,3,none⟩) hB0 _
 refine bg rfl (λ_=>rfl) (by decide) rfl ?_;apply ah;refine⟨λD x w' hm hW K Q hK=>?_,?_⟩
 ·simp only[Lift.Act.bM,aj,au,ak];gi_wp2;exact hW.step (by decide) (by decide) (Below.refl _ _)
 apply ah;refine⟨λx=>rfl,?_⟩;rintro x w2 ⟨hb3,hx⟩;have hX2:=hX.below hb3;have x0:=hX2.cell 0;have x1:=hX2.cell 1;have x2:=hX2.cell 2;have x3:=hX2.cell 3;have y0:=hX2.frozen 0;have y1:=hX2.frozen 1;have y2:=hX2.frozen 2;have y3:=hX2.frozen 3;simp at x0 x1 x2 x3;have ltx:=hX2.lt;simp only[Lift.Act.bM,aj,au,ak];gi_wp2;have hF2:=(((hX2.put 0 (.int .i64 0)).put 1 (.int .i64 0)).put 2 (.int .i64 0)).put 3 (.int .i64 0);simp only[aj,au,ak]at hF2;have hB4:=hb2.trans (hb3.mono hb2.size)
 (try simp only[Exit.inBlock,Exit.then])
 refine bodyPost_ret (v:=.tuple #[.agg #[.int .i64 0,.int .i64 0,.int .i64 0,.int .i64 0],.int .i64 F]) ?_ rfl ⟨rfl,(((hB4.setCell (p:=⟨w.heap.size+1,0,none⟩) (by simp) _).setCell (p:=⟨w.heap.size+1,1,none⟩) (by simp) _).setCell (p:=⟨w.heap.size+1,2,none⟩) (by simp) _).setCell (p:=⟨w.heap.size+1,3,none⟩) (by simp) _⟩;rw[results_cell_tmp rfl];simp[asAddr,Result.andThen,wG hF2]
theorem Gy[Keep]{N:Nat}{l:Lay}{b:aN}{w:World}(hbk:bV N l b w)(hs:b.Small){S:Blks}(hkd:bT w)(hlim:Keep.lim≤w.heap.size)(c day:Int) :
  CallsR Tryz.prog Inside 26 #[.agg (l.bY b),.int .i64 c,.int .i64 day] w S λv w' S'=>v=.tuple #[.agg #[.int .i64 (b.bA c day).1,.int .i64 (b.bA c day).2.1,.int .i64 (b.bA c day).2.2.1,.int .i64 (b.bA c day).2.2.2.1],.int .i64 (b.bA c day).2.2.2.2]∧fD w.heap.size w S w' S':=by
 by_cases hF:b.ji (b.kD c) day=0
 ·obtain⟨hf,hc,hd⟩:=JZ.1 hF;have hR:=b.nP.1 hf;rw[bA_ok hF];unfold aN.kD at hc;obtain⟨k,rfl⟩:∃k:Nat,c=k:=⟨c.toNat,by omega⟩
  have hk':k<b.to.coins.length:=by show k<b.coins.length;omega
  rw[Int.toNat_natCast,← aN.Af];exact vX (hbk.to hR) hR.full hkd hlim hk' hd.1 hd.2
 ·rw[Jr hF];refine(uO fit (R:=λv w'=>v=.tuple #[.agg #[.int .i64 0,.int .i64 0,.int .i64 0,.int .i64 0],.int .i64 (b.ji (b.kD c) day)]∧Grow w.heap.size w w') λτ d=>?_).mono ?_
  ·refine(Gz (hbk.grow (w':=bJ w τ d) ⟨rfl,rfl,ay _,λ_ _=>rfl⟩) hs hF).mono ?_;rintro e w' ⟨rfl,hb⟩;exact⟨_,rfl,rfl,Grow.bJ hb⟩
  ·rintro v w' S' ⟨rfl,rfl,hg⟩;exact⟨rfl,hg.s⟩
set_option maxHeartbeats 8000000 in
theorem MJ{N:Nat}{l:Lay}{b:aN}{w:World}(hbk:bV N l b w)(hs:b.Small)(hf:¬b.eX=0):CallsIn Fz 0 Tryz.prog 28 #[.agg (l.bY b)] w λe w'=>e=.returned (.tuple #[.slice none 0 0,.int .i64 b.eX])∧Below w.heap.size w w':=by
 have hb1:Below w.heap.size w (w.alloc (.cells (l.bY b) 27)):=(Below.refl _ w).alloc (ay _) _;have hA1:=Blk.new w (l.bY b) 27;have hq:b.ji (true=true) 0=b.eX:=nI hf;have hasked:∀w',Below w.heap.size w w'→CallsIn Fz 0 Tryz.prog 43 #[.agg (l.bY b),.bool true,.int .i64 0] w' λe w''=>e=.returned (.tuple #[.agg #[.slice none 0 0,.slice none 0 0,.slice none 0 0,.slice none 0 0],.int .i64 b.eX])∧Below w'.heap.size w' w'':=λw' h=>by
  have k:=Ew (is:=true) (day:=0) (hbk.topR.below h) hs (by rw[hq];exact hf);rw[hq]at k;exact k
 clear hq;generalize b.eX=f at *;unfold Lay.bY at *;have a0:=hA1.cell 0;have a1:=hA1.cell 1;have a2:=hA1.cell 2;have a3:=hA1.cell 3;simp at a0 a1 a2 a3;gi_enter Tryz.func28,Tryz.ntmps28
 gi_wp2_with (gi_at_call 43;with_reducible refine(hasked _ hb1).mono ?_;rintro e w2 ⟨rfl,hb2⟩)
 (try simp only[Exit.inBlock,Exit.then])
 refine bodyPost_ret (results_tmp2 rfl _ _ _) rfl ?_;have HB:=hb1.trans (hb2.mono hb1.size);have hsz:=HB.size;exact⟨rfl,HB.alloc hsz _⟩
theorem JW{N:Nat}{l:Lay}{b:aN}{w:World}(hbk:bV N l b w)(hs:b.Small)(hkd:bT w):CallsIn Fz 0 Tryz.prog 28 #[.agg (l.bY b)] w λe w'=>∃v,e=.returned (.tuple #[v,.int .i64 b.eX])∧w'.ownsRow w.heap.size 3 1 v b.vR.length (b.vR.map (Value.int .i64))∧Below w.heap.size w w':=by
 by_cases hf:b.eX=0
 ·have hR:=b.nP.1 hf;have hV:=L8 hR.full.v;have hl:(b.to.after 9999).voids.length<20:=by have h1:=hV.len;have h2:=hR.np;rw[Ad]at h1;omega
  have h:=Ep (hbk.to hR) hR.full hkd hl;rw[aN.Af]at h;rw[hf,OV hf,← Ad,Ji hV,← (uz (b.to.after 9999).voids).length_eq];exact h
 ·rw[OU hf];exact(MJ hbk hs hf).mono λe w' ⟨h1,h2⟩=>⟨_,h1,World.ownsRow_nil _ _ _ _,h2⟩
end Go.Proofs.YtnkejaohnhpbpaaGreatDoor
end
