/- Great: whether a book is too great for the specification: inside the fence. PRINTED BY A PROGRAM (m1.py). -/
import Derived.Test.YtnkejaohnhpbpaaGreatDoorA15
set_option linter.all false
namespace Go.Proofs.YtnkejaohnhpbpaaGreatDoor
section
open Go Go.RowKit Lift
def O8(b:aP)(e:Ending):Prop:=∃r:Bool,e=.returned (.bool r)∧(r=false→b.Small)
set_option maxHeartbeats 8000000 in
theorem RH{N:Nat}{l:Lay}{b:aP}{w:World}(hbk:bU N l b w) :
  CallsIn Fz 0 Tryz.prog 16 #[.agg (l.cu b)] w λe w'=>O8 b e∧Below w.heap.size w w':=by
 have hb1:Below w.heap.size w (w.alloc (.cells (l.cu b) 27)):=(Below.refl _ w).alloc (ay _) _;have hA:=Blk.new w (l.cu b) 27;have hN1:=hbk.below (hb1.mono hbk.hN);by_cases q1:b.aJ.length≤20
 ·by_cases q2:b.ts.length≤20
  ·by_cases q3:b.cs.length≤20
   ·by_cases q4:b.ps.length≤40
    ·have r1:¬((20:Int)<b.aJ.length):=by omega
     have r2:¬((20:Int)<b.ts.length):=by omega
     have r3:¬((20:Int)<b.cs.length):=by omega
     have r4:¬((40:Int)<b.ps.length):=by omega
     gi_enter Tryz.func16,Tryz.ntmps16
     gi_wp2;generalize w.alloc _=W at *;have hlt:=hA.lt;have a0:=hA.cell 0;have a1:=hA.cell 1;have a2:=hA.cell 2;have a3:=hA.cell 3;simp at a0 a1 a2 a3;gi_loopw [3] (λi wr=>W=wr∧∃k:Nat,k≤b.aJ.length∧i=.int .i64 k) (λi _=>b.aJ.length-(intOf i).toNat)
     case atStart=>exact⟨rfl,0,Nat.zero_le _,rfl⟩
     case round=>
      obtain⟨rfl,k,hk,rfl⟩:=hrel;by_cases hl:k<b.aJ.length
      ·obtain⟨cb,co,e1,e2,e3⟩:=hN1.cs k [.string b.aJ[k]] (by simp[hl]);have c0:=e3 0 _ rfl;simp only[Nat.mul_one,Nat.add_zero]at c0;have hcl:cb<W.heap.size:=aA e2 hN1.hN;rw[e1]at a0;obtain⟨nm,hnm⟩:∃nm,nm=b.aJ[k]:=⟨_,rfl⟩
       rw[← hnm]at c0;clear hnm e3;by_cases hg:100<nm.size
       ·have hg':(100:Int)<nm.size:=by omega
        gi_wp2;go_ret;exact⟨⟨true,rfl,λh=>by cases h⟩,hb1⟩
       ·have hg':¬((100:Int)<nm.size):=by omega
        gi_wp2;go_roundw
        case rel=>exact⟨by trivial,k+1,by omega,by go_num⟩
        case measure=>simp[intOf];omega
      ·obtain rfl:k=b.aJ.length:=by omega
       gi_wp2;gi_loopw [4] (λi wr=>W=wr∧∃k:Nat,k≤b.ts.length∧i=.int .i64 k) (λi _=>b.ts.length-(intOf i).toNat)
       case atStart=>exact⟨rfl,0,Nat.zero_le _,rfl⟩
       case round=>
        obtain⟨rfl,k,hk,rfl⟩:=hrel;by_cases hl:k<b.ts.length
        ·obtain⟨cb,co,e1,e2,e3⟩:=hN1.ts k b.ts[k].row (by simp[hl]);have c0:=e3 0 _ rfl;simp only[Nat.add_zero]at c0;have hcl:cb<W.heap.size:=aA e2 hN1.hN;rw[e1]at a1;obtain⟨nm,hnm⟩:∃nm,nm=b.ts[k].name:=⟨_,rfl⟩
         rw[← hnm]at c0;clear hnm e3;by_cases hg:100<nm.size
         ·have hg':(100:Int)<nm.size:=by omega
          gi_wp2;go_ret;exact⟨⟨true,rfl,λh=>by cases h⟩,hb1⟩
         ·have hg':¬((100:Int)<nm.size):=by omega
          gi_wp2;go_roundw
          case rel=>exact⟨by trivial,k+1,by omega,by go_num⟩
          case measure=>simp[intOf];omega
        ·obtain rfl:k=b.ts.length:=by omega
         gi_wp2;gi_loopw [5] (λi wr=>W=wr∧∃k:Nat,k≤b.cs.length∧i=.int .i64 k) (λi _=>b.cs.length-(intOf i).toNat)
         case atStart=>exact⟨rfl,0,Nat.zero_le _,rfl⟩
         case round=>
          obtain⟨rfl,k,hk,rfl⟩:=hrel;by_cases hl:k<b.cs.length
          ·obtain⟨cb,co,e1,e2,e3⟩:=hN1.ks k b.cs[k].row (by simp[hl]);have c0:=e3 0 _ rfl;simp only[Nat.add_zero]at c0;have hcl:cb<W.heap.size:=aA e2 hN1.hN;rw[e1]at a2;obtain⟨nm,hnm⟩:∃nm,nm=b.cs[k].name:=⟨_,rfl⟩
           rw[← hnm]at c0;clear hnm e3;by_cases hg:100<nm.size
           ·have hg':(100:Int)<nm.size:=by omega
            gi_wp2;go_ret;exact⟨⟨true,rfl,λh=>by cases h⟩,hb1⟩
           ·have hg':¬((100:Int)<nm.size):=by omega
            gi_wp2;go_roundw
            case rel=>exact⟨by trivial,k+1,by omega,by go_num⟩
            case measure=>simp[intOf];omega
          ·obtain rfl:k=b.cs.length:=by omega
           gi_wp2;go_ret;exact⟨⟨false,rfl,λ_=>⟨q1,q2,q3,q4⟩⟩,hb1⟩
    ·have r1:¬((20:Int)<b.aJ.length):=by omega
     have r2:¬((20:Int)<b.ts.length):=by omega
     have r3:¬((20:Int)<b.cs.length):=by omega
     have r:(40:Int)<b.ps.length:=by omega
     gi_enter Tryz.func16,Tryz.ntmps16
     gi_wp2;go_ret;exact⟨⟨true,rfl,λh=>by cases h⟩,hb1⟩
   ·have r1:¬((20:Int)<b.aJ.length):=by omega
    have r2:¬((20:Int)<b.ts.length):=by omega
    have r:(20:Int)<b.cs.length:=by omega
    gi_enter Tryz.func16,Tryz.ntmps16
    gi_wp2;go_ret;exact⟨⟨true,rfl,λh=>by cases h⟩,hb1⟩
  ·have r1:¬((20:Int)<b.aJ.length):=by omega
   have r:(20:Int)<b.ts.length:=by omega
   gi_enter Tryz.func16,Tryz.ntmps16
   gi_wp2;go_ret;exact⟨⟨true,rfl,λh=>by cases h⟩,hb1⟩
 ·have r:(20:Int)<b.aJ.length:=by omega
  gi_enter Tryz.func16,Tryz.ntmps16
  gi_wp2;go_ret;exact⟨⟨true,rfl,λh=>by cases h⟩,hb1⟩
end
section
open Go Go.RowKit Lift
section
variable {N:Nat} {l:Lay} {b:aP} {w:World}
theorem lY(hbk:bU N l b w)(hcap:b.aJ.length≤l.cc)(h:b.lW):CallsIn Fz 0 Tryz.prog 53 #[.slice l.cb b.aJ.length l.cc] w λe w'=>e=.returned (.int .i64 0)∧Below w.heap.size w w':=
 (vJ hbk hcap).mono λe w' ⟨h1,h3⟩=>⟨by rw[h1,b.jR.2 h],h3⟩
theorem GX(hbk:bU N l b w)(hcap:b.aJ.length≤l.cc)(h:¬b.lW):CallsIn Fz 0 Tryz.prog 53 #[.slice l.cb b.aJ.length l.cc] w λe w'=>(∃f:Int,e=.returned (.int .i64 f)∧¬f=0∧b.fV=f)∧Below w.heap.size w w':=
 (vJ hbk hcap).mono λe w' ⟨h1,h3⟩=>⟨⟨_,h1,λq=>h (b.jR.1 q),rfl⟩,h3⟩
theorem nD(hbk:bU N l b w)(hc:b.aJ.length<1000000)(ht:b.ts.length<1000000)(h:b.rV):CallsIn Fz 0 Tryz.prog 54 #[.agg (l.cu b)] w λe w'=>e=.returned (.int .i64 0)∧Below w.heap.size w w':=
 (rM hbk hc ht).mono λe w' ⟨h1,h3⟩=>⟨by rw[h1,b.ou.2 h],h3⟩
theorem Bv(hbk:bU N l b w)(hc:b.aJ.length<1000000)(ht:b.ts.length<1000000)(h:¬b.rV):CallsIn Fz 0 Tryz.prog 54 #[.agg (l.cu b)] w λe w'=>(∃f:Int,e=.returned (.int .i64 f)∧¬f=0∧b.jm=f)∧Below w.heap.size w w':=
 (rM hbk hc ht).mono λe w' ⟨h1,h3⟩=>⟨⟨_,h1,λq=>h (b.ou.1 q),rfl⟩,h3⟩
theorem xM(hbk:bU N l b w)(hc:b.aJ.length<1000000)(ht:b.ts.length<1000000)(h:b.wu):CallsIn Fz 0 Tryz.prog 55 #[.agg (l.cu b)] w λe w'=>e=.returned (.int .i64 0)∧Below w.heap.size w w':=
 (vI hbk hc ht).mono λe w' ⟨h1,h3⟩=>⟨by rw[h1,b.nC.2 h],h3⟩
theorem GV(hbk:bU N l b w)(hc:b.aJ.length<1000000)(ht:b.ts.length<1000000)(h:¬b.wu):CallsIn Fz 0 Tryz.prog 55 #[.agg (l.cu b)] w λe w'=>(∃f:Int,e=.returned (.int .i64 f)∧¬f=0∧b.jB=f)∧Below w.heap.size w w':=
 (vI hbk hc ht).mono λe w' ⟨h1,h3⟩=>⟨⟨_,h1,λq=>h (b.nC.1 q),rfl⟩,h3⟩
end
set_option maxRecDepth 1000000 in
set_option maxHeartbeats 16000000 in
theorem zo{N:Nat}{l:Lay}{b:aP}{w:World}(hbk:bU N l b w)(hcap:b.aJ.length≤l.cc)(hc:b.aJ.length<1000000)(ht:b.ts.length<1000000)(hk:b.cs.length<1000000)(hp:b.ps.length<1000000) :
  CallsIn Fz 0 Tryz.prog 21 #[.agg (l.cu b)] w λe w'=>e=.returned (.int .i64 b.iY)∧Below w.heap.size w w':=by
 obtain⟨uj,xC,uo,uZ,um,uy,uq,uw⟩:=l;have hb1:Below w.heap.size w (w.alloc (.cells #[.slice uj b.aJ.length um,.slice xC b.ts.length uy,.slice uo b.cs.length uq,.slice uZ b.ps.length uw] 27)):=(Below.refl _ w).alloc (ay _) _;have hA:=Blk.new w #[.slice uj b.aJ.length um,.slice xC b.ts.length uy,.slice uo b.cs.length uq,.slice uZ b.ps.length uw] 27;have hN1:=hbk.below (hb1.mono hbk.hN);simp only[Lay.cu];by_cases qc:b.lW
 ·by_cases qt:b.rV
  ·by_cases qk:b.wu
   ·by_cases h10:10<b.ps.length
    ·have h10':(10:Int)<b.ps.length:=by omega
     gi_enter Tryz.func21,Tryz.ntmps21
     gi_wp2_with (first|(gi_at_call 53;with_reducible refine(lY (l:=⟨uj,xC,uo,uZ,um,uy,uq,uw⟩) (b:=b) hN1 hcap qc).mono ?_;rintro e w2 ⟨rfl,hb2⟩;have BZ:=hA.below hb2;have gA0:=BZ.cell 0;have gA1:=BZ.cell 1;have gA2:=BZ.cell 2;have gA3:=BZ.cell 3;simp at gA0 gA1 gA2 gA3;have kU:=BZ.lt;have MX:=hN1.below (hb2.mono hN1.hN))|(gi_at_call 54;with_reducible refine(nD (l:=⟨uj,xC,uo,uZ,um,uy,uq,uw⟩) (b:=b) MX hc ht qt).mono ?_;rintro e w3 ⟨rfl,TM⟩;have hb3:=hb2.trans (TM.mono hb2.size);clear gA0 gA1 gA2 gA3;have JB:=hA.below hb3;have gC0:=JB.cell 0;have gC1:=JB.cell 1;have gC2:=JB.cell 2;have gC3:=JB.cell 3;simp at gC0 gC1 gC2 gC3;have ltC:=JB.lt;have TP:=hN1.below (hb3.mono hN1.hN))|(gi_at_call 55;with_reducible refine(xM (l:=⟨uj,xC,uo,uZ,um,uy,uq,uw⟩) (b:=b) TP hc ht qk).mono ?_;rintro e w4 ⟨rfl,hb4'⟩;have hb4:=hb3.trans (hb4'.mono hb3.size);clear gC0 gC1 gC2 gC3;have Ru:=hA.below hb4;have gD0:=Ru.cell 0;have gD1:=Ru.cell 1;have gD2:=Ru.cell 2;have gD3:=Ru.cell 3;simp at gD0 gD1 gD2 gD3;have ltD:=Ru.lt;have hbkD:=hN1.below (hb4.mono hN1.hN)))
     go_ret;exact⟨gJ (show b.iY=2 from(MP qc qt qk).trans (gZ h10)),hb1.trans (hb4.mono hb1.size)⟩
    ·have h10':¬((10:Int)<b.ps.length):=by omega
     have htar:∀c,c<b.cs.length→0≤(b.aY c).tar∧(b.aY c).tar<b.ts.length:=λc h=>(qk.2 c h).2.2.1;gi_enter Tryz.func21,Tryz.ntmps21
     gi_wp2_with (first|(gi_at_call 53;with_reducible refine(lY (l:=⟨uj,xC,uo,uZ,um,uy,uq,uw⟩) (b:=b) hN1 hcap qc).mono ?_;rintro e w2 ⟨rfl,hb2⟩;have BZ:=hA.below hb2;have gA0:=BZ.cell 0;have gA1:=BZ.cell 1;have gA2:=BZ.cell 2;have gA3:=BZ.cell 3;simp at gA0 gA1 gA2 gA3;have kU:=BZ.lt;have MX:=hN1.below (hb2.mono hN1.hN))|(gi_at_call 54;with_reducible refine(nD (l:=⟨uj,xC,uo,uZ,um,uy,uq,uw⟩) (b:=b) MX hc ht qt).mono ?_;rintro e w3 ⟨rfl,TM⟩;have hb3:=hb2.trans (TM.mono hb2.size);clear gA0 gA1 gA2 gA3;have JB:=hA.below hb3;have gC0:=JB.cell 0;have gC1:=JB.cell 1;have gC2:=JB.cell 2;have gC3:=JB.cell 3;simp at gC0 gC1 gC2 gC3;have ltC:=JB.lt;have TP:=hN1.below (hb3.mono hN1.hN))|(gi_at_call 55;with_reducible refine(xM (l:=⟨uj,xC,uo,uZ,um,uy,uq,uw⟩) (b:=b) TP hc ht qk).mono ?_;rintro e w4 ⟨rfl,hb4'⟩;have hb4:=hb3.trans (hb4'.mono hb3.size);clear gC0 gC1 gC2 gC3;have Ru:=hA.below hb4;have gD0:=Ru.cell 0;have gD1:=Ru.cell 1;have gD2:=Ru.cell 2;have gD3:=Ru.cell 3;simp at gD0 gD1 gD2 gD3;have ltD:=Ru.lt;have hbkD:=hN1.below (hb4.mono hN1.hN)))
     gi_loopw [6] (λv wr=>Below w4.heap.size w4 wr∧∃k:Nat,k≤b.ps.length∧v=.int .i64 k∧eU (λi=>b.gq (b.aO i)) k=0) (λv _=>b.ps.length-(intOf v).toNat)
     case atStart=>exact⟨Below.refl _ _,0,Nat.zero_le _,rfl,rfl⟩
     case round=>
      obtain⟨HB,k,hk',rfl,hok⟩:=hrel;clear gD0 gD1 gD2 gD3;have hBr:=Ru.below HB;have hbr:=hbkD.below (HB.mono hbkD.hN);have ltr:=hBr.lt;have g0:=hBr.cell 0;have g1:=hBr.cell 1;have g2:=hBr.cell 2;have g3:=hBr.cell 3;simp at g0 g1 g2 g3;have jD:=hb1.trans ((hb4.trans (HB.mono hb4.size)).mono hb1.size);by_cases hl:k<b.ps.length
      ·obtain⟨pb,po,e1,e2,e3⟩:=hbr.ps k (b.aO k).row (by rw[List.getElem?_map,List.getElem?_eq_getElem hl,uP hl];rfl);have hltp:pb<wr.heap.size:=aA e2 hbr.hN;have good:b.gq (b.aO k)=0→eU (λi=>b.gq (b.aO i)) (k+1)=0:=λh=>iL hok h;have bad:∀f:Int,f≠0→b.gq (b.aO k)=f→b.iY=f:=λf hf hg=>(MP qc qt qk).trans ((dK h10).trans (iQ hok hg hf _ hl));generalize b.aO k=p at *;obtain⟨kd,dy,co,am,cc⟩:=p;have c0:=e3 0 _ rfl;have c1:=e3 1 _ rfl;have c2:=e3 2 _ rfl;have c3:=e3 3 _ rfl;have c4:=e3 4 _ rfl;simp only[Nat.add_zero]at c0;dsimp only at e1;subst e1;have hpay:∀w',Below wr.heap.size wr w'→_:=λw' hw'=>Jj (l:=⟨uj,xC,uo,some ⟨pb,po,none⟩,um,uy,uq,uw⟩) (hbr.below (hw'.mono hbr.hN)) hc hk htar kd dy co am cc;simp only[Lay.cu]at hpay;generalize b.gq ⟨kd,dy,co,am,cc⟩=f at *;have HG:=Lib.hid good;have yK:=Lib.hid bad;have HO:=Lib.hid hok;clear good bad hok e3
       gi_wp2_with fail
       refine cO (λw'=>Below wr.heap.size wr w') rfl mixed (by kernel_rfl) (λd=>⟨rfl,rfl,rfl,ay _,λ_ _=>rfl⟩) ?_;simp only[aC,aB,aF,Nat.reduceAdd,Nat.zero_add,List.range,List.range.loop]
       iterate 2
        refine aX rfl rfl (by kernel_rfl) (.inr rfl) ?_;apply ah;refine⟨λw' hw' K Q hK=>?_,?_⟩
        ·have rB:=hBr.below hw';have r0:=rB.cell 0;have r1:=rB.cell 1;have r2:=rB.cell 2;have r3:=rB.cell 3;simp at r0 r1 r2 r3;have p0:=(hw'.cell (p:=⟨pb,po+k * 5,none⟩) hltp).trans c0;have p1:=(hw'.cell (p:=⟨pb,po+k * 5+1,none⟩) hltp).trans c1;have p2:=(hw'.cell (p:=⟨pb,po+k * 5+2,none⟩) hltp).trans c2;have p3:=(hw'.cell (p:=⟨pb,po+k * 5+3,none⟩) hltp).trans c3;have p4:=(hw'.cell (p:=⟨pb,po+k * 5+4,none⟩) hltp).trans c4;gi_wp2;exact hw'
        apply ah;refine⟨rfl,?_⟩;refine aI rfl rfl (by decide) ?_;apply ah;refine⟨λT w' hw' K Q hK=>?_,?_⟩
        ·gi_wp2;exact hw'
        apply ah;refine⟨rfl,?_⟩
       refine aI rfl rfl (by decide) ?_;apply ah;refine⟨λT w' hw' K Q hK=>?_,?_⟩
       ·gi_wp2;exact hw'
       apply ah;refine⟨rfl,?_⟩;refine aX rfl rfl (by kernel_rfl) (.inr rfl) ?_;apply ah;refine⟨λw' hw' K Q hK=>?_,?_⟩
       ·have rB:=hBr.below hw';have r0:=rB.cell 0;have r1:=rB.cell 1;have r2:=rB.cell 2;have r3:=rB.cell 3;simp at r0 r1 r2 r3;have p0:=(hw'.cell (p:=⟨pb,po+k * 5,none⟩) hltp).trans c0;have p1:=(hw'.cell (p:=⟨pb,po+k * 5+1,none⟩) hltp).trans c1;have p2:=(hw'.cell (p:=⟨pb,po+k * 5+2,none⟩) hltp).trans c2;have p3:=(hw'.cell (p:=⟨pb,po+k * 5+3,none⟩) hltp).trans c3;have p4:=(hw'.cell (p:=⟨pb,po+k * 5+4,none⟩) hltp).trans c4;gi_wp2;exact hw'
       apply ah;refine⟨rfl,?_⟩;refine aX rfl rfl (by kernel_rfl) (.inr rfl) ?_;apply ah;refine⟨λw' hw' K Q hK=>?_,?_⟩
       ·have rB:=hBr.below hw';have r0:=rB.cell 0;have r1:=rB.cell 1;have r2:=rB.cell 2;have r3:=rB.cell 3;simp at r0 r1 r2 r3;have p0:=(hw'.cell (p:=⟨pb,po+k * 5,none⟩) hltp).trans c0;have p1:=(hw'.cell (p:=⟨pb,po+k * 5+1,none⟩) hltp).trans c1;have p2:=(hw'.cell (p:=⟨pb,po+k * 5+2,none⟩) hltp).trans c2;have p3:=(hw'.cell (p:=⟨pb,po+k * 5+3,none⟩) hltp).trans c3;have p4:=(hw'.cell (p:=⟨pb,po+k * 5+4,none⟩) hltp).trans c4
        gi_wp2_with (gi_at_call 56;refine(hpay _ hw').mono ?_;rintro e w'' ⟨rfl,hb⟩)
        exact hw'.trans (hb.mono hw'.size)
       apply ah;refine⟨rfl,?_⟩;refine aI rfl rfl (by decide) ?_;apply ah;refine⟨λT w' hw' K Q hK=>?_,?_⟩
       ·gi_wp2;exact hw'
       apply ah;refine⟨rfl,?_⟩;intro w7 hw7;by_cases hf:f=0
       ·subst hf;gi_wp2;go_roundw
        case rel=>exact⟨HB.trans (hw7.mono HB.size),k+1,by omega,by go_num,HG.out (by trivial)⟩
        case measure=>simp[intOf];omega
       ·gi_wp2;go_ret;exact⟨gJ (yK.out f hf rfl),jD.trans (hw7.mono jD.size)⟩
      ·obtain rfl:k=b.ps.length:=by omega
       have HO:=Lib.hid hok;clear hok;gi_wp2;go_ret;exact⟨gJ (show b.iY=0 from(MP qc qt qk).trans ((dK h10).trans HO.out)),jD⟩
   ·gi_enter Tryz.func21,Tryz.ntmps21
    gi_wp2_with (first|(gi_at_call 53;with_reducible refine(lY (l:=⟨uj,xC,uo,uZ,um,uy,uq,uw⟩) (b:=b) hN1 hcap qc).mono ?_;rintro e w2 ⟨rfl,hb2⟩;have BZ:=hA.below hb2;have gA0:=BZ.cell 0;have gA1:=BZ.cell 1;have gA2:=BZ.cell 2;have gA3:=BZ.cell 3;simp at gA0 gA1 gA2 gA3;have kU:=BZ.lt;have MX:=hN1.below (hb2.mono hN1.hN))|(gi_at_call 54;with_reducible refine(nD (l:=⟨uj,xC,uo,uZ,um,uy,uq,uw⟩) (b:=b) MX hc ht qt).mono ?_;rintro e w3 ⟨rfl,TM⟩;have hb3:=hb2.trans (TM.mono hb2.size);clear gA0 gA1 gA2 gA3;have JB:=hA.below hb3;have gC0:=JB.cell 0;have gC1:=JB.cell 1;have gC2:=JB.cell 2;have gC3:=JB.cell 3;simp at gC0 gC1 gC2 gC3;have ltC:=JB.lt;have TP:=hN1.below (hb3.mono hN1.hN))|(gi_at_call 55;with_reducible refine(GV (l:=⟨uj,xC,uo,uZ,um,uy,uq,uw⟩) (b:=b) TP hc ht qk).mono ?_;rintro e w4 ⟨⟨f,rfl,hf,hF⟩,hb4⟩))
    go_ret;exact⟨gJ (show b.iY=f from(flaw_k qc qt (λq=>hf (hF▸q))).trans hF),hb1.trans ((hb3.trans (hb4.mono hb3.size)).mono hb1.size)⟩
  ·gi_enter Tryz.func21,Tryz.ntmps21
   gi_wp2_with (first|(gi_at_call 53;with_reducible refine(lY (l:=⟨uj,xC,uo,uZ,um,uy,uq,uw⟩) (b:=b) hN1 hcap qc).mono ?_;rintro e w2 ⟨rfl,hb2⟩;have BZ:=hA.below hb2;have gA0:=BZ.cell 0;have gA1:=BZ.cell 1;have gA2:=BZ.cell 2;have gA3:=BZ.cell 3;simp at gA0 gA1 gA2 gA3;have kU:=BZ.lt;have MX:=hN1.below (hb2.mono hN1.hN))|(gi_at_call 54;with_reducible refine(Bv (l:=⟨uj,xC,uo,uZ,um,uy,uq,uw⟩) (b:=b) MX hc ht qt).mono ?_;rintro e w3 ⟨⟨f,rfl,hf,hF⟩,hb3⟩))
   go_ret;exact⟨gJ (show b.iY=f from(flaw_t qc (λq=>hf (hF▸q))).trans hF),hb1.trans ((hb2.trans (hb3.mono hb2.size)).mono hb1.size)⟩
 ·gi_enter Tryz.func21,Tryz.ntmps21
  gi_wp2_with (first|(gi_at_call 53;with_reducible refine(GX (l:=⟨uj,xC,uo,uZ,um,uy,uq,uw⟩) (b:=b) hN1 hcap qc).mono ?_;rintro e w2 ⟨⟨f,rfl,hf,hF⟩,hb2⟩))
  go_ret;exact⟨gJ (show b.iY=f from(flaw_c (λq=>hf (hF▸q))).trans hF),hb1.trans (hb2.mono hb1.size)⟩
end
section
open Go Go.RowKit Lift
theorem O9{N:Nat}{l:Lay}{b:aP}{w:World}(hbk:bU N l b w):CallsIn Fz 0 Tryz.prog 16 #[.agg (l.cu b)] w λe w'=>(∃r:Bool,e=.returned (.bool r)∧(r=false→b.Small))∧Below w.heap.size w w':=RH hbk
end
