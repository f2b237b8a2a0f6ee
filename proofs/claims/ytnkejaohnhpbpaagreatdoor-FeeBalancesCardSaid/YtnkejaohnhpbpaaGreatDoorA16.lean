/- Great: whether a book is too great for the specification: inside the fence. PRINTED BY A PROGRAM (m1.py). -/
import Derived.Test.YtnkejaohnhpbpaaGreatDoorA10
import Derived.Test.YtnkejaohnhpbpaaGreatDoorA11
import Derived.Test.YtnkejaohnhpbpaaGreatDoorA12
import Derived.Test.YtnkejaohnhpbpaaGreatDoorA15
set_option linter.all false
section
namespace Go.Proofs.YtnkejaohnhpbpaaGreatDoor
open Go Go.RowKit Lift
def JO(b:aN)(e:Ending):Prop:=∃r:Bool,e=.returned (.bool r)∧(r=false→b.Small)
set_option maxHeartbeats 8000000 in
theorem MF{N:Nat}{l:Lay}{b:aN}{w:World}(hbk:bV N l b w) :
  CallsIn Fz 0 Tryz.prog 16 #[.agg (l.bY b)] w λe w'=>JO b e∧Below w.heap.size w w':=by
 have hb1:Below w.heap.size w (w.alloc (.cells (l.bY b) 27)):=(Below.refl _ w).alloc (ay _) _;have hA:=Blk.new w (l.bY b) 27;have hN1:=hbk.below (hb1.mono hbk.hN);by_cases q1:b.coins.length≤20
 ·by_cases q2:b.ts.length≤20
  ·by_cases q3:b.cs.length≤20
   ·by_cases q4:b.ps.length≤40
    ·have r1:¬((20:Int)<b.coins.length):=by omega
     have r2:¬((20:Int)<b.ts.length):=by omega
     have r3:¬((20:Int)<b.cs.length):=by omega
     have r4:¬((40:Int)<b.ps.length):=by omega
     gi_enter Tryz.func16,Tryz.ntmps16
     gi_wp2;generalize w.alloc _=W at *;have hlt:=hA.lt;have a0:=hA.cell 0;have a1:=hA.cell 1;have a2:=hA.cell 2;have a3:=hA.cell 3;simp at a0 a1 a2 a3;gi_loopw [3] (λi wr=>W=wr∧∃k:Nat,k≤b.coins.length∧i=.int .i64 k) (λi _=>b.coins.length-(intOf i).toNat)
     case atStart=>exact⟨rfl,0,Nat.zero_le _,rfl⟩
     case round=>
      obtain⟨rfl,k,hk,rfl⟩:=hrel;by_cases hl:k<b.coins.length
      ·obtain⟨cb,co,e1,e2,e3⟩:=hN1.cs k [.string b.coins[k]] (by simp[hl]);have c0:=e3 0 _ rfl;simp only[Nat.mul_one,Nat.add_zero]at c0;have hcl:cb<W.heap.size:=aG e2 hN1.hN;rw[e1]at a0;obtain⟨nm,hnm⟩:∃nm,nm=b.coins[k]:=⟨_,rfl⟩
       rw[← hnm]at c0;clear hnm e3;by_cases hg:100<nm.size
       ·have hg':(100:Int)<nm.size:=by omega
        gi_wp2;go_ret;exact⟨⟨true,rfl,λh=>by cases h⟩,hb1⟩
       ·have hg':¬((100:Int)<nm.size):=by omega
        gi_wp2;go_roundw
        case rel=>exact⟨by trivial,k+1,by omega,by go_num⟩
        case measure=>simp[intOf];omega
      ·obtain rfl:k=b.coins.length:=by omega
       gi_wp2;gi_loopw [4] (λi wr=>W=wr∧∃k:Nat,k≤b.ts.length∧i=.int .i64 k) (λi _=>b.ts.length-(intOf i).toNat)
       case atStart=>exact⟨rfl,0,Nat.zero_le _,rfl⟩
       case round=>
        obtain⟨rfl,k,hk,rfl⟩:=hrel;by_cases hl:k<b.ts.length
        ·obtain⟨cb,co,e1,e2,e3⟩:=hN1.ts k b.ts[k].row (by simp[hl]);have c0:=e3 0 _ rfl;simp only[Nat.add_zero]at c0;have hcl:cb<W.heap.size:=aG e2 hN1.hN;rw[e1]at a1;obtain⟨nm,hnm⟩:∃nm,nm=b.ts[k].name:=⟨_,rfl⟩
         rw[← hnm]at c0;clear hnm e3;by_cases hg:100<nm.size
         ·have hg':(100:Int)<nm.size:=by omega
          gi_wp2;go_ret;exact⟨⟨true,rfl,λh=>by cases h⟩,hb1⟩
         ·have hg':¬((100:Int)<nm.size):=by omega
          gi_wp2;go_roundw
          case rel=>exact⟨by trivial,k+1,by omega,by go_num⟩
          case measure=>simp[intOf];omega
        ·obtain rfl:k=b.ts.length:=by omega
         gi_wp2;gi_loopw [5] (λi wr=>W=wr∧∃k:Nat,k≤b.cs.length∧i=.int .i64 k) (λi _=>b.cs.length-(intOf i).toNat)
         case atStart=>exact⟨rfl,0,Nat.zero_le _,rfl⟩
         case round=>
          obtain⟨rfl,k,hk,rfl⟩:=hrel;by_cases hl:k<b.cs.length
          ·obtain⟨cb,co,e1,e2,e3⟩:=hN1.ks k b.cs[k].row (by simp[hl]);have c0:=e3 0 _ rfl;simp only[Nat.add_zero]at c0;have hcl:cb<W.heap.size:=aG e2 hN1.hN;rw[e1]at a2;obtain⟨nm,hnm⟩:∃nm,nm=b.cs[k].name:=⟨_,rfl⟩
           rw[← hnm]at c0;clear hnm e3;by_cases hg:100<nm.size
           ·have hg':(100:Int)<nm.size:=by omega
            gi_wp2;go_ret;exact⟨⟨true,rfl,λh=>by cases h⟩,hb1⟩
           ·have hg':¬((100:Int)<nm.size):=by omega
            gi_wp2;go_roundw
            case rel=>exact⟨by trivial,k+1,by omega,by go_num⟩
            case measure=>simp[intOf];omega
          ·obtain rfl:k=b.cs.length:=by omega
           gi_wp2;go_ret;exact⟨⟨false,rfl,λ_=>⟨q1,q2,q3,q4⟩⟩,hb1⟩
    ·have r1:¬((20:Int)<b.coins.length):=by omega
     have r2:¬((20:Int)<b.ts.length):=by omega
     have r3:¬((20:Int)<b.cs.length):=by omega
     have r:(40:Int)<b.ps.length:=by omega
     gi_enter Tryz.func16,Tryz.ntmps16
     gi_wp2;go_ret;exact⟨⟨true,rfl,λh=>by cases h⟩,hb1⟩
   ·have r1:¬((20:Int)<b.coins.length):=by omega
    have r2:¬((20:Int)<b.ts.length):=by omega
    have r:(20:Int)<b.cs.length:=by omega
    gi_enter Tryz.func16,Tryz.ntmps16
    gi_wp2;go_ret;exact⟨⟨true,rfl,λh=>by cases h⟩,hb1⟩
  ·have r1:¬((20:Int)<b.coins.length):=by omega
   have r:(20:Int)<b.ts.length:=by omega
   gi_enter Tryz.func16,Tryz.ntmps16
   gi_wp2;go_ret;exact⟨⟨true,rfl,λh=>by cases h⟩,hb1⟩
 ·have r:(20:Int)<b.coins.length:=by omega
  gi_enter Tryz.func16,Tryz.ntmps16
  gi_wp2;go_ret;exact⟨⟨true,rfl,λh=>by cases h⟩,hb1⟩
end Go.Proofs.YtnkejaohnhpbpaaGreatDoor
end
section
namespace Go.Proofs.YtnkejaohnhpbpaaGreatDoor
open Go Go.RowKit Lift
section
variable {N:Nat} {l:Lay} {b:aN} {w:World}
theorem kP(hbk:bV N l b w)(hcap:b.coins.length≤l.cc)(h:b.kN):CallsIn Fz 0 Tryz.prog 53 #[.slice l.cb b.coins.length l.cc] w λe w'=>e=.returned (.int .i64 0)∧Below w.heap.size w w':=
 (rY hbk hcap).mono λe w' ⟨h1,h3⟩=>⟨by rw[h1,b.jA.2 h],h3⟩
theorem Dn(hbk:bV N l b w)(hcap:b.coins.length≤l.cc)(h:¬b.kN):CallsIn Fz 0 Tryz.prog 53 #[.slice l.cb b.coins.length l.cc] w λe w'=>(∃f:Int,e=.returned (.int .i64 f)∧¬f=0∧b.fH=f)∧Below w.heap.size w w':=
 (rY hbk hcap).mono λe w' ⟨h1,h3⟩=>⟨⟨_,h1,λq=>h (b.jA.1 q),rfl⟩,h3⟩
theorem lF(hbk:bV N l b w)(hc:b.coins.length<1000000)(ht:b.ts.length<1000000)(h:b.pX):CallsIn Fz 0 Tryz.prog 54 #[.agg (l.bY b)] w λe w'=>e=.returned (.int .i64 0)∧Below w.heap.size w w':=
 (pO hbk hc ht).mono λe w' ⟨h1,h3⟩=>⟨by rw[h1,b.mD.2 h],h3⟩
theorem yN(hbk:bV N l b w)(hc:b.coins.length<1000000)(ht:b.ts.length<1000000)(h:¬b.pX):CallsIn Fz 0 Tryz.prog 54 #[.agg (l.bY b)] w λe w'=>(∃f:Int,e=.returned (.int .i64 f)∧¬f=0∧b.iP=f)∧Below w.heap.size w w':=
 (pO hbk hc ht).mono λe w' ⟨h1,h3⟩=>⟨⟨_,h1,λq=>h (b.mD.1 q),rfl⟩,h3⟩
theorem uQ(hbk:bV N l b w)(hc:b.coins.length<1000000)(ht:b.ts.length<1000000)(h:b.sU):CallsIn Fz 0 Tryz.prog 55 #[.agg (l.bY b)] w λe w'=>e=.returned (.int .i64 0)∧Below w.heap.size w w':=
 (rX hbk hc ht).mono λe w' ⟨h1,h3⟩=>⟨by rw[h1,b.lD.2 h],h3⟩
theorem Dl(hbk:bV N l b w)(hc:b.coins.length<1000000)(ht:b.ts.length<1000000)(h:¬b.sU):CallsIn Fz 0 Tryz.prog 55 #[.agg (l.bY b)] w λe w'=>(∃f:Int,e=.returned (.int .i64 f)∧¬f=0∧b.je=f)∧Below w.heap.size w w':=
 (rX hbk hc ht).mono λe w' ⟨h1,h3⟩=>⟨⟨_,h1,λq=>h (b.lD.1 q),rfl⟩,h3⟩
end
set_option maxRecDepth 1000000 in
set_option maxHeartbeats 16000000 in
theorem wU{N:Nat}{l:Lay}{b:aN}{w:World}(hbk:bV N l b w)(hcap:b.coins.length≤l.cc)(hc:b.coins.length<1000000)(ht:b.ts.length<1000000)(hk:b.cs.length<1000000)(hp:b.ps.length<1000000) :
  CallsIn Fz 0 Tryz.prog 21 #[.agg (l.bY b)] w λe w'=>e=.returned (.int .i64 b.eX)∧Below w.heap.size w w':=by
 obtain⟨xcb,xtb,xkb,xpb,xcc,xtc,xkc,xpc⟩:=l;have hb1:Below w.heap.size w (w.alloc (.cells #[.slice xcb b.coins.length xcc,.slice xtb b.ts.length xtc,.slice xkb b.cs.length xkc,.slice xpb b.ps.length xpc] 27)):=(Below.refl _ w).alloc (ay _) _;have hA:=Blk.new w #[.slice xcb b.coins.length xcc,.slice xtb b.ts.length xtc,.slice xkb b.cs.length xkc,.slice xpb b.ps.length xpc] 27;have hN1:=hbk.below (hb1.mono hbk.hN);simp only[Lay.bY];by_cases qc:b.kN
 ·by_cases qt:b.pX
  ·by_cases qk:b.sU
   ·by_cases h10:10<b.ps.length
    ·have h10':(10:Int)<b.ps.length:=by omega
     gi_enter Tryz.func21,Tryz.ntmps21
     gi_wp2_with (first|(gi_at_call 53;with_reducible refine(kP (l:=⟨xcb,xtb,xkb,xpb,xcc,xtc,xkc,xpc⟩) (b:=b) hN1 hcap qc).mono ?_;rintro e w2 ⟨rfl,hb2⟩;have hBA:=hA.below hb2;have gA0:=hBA.cell 0;have gA1:=hBA.cell 1;have gA2:=hBA.cell 2;have gA3:=hBA.cell 3;simp at gA0 gA1 gA2 gA3;have ltA:=hBA.lt;have hbkA:=hN1.below (hb2.mono hN1.hN))|(gi_at_call 54;with_reducible refine(lF (l:=⟨xcb,xtb,xkb,xpb,xcc,xtc,xkc,xpc⟩) (b:=b) hbkA hc ht qt).mono ?_;rintro e w3 ⟨rfl,hb3'⟩;have hb3:=hb2.trans (hb3'.mono hb2.size);clear gA0 gA1 gA2 gA3;have hBC:=hA.below hb3;have gC0:=hBC.cell 0;have gC1:=hBC.cell 1;have gC2:=hBC.cell 2;have gC3:=hBC.cell 3;simp at gC0 gC1 gC2 gC3;have ltC:=hBC.lt;have hbkC:=hN1.below (hb3.mono hN1.hN))|(gi_at_call 55;with_reducible refine(uQ (l:=⟨xcb,xtb,xkb,xpb,xcc,xtc,xkc,xpc⟩) (b:=b) hbkC hc ht qk).mono ?_;rintro e w4 ⟨rfl,hb4'⟩;have hb4:=hb3.trans (hb4'.mono hb3.size);clear gC0 gC1 gC2 gC3;have hBD:=hA.below hb4;have gD0:=hBD.cell 0;have gD1:=hBD.cell 1;have gD2:=hBD.cell 2;have gD3:=hBD.cell 3;simp at gD0 gD1 gD2 gD3;have ltD:=hBD.lt;have hbkD:=hN1.below (hb4.mono hN1.hN)))
     go_ret;exact⟨dW (show b.eX=2 from(Ij qc qt qk).trans (gy h10)),hb1.trans (hb4.mono hb1.size)⟩
    ·have h10':¬((10:Int)<b.ps.length):=by omega
     have htar:∀c,c<b.cs.length→0≤(b.aV c).tar∧(b.aV c).tar<b.ts.length:=λc h=>(qk.2 c h).2.2.1;gi_enter Tryz.func21,Tryz.ntmps21
     gi_wp2_with (first|(gi_at_call 53;with_reducible refine(kP (l:=⟨xcb,xtb,xkb,xpb,xcc,xtc,xkc,xpc⟩) (b:=b) hN1 hcap qc).mono ?_;rintro e w2 ⟨rfl,hb2⟩;have hBA:=hA.below hb2;have gA0:=hBA.cell 0;have gA1:=hBA.cell 1;have gA2:=hBA.cell 2;have gA3:=hBA.cell 3;simp at gA0 gA1 gA2 gA3;have ltA:=hBA.lt;have hbkA:=hN1.below (hb2.mono hN1.hN))|(gi_at_call 54;with_reducible refine(lF (l:=⟨xcb,xtb,xkb,xpb,xcc,xtc,xkc,xpc⟩) (b:=b) hbkA hc ht qt).mono ?_;rintro e w3 ⟨rfl,hb3'⟩;have hb3:=hb2.trans (hb3'.mono hb2.size);clear gA0 gA1 gA2 gA3;have hBC:=hA.below hb3;have gC0:=hBC.cell 0;have gC1:=hBC.cell 1;have gC2:=hBC.cell 2;have gC3:=hBC.cell 3;simp at gC0 gC1 gC2 gC3;have ltC:=hBC.lt;have hbkC:=hN1.below (hb3.mono hN1.hN))|(gi_at_call 55;with_reducible refine(uQ (l:=⟨xcb,xtb,xkb,xpb,xcc,xtc,xkc,xpc⟩) (b:=b) hbkC hc ht qk).mono ?_;rintro e w4 ⟨rfl,hb4'⟩;have hb4:=hb3.trans (hb4'.mono hb3.size);clear gC0 gC1 gC2 gC3;have hBD:=hA.below hb4;have gD0:=hBD.cell 0;have gD1:=hBD.cell 1;have gD2:=hBD.cell 2;have gD3:=hBD.cell 3;simp at gD0 gD1 gD2 gD3;have ltD:=hBD.lt;have hbkD:=hN1.below (hb4.mono hN1.hN)))
     gi_loopw [6] (λv wr=>Below w4.heap.size w4 wr∧∃k:Nat,k≤b.ps.length∧v=.int .i64 k∧dU (λi=>b.dn (b.aO i)) k=0) (λv _=>b.ps.length-(intOf v).toNat)
     case atStart=>exact⟨Below.refl _ _,0,Nat.zero_le _,rfl,rfl⟩
     case round=>
      obtain⟨HB,k,hk',rfl,hok⟩:=hrel;clear gD0 gD1 gD2 gD3;have hBr:=hBD.below HB;have hbr:=hbkD.below (HB.mono hbkD.hN);have ltr:=hBr.lt;have g0:=hBr.cell 0;have g1:=hBr.cell 1;have g2:=hBr.cell 2;have g3:=hBr.cell 3;simp at g0 g1 g2 g3;have HALL:=hb1.trans ((hb4.trans (HB.mono hb4.size)).mono hb1.size);by_cases hl:k<b.ps.length
      ·obtain⟨pb,po,e1,e2,e3⟩:=hbr.ps k (b.aO k).row (by rw[List.getElem?_map,List.getElem?_eq_getElem hl,rF hl];rfl);have hltp:pb<wr.heap.size:=aG e2 hbr.hN;have good:b.dn (b.aO k)=0→dU (λi=>b.dn (b.aO i)) (k+1)=0:=λh=>gX hok h;have bad:∀f:Int,f≠0→b.dn (b.aO k)=f→b.eX=f:=λf hf hg=>(Ij qc qt qk).trans ((dD h10).trans (gY hok hg hf _ hl));generalize b.aO k=p at *;obtain⟨kd,dy,co,am,cc⟩:=p;have c0:=e3 0 _ rfl;have c1:=e3 1 _ rfl;have c2:=e3 2 _ rfl;have c3:=e3 3 _ rfl;have c4:=e3 4 _ rfl;simp only[Nat.add_zero]at c0;dsimp only at e1;subst e1;have hpay:∀w',Below wr.heap.size wr w'→_:=λw' hw'=>Ez (l:=⟨xcb,xtb,xkb,some ⟨pb,po,none⟩,xcc,xtc,xkc,xpc⟩) (hbr.below (hw'.mono hbr.hN)) hc hk htar kd dy co am cc;simp only[Lay.bY]at hpay;generalize b.dn ⟨kd,dy,co,am,cc⟩=f at *;have HG:=Lib.hid good;have HBD:=Lib.hid bad;have HO:=Lib.hid hok;clear good bad hok e3
       gi_wp2_with fail
       refine bG (λw'=>Below wr.heap.size wr w') rfl mixed (by kernel_rfl) (λd=>⟨rfl,rfl,rfl,ay _,λ_ _=>rfl⟩) ?_;simp only[aF,aC,aH,Nat.reduceAdd,Nat.zero_add,List.range,List.range.loop]
       iterate 2
        refine aT rfl rfl (by kernel_rfl) (.inr rfl) ?_;apply ah;refine⟨λw' hw' K Q hK=>?_,?_⟩
        ·have rB:=hBr.below hw';have r0:=rB.cell 0;have r1:=rB.cell 1;have r2:=rB.cell 2;have r3:=rB.cell 3;simp at r0 r1 r2 r3;have p0:=(hw'.cell (p:=⟨pb,po+k * 5,none⟩) hltp).trans c0;have p1:=(hw'.cell (p:=⟨pb,po+k * 5+1,none⟩) hltp).trans c1;have p2:=(hw'.cell (p:=⟨pb,po+k * 5+2,none⟩) hltp).trans c2;have p3:=(hw'.cell (p:=⟨pb,po+k * 5+3,none⟩) hltp).trans c3;have p4:=(hw'.cell (p:=⟨pb,po+k * 5+4,none⟩) hltp).trans c4;gi_wp2;exact hw'
        apply ah;refine⟨rfl,?_⟩;refine aI rfl rfl (by decide) ?_;apply ah;refine⟨λT w' hw' K Q hK=>?_,?_⟩
        ·gi_wp2;exact hw'
        apply ah;refine⟨rfl,?_⟩
       refine aI rfl rfl (by decide) ?_;apply ah;refine⟨λT w' hw' K Q hK=>?_,?_⟩
       ·gi_wp2;exact hw'
       apply ah;refine⟨rfl,?_⟩;refine aT rfl rfl (by kernel_rfl) (.inr rfl) ?_;apply ah;refine⟨λw' hw' K Q hK=>?_,?_⟩
       ·have rB:=hBr.below hw';have r0:=rB.cell 0;have r1:=rB.cell 1;have r2:=rB.cell 2;have r3:=rB.cell 3;simp at r0 r1 r2 r3;have p0:=(hw'.cell (p:=⟨pb,po+k * 5,none⟩) hltp).trans c0;have p1:=(hw'.cell (p:=⟨pb,po+k * 5+1,none⟩) hltp).trans c1;have p2:=(hw'.cell (p:=⟨pb,po+k * 5+2,none⟩) hltp).trans c2;have p3:=(hw'.cell (p:=⟨pb,po+k * 5+3,none⟩) hltp).trans c3;have p4:=(hw'.cell (p:=⟨pb,po+k * 5+4,none⟩) hltp).trans c4;gi_wp2;exact hw'
       apply ah;refine⟨rfl,?_⟩;refine aT rfl rfl (by kernel_rfl) (.inr rfl) ?_;apply ah;refine⟨λw' hw' K Q hK=>?_,?_⟩
       ·have rB:=hBr.below hw';have r0:=rB.cell 0;have r1:=rB.cell 1;have r2:=rB.cell 2;have r3:=rB.cell 3;simp at r0 r1 r2 r3;have p0:=(hw'.cell (p:=⟨pb,po+k * 5,none⟩) hltp).trans c0;have p1:=(hw'.cell (p:=⟨pb,po+k * 5+1,none⟩) hltp).trans c1;have p2:=(hw'.cell (p:=⟨pb,po+k * 5+2,none⟩) hltp).trans c2;have p3:=(hw'.cell (p:=⟨pb,po+k * 5+3,none⟩) hltp).trans c3;have p4:=(hw'.cell (p:=⟨pb,po+k * 5+4,none⟩) hltp).trans c4
        gi_wp2_with (gi_at_call 56;refine(hpay _ hw').mono ?_;rintro e w'' ⟨rfl,hb⟩)
        exact hw'.trans (hb.mono hw'.size)
       apply ah;refine⟨rfl,?_⟩;refine aI rfl rfl (by decide) ?_;apply ah;refine⟨λT w' hw' K Q hK=>?_,?_⟩
       ·gi_wp2;exact hw'
       apply ah;refine⟨rfl,?_⟩;intro w7 hw7;by_cases hf:f=0
       ·subst hf;gi_wp2;go_roundw
        case rel=>exact⟨HB.trans (hw7.mono HB.size),k+1,by omega,by go_num,HG.out (by trivial)⟩
        case measure=>simp[intOf];omega
       ·gi_wp2;go_ret;exact⟨dW (HBD.out f hf rfl),HALL.trans (hw7.mono HALL.size)⟩
      ·obtain rfl:k=b.ps.length:=by omega
       have HO:=Lib.hid hok;clear hok;gi_wp2;go_ret;exact⟨dW (show b.eX=0 from(Ij qc qt qk).trans ((dD h10).trans HO.out)),HALL⟩
   ·gi_enter Tryz.func21,Tryz.ntmps21
    gi_wp2_with (first|(gi_at_call 53;with_reducible refine(kP (l:=⟨xcb,xtb,xkb,xpb,xcc,xtc,xkc,xpc⟩) (b:=b) hN1 hcap qc).mono ?_;rintro e w2 ⟨rfl,hb2⟩;have hBA:=hA.below hb2;have gA0:=hBA.cell 0;have gA1:=hBA.cell 1;have gA2:=hBA.cell 2;have gA3:=hBA.cell 3;simp at gA0 gA1 gA2 gA3;have ltA:=hBA.lt;have hbkA:=hN1.below (hb2.mono hN1.hN))|(gi_at_call 54;with_reducible refine(lF (l:=⟨xcb,xtb,xkb,xpb,xcc,xtc,xkc,xpc⟩) (b:=b) hbkA hc ht qt).mono ?_;rintro e w3 ⟨rfl,hb3'⟩;have hb3:=hb2.trans (hb3'.mono hb2.size);clear gA0 gA1 gA2 gA3;have hBC:=hA.below hb3;have gC0:=hBC.cell 0;have gC1:=hBC.cell 1;have gC2:=hBC.cell 2;have gC3:=hBC.cell 3;simp at gC0 gC1 gC2 gC3;have ltC:=hBC.lt;have hbkC:=hN1.below (hb3.mono hN1.hN))|(gi_at_call 55;with_reducible refine(Dl (l:=⟨xcb,xtb,xkb,xpb,xcc,xtc,xkc,xpc⟩) (b:=b) hbkC hc ht qk).mono ?_;rintro e w4 ⟨⟨f,rfl,hf,hF⟩,hb4⟩))
    go_ret;exact⟨dW (show b.eX=f from(flaw_k qc qt (λq=>hf (hF▸q))).trans hF),hb1.trans ((hb3.trans (hb4.mono hb3.size)).mono hb1.size)⟩
  ·gi_enter Tryz.func21,Tryz.ntmps21
   gi_wp2_with (first|(gi_at_call 53;with_reducible refine(kP (l:=⟨xcb,xtb,xkb,xpb,xcc,xtc,xkc,xpc⟩) (b:=b) hN1 hcap qc).mono ?_;rintro e w2 ⟨rfl,hb2⟩;have hBA:=hA.below hb2;have gA0:=hBA.cell 0;have gA1:=hBA.cell 1;have gA2:=hBA.cell 2;have gA3:=hBA.cell 3;simp at gA0 gA1 gA2 gA3;have ltA:=hBA.lt;have hbkA:=hN1.below (hb2.mono hN1.hN))|(gi_at_call 54;with_reducible refine(yN (l:=⟨xcb,xtb,xkb,xpb,xcc,xtc,xkc,xpc⟩) (b:=b) hbkA hc ht qt).mono ?_;rintro e w3 ⟨⟨f,rfl,hf,hF⟩,hb3⟩))
   go_ret;exact⟨dW (show b.eX=f from(flaw_t qc (λq=>hf (hF▸q))).trans hF),hb1.trans ((hb2.trans (hb3.mono hb2.size)).mono hb1.size)⟩
 ·gi_enter Tryz.func21,Tryz.ntmps21
  gi_wp2_with (first|(gi_at_call 53;with_reducible refine(Dn (l:=⟨xcb,xtb,xkb,xpb,xcc,xtc,xkc,xpc⟩) (b:=b) hN1 hcap qc).mono ?_;rintro e w2 ⟨⟨f,rfl,hf,hF⟩,hb2⟩))
  go_ret;exact⟨dW (show b.eX=f from(flaw_c (λq=>hf (hF▸q))).trans hF),hb1.trans (hb2.mono hb1.size)⟩
end Go.Proofs.YtnkejaohnhpbpaaGreatDoor
end
section
namespace Go.Proofs.YtnkejaohnhpbpaaGreatDoor
open Go Go.RowKit Lift
theorem JQ{N:Nat}{l:Lay}{b:aN}{w:World}(hbk:bV N l b w):CallsIn Fz 0 Tryz.prog 16 #[.agg (l.bY b)] w λe w'=>(∃r:Bool,e=.returned (.bool r)∧(r=false→b.Small))∧Below w.heap.size w w':=MF hbk
end Go.Proofs.YtnkejaohnhpbpaaGreatDoor
end
