/- Great: whether a book is too great for the specification: inside the fence. PRINTED BY A PROGRAM (m1.py). -/
import Derived.Test.YtccjdkghgbbliaaGreatDoorA15
set_option linter.all false
namespace Go.Proofs.YtccjdkghgbbliaaGreatDoor
section
set_option maxHeartbeats 1000000
set_option maxRecDepth 10000
open Go Go.RowKit Lift
def Ot(b:aO)(e:Ending):Prop:=∃r:Bool,e=.returned (.bool r)∧(r=false→b.Small)
set_option maxHeartbeats 32000000 in
theorem QV{N:Nat}{l:Lay}{b:aO}{w:World}(hbk:bQ N l b w) :
  CallsIn Fz 0 Tryz.prog 73 #[.agg (l.bn b)] w λe w'=>Ot b e∧Below w.heap.size w w':=by
 have hb1:Below w.heap.size w (w.alloc (.cells (l.bn b) 27)):=(Below.refl _ w).alloc (ak _) _;have hA:=Blk.new w (l.bn b) 27;have hN1:=hbk.below (hb1.mono hbk.hN);by_cases q1:b.aK.length≤20
 ·by_cases q2:b.ts.length≤20
  ·by_cases q3:b.cs.length≤20
   ·by_cases q4:b.ps.length≤40
    ·have r1:¬((20:Int)<b.aK.length):=by omega
     have r2:¬((20:Int)<b.ts.length):=by omega
     have r3:¬((20:Int)<b.cs.length):=by omega
     have r4:¬((40:Int)<b.ps.length):=by omega
     gi_enter Tryz.func73,Tryz.ntmps73
     gi_wp2;generalize w.alloc _=W at *;have hlt:=hA.lt;have a0:=hA.cell 0;have a1:=hA.cell 1;have a2:=hA.cell 2;have a3:=hA.cell 3;simp at a0 a1 a2 a3;gi_loopw [3] (λi wr=>W=wr∧∃k:Nat,k≤b.aK.length∧i=.int .i64 k) (λi _=>b.aK.length-(intOf i).toNat)
     case atStart=>exact⟨rfl,0,Nat.zero_le _,rfl⟩
     case round=>
      obtain⟨rfl,k,hk,rfl⟩:=hrel;by_cases hl:k<b.aK.length
      ·obtain⟨cb,co,e1,e2,e3⟩:=hN1.cs k [.string b.aK[k]] (by simp[hl]);have c0:=e3 0 _ rfl;simp only[Nat.mul_one,Nat.add_zero]at c0;have hcl:cb<W.heap.size:=aB e2 hN1.hN;rw[e1]at a0;obtain⟨nm,hnm⟩:∃nm,nm=b.aK[k]:=⟨_,rfl⟩
       rw[← hnm]at c0;clear hnm e3;by_cases hg:100<nm.size
       ·have hg':(100:Int)<nm.size:=by omega
        gi_wp2;go_ret;exact⟨⟨true,rfl,λh=>by cases h⟩,hb1⟩
       ·have hg':¬((100:Int)<nm.size):=by omega
        gi_wp2;go_roundw
        case rel=>exact⟨by trivial,k+1,by omega,by go_num⟩
        case measure=>simp[intOf];omega
      ·obtain rfl:k=b.aK.length:=by omega
       gi_wp2;gi_loopw [4] (λi wr=>W=wr∧∃k:Nat,k≤b.ts.length∧i=.int .i64 k) (λi _=>b.ts.length-(intOf i).toNat)
       case atStart=>exact⟨rfl,0,Nat.zero_le _,rfl⟩
       case round=>
        obtain⟨rfl,k,hk,rfl⟩:=hrel;by_cases hl:k<b.ts.length
        ·obtain⟨cb,co,e1,e2,e3⟩:=hN1.ts k b.ts[k].row (by simp[hl]);have c0:=e3 0 _ rfl;simp only[Nat.add_zero]at c0;have hcl:cb<W.heap.size:=aB e2 hN1.hN;rw[e1]at a1;obtain⟨nm,hnm⟩:∃nm,nm=b.ts[k].name:=⟨_,rfl⟩
         rw[← hnm]at c0;clear hnm e3;by_cases hg:100<nm.size
         ·have hg':(100:Int)<nm.size:=by omega
          gi_wp2;go_ret;exact⟨⟨true,rfl,λh=>by cases h⟩,hb1⟩
         ·have hg':¬((100:Int)<nm.size):=by omega
          gi_wp2;go_roundw
          case rel=>exact⟨by trivial,k+1,by omega,by go_num⟩
          case measure=>simp[intOf];omega
        ·obtain rfl:k=b.ts.length:=by omega
         gi_wp2;gi_loopw [5] (λi wr=>W=wr∧∃k:Nat,k≤b.cs.length∧i=.int .i64 k) (λi _=>b.cs.length-(intOf i).toNat)
         case atStart=>exact⟨rfl,0,Nat.zero_le _,rfl⟩
         case round=>
          obtain⟨rfl,k,hk,rfl⟩:=hrel;by_cases hl:k<b.cs.length
          ·obtain⟨cb,co,e1,e2,e3⟩:=hN1.ks k b.cs[k].row (by simp[hl]);have c0:=e3 0 _ rfl;simp only[Nat.add_zero]at c0;have hcl:cb<W.heap.size:=aB e2 hN1.hN;rw[e1]at a2;obtain⟨nm,hnm⟩:∃nm,nm=b.cs[k].name:=⟨_,rfl⟩
           rw[← hnm]at c0;clear hnm e3;by_cases hg:100<nm.size
           ·have hg':(100:Int)<nm.size:=by omega
            gi_wp2;go_ret;exact⟨⟨true,rfl,λh=>by cases h⟩,hb1⟩
           ·have hg':¬((100:Int)<nm.size):=by omega
            gi_wp2;go_roundw
            case rel=>exact⟨by trivial,k+1,by omega,by go_num⟩
            case measure=>simp[intOf];omega
          ·obtain rfl:k=b.cs.length:=by omega
           gi_wp2;go_ret;exact⟨⟨false,rfl,λ_=>⟨q1,q2,q3,q4⟩⟩,hb1⟩
    ·have r1:¬((20:Int)<b.aK.length):=by omega
     have r2:¬((20:Int)<b.ts.length):=by omega
     have r3:¬((20:Int)<b.cs.length):=by omega
     have r:(40:Int)<b.ps.length:=by omega
     gi_enter Tryz.func73,Tryz.ntmps73
     gi_wp2;go_ret;exact⟨⟨true,rfl,λh=>by cases h⟩,hb1⟩
   ·have r1:¬((20:Int)<b.aK.length):=by omega
    have r2:¬((20:Int)<b.ts.length):=by omega
    have r:(20:Int)<b.cs.length:=by omega
    gi_enter Tryz.func73,Tryz.ntmps73
    gi_wp2;go_ret;exact⟨⟨true,rfl,λh=>by cases h⟩,hb1⟩
  ·have r1:¬((20:Int)<b.aK.length):=by omega
   have r:(20:Int)<b.ts.length:=by omega
   gi_enter Tryz.func73,Tryz.ntmps73
   gi_wp2;go_ret;exact⟨⟨true,rfl,λh=>by cases h⟩,hb1⟩
 ·have r:(20:Int)<b.aK.length:=by omega
  gi_enter Tryz.func73,Tryz.ntmps73
  gi_wp2;go_ret;exact⟨⟨true,rfl,λh=>by cases h⟩,hb1⟩
end
section
set_option maxHeartbeats 1000000
set_option maxRecDepth 10000
open Go Go.RowKit Lift
section
variable {N:Nat} {l:Lay} {b:aO} {w:World}
theorem kF(hbk:bQ N l b w)(hcap:b.aK.length≤l.cc)(h:b.kD):CallsIn Fz 0 Tryz.prog 69 #[.slice l.cb b.aK.length l.cc] w λe w'=>e=.returned (.int .i64 0)∧Below w.heap.size w w':=
 (tY hbk hcap).mono λe w' ⟨h1,h3⟩=>⟨by rw[h1,b.jo.2 h],h3⟩
theorem FY(hbk:bQ N l b w)(hcap:b.aK.length≤l.cc)(h:¬b.kD):CallsIn Fz 0 Tryz.prog 69 #[.slice l.cb b.aK.length l.cc] w λe w'=>(∃f:Int,e=.returned (.int .i64 f)∧¬f=0∧b.fA=f)∧Below w.heap.size w w':=
 (tY hbk hcap).mono λe w' ⟨h1,h3⟩=>⟨⟨_,h1,λq=>h (b.jo.1 q),rfl⟩,h3⟩
theorem kY(hbk:bQ N l b w)(hc:b.aK.length<1000000)(ht:b.ts.length<1000000)(h:b.qy):CallsIn Fz 0 Tryz.prog 70 #[.agg (l.bn b)] w λe w'=>e=.returned (.int .i64 0)∧Below w.heap.size w w':=
 (qm hbk hc ht).mono λe w' ⟨h1,h3⟩=>⟨by rw[h1,b.mF.2 h],h3⟩
theorem Aa(hbk:bQ N l b w)(hc:b.aK.length<1000000)(ht:b.ts.length<1000000)(h:¬b.qy):CallsIn Fz 0 Tryz.prog 70 #[.agg (l.bn b)] w λe w'=>(∃f:Int,e=.returned (.int .i64 f)∧¬f=0∧b.iG=f)∧Below w.heap.size w w':=
 (qm hbk hc ht).mono λe w' ⟨h1,h3⟩=>⟨⟨_,h1,λq=>h (b.mF.1 q),rfl⟩,h3⟩
theorem vX(hbk:bQ N l b w)(hc:b.aK.length<1000000)(ht:b.ts.length<1000000)(h:b.uG):CallsIn Fz 0 Tryz.prog 71 #[.agg (l.bn b)] w λe w'=>e=.returned (.int .i64 0)∧Below w.heap.size w w':=
 (tX hbk hc ht).mono λe w' ⟨h1,h3⟩=>⟨by rw[h1,b.kX.2 h],h3⟩
theorem FW(hbk:bQ N l b w)(hc:b.aK.length<1000000)(ht:b.ts.length<1000000)(h:¬b.uG):CallsIn Fz 0 Tryz.prog 71 #[.agg (l.bn b)] w λe w'=>(∃f:Int,e=.returned (.int .i64 f)∧¬f=0∧b.iV=f)∧Below w.heap.size w w':=
 (tX hbk hc ht).mono λe w' ⟨h1,h3⟩=>⟨⟨_,h1,λq=>h (b.kX.1 q),rfl⟩,h3⟩
end
set_option maxRecDepth 1000000 in
set_option maxHeartbeats 64000000 in
theorem H7{N:Nat}{l:Lay}{b:aO}{w:World}(hbk:bQ N l b w)(hcap:b.aK.length≤l.cc)(hc:b.aK.length<1000000)(ht:b.ts.length<1000000)(hk:b.cs.length<1000000)(hp:b.ps.length<1000000) :
  CallsIn Fz 0 Tryz.prog 27 #[.agg (l.bn b)] w λe w'=>e=.returned (.int .i64 b.mV)∧Below w.heap.size w w':=by
 obtain⟨rH,vS,rM,sW,rJ,rQ,rO,rP⟩:=l;have hb1:Below w.heap.size w (w.alloc (.cells #[.slice rH b.aK.length rJ,.slice vS b.ts.length rQ,.slice rM b.cs.length rO,.slice sW b.ps.length rP] 27)):=(Below.refl _ w).alloc (ak _) _;have hA:=Blk.new w #[.slice rH b.aK.length rJ,.slice vS b.ts.length rQ,.slice rM b.cs.length rO,.slice sW b.ps.length rP] 27;have hN1:=hbk.below (hb1.mono hbk.hN);simp only[Lay.bn];by_cases qc:b.kD
 ·by_cases qt:b.qy
  ·by_cases qk:b.uG
   ·by_cases h10:10<b.ps.length
    ·have h10':(10:Int)<b.ps.length:=by omega
     gi_enter Tryz.func27,Tryz.ntmps27
     gi_wp2_with (first|(gi_at_call 69;with_reducible refine(kF (l:=⟨rH,vS,rM,sW,rJ,rQ,rO,rP⟩) (b:=b) hN1 hcap qc).mono ?_;rintro e w2 ⟨rfl,hb2⟩;have Ar:=hA.below hb2;have gA0:=Ar.cell 0;have gA1:=Ar.cell 1;have gA2:=Ar.cell 2;have gA3:=Ar.cell 3;simp at gA0 gA1 gA2 gA3;have ltA:=Ar.lt;have Lm:=hN1.below (hb2.mono hN1.hN))|(gi_at_call 70;with_reducible refine(kY (l:=⟨rH,vS,rM,sW,rJ,rQ,rO,rP⟩) (b:=b) Lm hc ht qt).mono ?_;rintro e w3 ⟨rfl,yX⟩;have hb3:=hb2.trans (yX.mono hb2.size);clear gA0 gA1 gA2 gA3;have IW:=hA.below hb3;have gC0:=IW.cell 0;have gC1:=IW.cell 1;have gC2:=IW.cell 2;have gC3:=IW.cell 3;simp at gC0 gC1 gC2 gC3;have ltC:=IW.lt;have SQ:=hN1.below (hb3.mono hN1.hN))|(gi_at_call 71;with_reducible refine(vX (l:=⟨rH,vS,rM,sW,rJ,rQ,rO,rP⟩) (b:=b) SQ hc ht qk).mono ?_;rintro e w4 ⟨rfl,hb4'⟩;have hb4:=hb3.trans (hb4'.mono hb3.size);clear gC0 gC1 gC2 gC3;have QL:=hA.below hb4;have gD0:=QL.cell 0;have gD1:=QL.cell 1;have gD2:=QL.cell 2;have gD3:=QL.cell 3;simp at gD0 gD1 gD2 gD3;have ltD:=QL.lt;have hbkD:=hN1.below (hb4.mono hN1.hN)))
     go_ret;exact⟨fJ (show b.mV=2 from(Lh qc qt qk).trans (fU h10)),hb1.trans (hb4.mono hb1.size)⟩
    ·have h10':¬((10:Int)<b.ps.length):=by omega
     have htar:∀c,c<b.cs.length→0≤(b.aY c).tar∧(b.aY c).tar<b.ts.length:=λc h=>(qk.2 c h).2.2.1;gi_enter Tryz.func27,Tryz.ntmps27
     gi_wp2_with (first|(gi_at_call 69;with_reducible refine(kF (l:=⟨rH,vS,rM,sW,rJ,rQ,rO,rP⟩) (b:=b) hN1 hcap qc).mono ?_;rintro e w2 ⟨rfl,hb2⟩;have Ar:=hA.below hb2;have gA0:=Ar.cell 0;have gA1:=Ar.cell 1;have gA2:=Ar.cell 2;have gA3:=Ar.cell 3;simp at gA0 gA1 gA2 gA3;have ltA:=Ar.lt;have Lm:=hN1.below (hb2.mono hN1.hN))|(gi_at_call 70;with_reducible refine(kY (l:=⟨rH,vS,rM,sW,rJ,rQ,rO,rP⟩) (b:=b) Lm hc ht qt).mono ?_;rintro e w3 ⟨rfl,yX⟩;have hb3:=hb2.trans (yX.mono hb2.size);clear gA0 gA1 gA2 gA3;have IW:=hA.below hb3;have gC0:=IW.cell 0;have gC1:=IW.cell 1;have gC2:=IW.cell 2;have gC3:=IW.cell 3;simp at gC0 gC1 gC2 gC3;have ltC:=IW.lt;have SQ:=hN1.below (hb3.mono hN1.hN))|(gi_at_call 71;with_reducible refine(vX (l:=⟨rH,vS,rM,sW,rJ,rQ,rO,rP⟩) (b:=b) SQ hc ht qk).mono ?_;rintro e w4 ⟨rfl,hb4'⟩;have hb4:=hb3.trans (hb4'.mono hb3.size);clear gC0 gC1 gC2 gC3;have QL:=hA.below hb4;have gD0:=QL.cell 0;have gD1:=QL.cell 1;have gD2:=QL.cell 2;have gD3:=QL.cell 3;simp at gD0 gD1 gD2 gD3;have ltD:=QL.lt;have hbkD:=hN1.below (hb4.mono hN1.hN)))
     gi_loopw [6] (λv wr=>Below w4.heap.size w4 wr∧∃k:Nat,k≤b.ps.length∧v=.int .i64 k∧dU (λi=>b.fB (b.aV i)) k=0) (λv _=>b.ps.length-(intOf v).toNat)
     case atStart=>exact⟨Below.refl _ _,0,Nat.zero_le _,rfl,rfl⟩
     case round=>
      obtain⟨HB,k,hk',rfl,hok⟩:=hrel;clear gD0 gD1 gD2 gD3;have hBr:=QL.below HB;have hbr:=hbkD.below (HB.mono hbkD.hN);have ltr:=hBr.lt;have g0:=hBr.cell 0;have g1:=hBr.cell 1;have g2:=hBr.cell 2;have g3:=hBr.cell 3;simp at g0 g1 g2 g3;have iZ:=hb1.trans ((hb4.trans (HB.mono hb4.size)).mono hb1.size);by_cases hl:k<b.ps.length
      ·obtain⟨pb,po,e1,e2,e3⟩:=hbr.ps k (b.aV k).row (by rw[List.getElem?_map,List.getElem?_eq_getElem hl,kS hl];rfl);have hltp:pb<wr.heap.size:=aB e2 hbr.hN;have good:b.fB (b.aV k)=0→dU (λi=>b.fB (b.aV i)) (k+1)=0:=λh=>gU hok h;have bad:∀f:Int,f≠0→b.fB (b.aV k)=f→b.mV=f:=λf hf hg=>(Lh qc qt qk).trans ((dA h10).trans (gW hok hg hf _ hl));generalize b.aV k=p at *;obtain⟨kd,dy,co,am,cc⟩:=p;have c0:=e3 0 _ rfl;have c1:=e3 1 _ rfl;have c2:=e3 2 _ rfl;have c3:=e3 3 _ rfl;have c4:=e3 4 _ rfl;simp only[Nat.add_zero]at c0;dsimp only at e1;subst e1;have hpay:∀w',Below wr.heap.size wr w'→_:=λw' hw'=>Ir (l:=⟨rH,vS,rM,some ⟨pb,po,none⟩,rJ,rQ,rO,rP⟩) (hbr.below (hw'.mono hbr.hN)) hc hk htar kd dy co am cc;simp only[Lay.bn]at hpay;generalize b.fB ⟨kd,dy,co,am,cc⟩=f at *;have HG:=Lib.hid good;have wZ:=Lib.hid bad;have HO:=Lib.hid hok;clear good bad hok e3
       gi_wp2_with fail
       refine bJ (λw'=>Below wr.heap.size wr w') rfl mixed (by kernel_rfl) (λd=>⟨rfl,rfl,rfl,ak _,λ_ _=>rfl⟩) ?_;simp only[aG,aC,aF,Nat.reduceAdd,Nat.zero_add,List.range,List.range.loop]
       iterate 2
        refine aS rfl rfl (by kernel_rfl) (.inr rfl) ?_;apply ah;refine⟨λw' hw' K Q hK=>?_,?_⟩
        ·have rB:=hBr.below hw';have r0:=rB.cell 0;have r1:=rB.cell 1;have r2:=rB.cell 2;have r3:=rB.cell 3;simp at r0 r1 r2 r3;have p0:=(hw'.cell (p:=⟨pb,po+k * 5,none⟩) hltp).trans c0;have p1:=(hw'.cell (p:=⟨pb,po+k * 5+1,none⟩) hltp).trans c1;have p2:=(hw'.cell (p:=⟨pb,po+k * 5+2,none⟩) hltp).trans c2;have p3:=(hw'.cell (p:=⟨pb,po+k * 5+3,none⟩) hltp).trans c3;have p4:=(hw'.cell (p:=⟨pb,po+k * 5+4,none⟩) hltp).trans c4;gi_wp2;exact hw'
        apply ah;refine⟨rfl,?_⟩;refine aI rfl rfl (by decide) ?_;apply ah;refine⟨λT w' hw' K Q hK=>?_,?_⟩
        ·gi_wp2;exact hw'
        apply ah;refine⟨rfl,?_⟩
       refine aI rfl rfl (by decide) ?_;apply ah;refine⟨λT w' hw' K Q hK=>?_,?_⟩
       ·gi_wp2;exact hw'
       apply ah;refine⟨rfl,?_⟩;refine aS rfl rfl (by kernel_rfl) (.inr rfl) ?_;apply ah;refine⟨λw' hw' K Q hK=>?_,?_⟩
       ·have rB:=hBr.below hw';have r0:=rB.cell 0;have r1:=rB.cell 1;have r2:=rB.cell 2;have r3:=rB.cell 3;simp at r0 r1 r2 r3;have p0:=(hw'.cell (p:=⟨pb,po+k * 5,none⟩) hltp).trans c0;have p1:=(hw'.cell (p:=⟨pb,po+k * 5+1,none⟩) hltp).trans c1;have p2:=(hw'.cell (p:=⟨pb,po+k * 5+2,none⟩) hltp).trans c2;have p3:=(hw'.cell (p:=⟨pb,po+k * 5+3,none⟩) hltp).trans c3;have p4:=(hw'.cell (p:=⟨pb,po+k * 5+4,none⟩) hltp).trans c4;gi_wp2;exact hw'
       apply ah;refine⟨rfl,?_⟩;refine aS rfl rfl (by kernel_rfl) (.inr rfl) ?_;apply ah;refine⟨λw' hw' K Q hK=>?_,?_⟩
       ·have rB:=hBr.below hw';have r0:=rB.cell 0;have r1:=rB.cell 1;have r2:=rB.cell 2;have r3:=rB.cell 3;simp at r0 r1 r2 r3;have p0:=(hw'.cell (p:=⟨pb,po+k * 5,none⟩) hltp).trans c0;have p1:=(hw'.cell (p:=⟨pb,po+k * 5+1,none⟩) hltp).trans c1;have p2:=(hw'.cell (p:=⟨pb,po+k * 5+2,none⟩) hltp).trans c2;have p3:=(hw'.cell (p:=⟨pb,po+k * 5+3,none⟩) hltp).trans c3;have p4:=(hw'.cell (p:=⟨pb,po+k * 5+4,none⟩) hltp).trans c4
        gi_wp2_with (gi_at_call 72;refine(hpay _ hw').mono ?_;rintro e w'' ⟨rfl,hb⟩)
        exact hw'.trans (hb.mono hw'.size)
       apply ah;refine⟨rfl,?_⟩;refine aI rfl rfl (by decide) ?_;apply ah;refine⟨λT w' hw' K Q hK=>?_,?_⟩
       ·gi_wp2;exact hw'
       apply ah;refine⟨rfl,?_⟩;intro w7 hw7;by_cases hf:f=0
       ·subst hf;gi_wp2;go_roundw
        case rel=>exact⟨HB.trans (hw7.mono HB.size),k+1,by omega,by go_num,HG.out (by trivial)⟩
        case measure=>simp[intOf];omega
       ·gi_wp2;go_ret;exact⟨fJ (wZ.out f hf rfl),iZ.trans (hw7.mono iZ.size)⟩
      ·obtain rfl:k=b.ps.length:=by omega
       have HO:=Lib.hid hok;clear hok;gi_wp2;go_ret;exact⟨fJ (show b.mV=0 from(Lh qc qt qk).trans ((dA h10).trans HO.out)),iZ⟩
   ·gi_enter Tryz.func27,Tryz.ntmps27
    gi_wp2_with (first|(gi_at_call 69;with_reducible refine(kF (l:=⟨rH,vS,rM,sW,rJ,rQ,rO,rP⟩) (b:=b) hN1 hcap qc).mono ?_;rintro e w2 ⟨rfl,hb2⟩;have Ar:=hA.below hb2;have gA0:=Ar.cell 0;have gA1:=Ar.cell 1;have gA2:=Ar.cell 2;have gA3:=Ar.cell 3;simp at gA0 gA1 gA2 gA3;have ltA:=Ar.lt;have Lm:=hN1.below (hb2.mono hN1.hN))|(gi_at_call 70;with_reducible refine(kY (l:=⟨rH,vS,rM,sW,rJ,rQ,rO,rP⟩) (b:=b) Lm hc ht qt).mono ?_;rintro e w3 ⟨rfl,yX⟩;have hb3:=hb2.trans (yX.mono hb2.size);clear gA0 gA1 gA2 gA3;have IW:=hA.below hb3;have gC0:=IW.cell 0;have gC1:=IW.cell 1;have gC2:=IW.cell 2;have gC3:=IW.cell 3;simp at gC0 gC1 gC2 gC3;have ltC:=IW.lt;have SQ:=hN1.below (hb3.mono hN1.hN))|(gi_at_call 71;with_reducible refine(FW (l:=⟨rH,vS,rM,sW,rJ,rQ,rO,rP⟩) (b:=b) SQ hc ht qk).mono ?_;rintro e w4 ⟨⟨f,rfl,hf,hF⟩,hb4⟩))
    go_ret;exact⟨fJ (show b.mV=f from(flaw_k qc qt (λq=>hf (hF▸q))).trans hF),hb1.trans ((hb3.trans (hb4.mono hb3.size)).mono hb1.size)⟩
  ·gi_enter Tryz.func27,Tryz.ntmps27
   gi_wp2_with (first|(gi_at_call 69;with_reducible refine(kF (l:=⟨rH,vS,rM,sW,rJ,rQ,rO,rP⟩) (b:=b) hN1 hcap qc).mono ?_;rintro e w2 ⟨rfl,hb2⟩;have Ar:=hA.below hb2;have gA0:=Ar.cell 0;have gA1:=Ar.cell 1;have gA2:=Ar.cell 2;have gA3:=Ar.cell 3;simp at gA0 gA1 gA2 gA3;have ltA:=Ar.lt;have Lm:=hN1.below (hb2.mono hN1.hN))|(gi_at_call 70;with_reducible refine(Aa (l:=⟨rH,vS,rM,sW,rJ,rQ,rO,rP⟩) (b:=b) Lm hc ht qt).mono ?_;rintro e w3 ⟨⟨f,rfl,hf,hF⟩,hb3⟩))
   go_ret;exact⟨fJ (show b.mV=f from(flaw_t qc (λq=>hf (hF▸q))).trans hF),hb1.trans ((hb2.trans (hb3.mono hb2.size)).mono hb1.size)⟩
 ·gi_enter Tryz.func27,Tryz.ntmps27
  gi_wp2_with (first|(gi_at_call 69;with_reducible refine(FY (l:=⟨rH,vS,rM,sW,rJ,rQ,rO,rP⟩) (b:=b) hN1 hcap qc).mono ?_;rintro e w2 ⟨⟨f,rfl,hf,hF⟩,hb2⟩))
  go_ret;exact⟨fJ (show b.mV=f from(flaw_c (λq=>hf (hF▸q))).trans hF),hb1.trans (hb2.mono hb1.size)⟩
theorem xY{N:Nat}{l:Lay}{b:aO}{w:World}(hbk:bQ N l b w)(hcap:b.aK.length≤l.cc)(hc:b.aK.length<1000000)(ht:b.ts.length<1000000)(hk:b.cs.length<1000000)(hp:b.ps.length<1000000) :
  CallsIn Fz 0 Tryz.prog 27 #[.agg (l.bn b)] w λe w'=>(∃f:Int,e=.returned (.int .i64 f)∧(f=0↔b.Right))∧Below w.heap.size w w':=
 (H7 hbk hcap hc ht hk hp).mono λe w' ⟨h1,h3⟩=>⟨⟨_,h1,b.Em⟩,h3⟩
end
section
set_option maxHeartbeats 1000000
set_option maxRecDepth 10000
open Go Go.RowKit Lift
theorem Ou{N:Nat}{l:Lay}{b:aO}{w:World}(hbk:bQ N l b w):CallsIn Fz 0 Tryz.prog 73 #[.agg (l.bn b)] w λe w'=>(∃r:Bool,e=.returned (.bool r)∧(r=false→b.Small))∧Below w.heap.size w w':=QV hbk
theorem Fj{N:Nat}{l:Lay}{b:aO}{w:World}(hbk:bQ N l b w)(hcap:b.aK.length≤l.cc)(h:b.Small):CallsIn Fz 0 Tryz.prog 27 #[.agg (l.bn b)] w λe w'=>(∃f:Int,e=.returned (.int .i64 f)∧(f=0↔b.Right))∧Below w.heap.size w w':=
 xY hbk hcap (by have:=h.1;omega) (by have:=h.2.1;omega) (by have:=h.2.2.1;omega) (by have:=h.2.2.2;omega)
set_option maxRecDepth 1000000 in
set_option maxHeartbeats 16000000 in
theorem Fit_in{N:Nat}{l:Lay}{b:aO}{w:World}(hbk:bQ N l b w)(hcap:b.aK.length≤l.cc) :
  CallsIn Fz 0 Tryz.prog 28 #[.agg (l.bn b)] w λe w'=>(∃r:Bool,e=.returned (.bool r)∧(r=true→b.Right))∧Below w.heap.size w w':=by
 have hb1:Below w.heap.size w (w.alloc (.cells (l.bn b) 27)):=(Below.refl _ w).alloc (ak _) _;have hA:=Blk.new w (l.bn b) 27;have hN1:=hbk.below (hb1.mono hbk.hN);gi_enter Tryz.func28,Tryz.ntmps28
 gi_wp2_with (first
  |(gi_at_call 73;with_reducible refine(Ou hN1).mono ?_;rintro e w2 ⟨⟨r,rfl,hr⟩,hb2⟩;have hA2:=hA.below hb2;have g0:=hA2.cell 0;have g1:=hA2.cell 1;have g2:=hA2.cell 2;have g3:=hA2.cell 3;simp at g0 g1 g2 g3;have lt2:=hA2.lt)
  |(gi_at_call 27;with_reducible refine(Fj (hN1.below (hb2.mono hN1.hN)) hcap (hr (by simp_all))).mono ?_;rintro e w3 ⟨⟨f,rfl,hf⟩,hb3⟩))
 ·go_ret;exact⟨⟨false,rfl,λq=>by cases q⟩,hb1.trans (hb2.mono hb1.size)⟩
 ·go_ret;exact⟨⟨f==0,rfl,λq=>hf.1 (by simpa using q)⟩,hb1.trans ((hb2.trans (hb3.mono hb2.size)).mono hb1.size)⟩
end
