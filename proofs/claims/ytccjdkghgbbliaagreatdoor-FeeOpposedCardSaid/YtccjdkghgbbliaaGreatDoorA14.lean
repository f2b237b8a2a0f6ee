/- The program's check of payments and of a book, on any book: inside the fence. PRINTED BY A PROGRAM (kc.py). -/
import Derived.Test.YtccjdkghgbbliaaGreatDoorA12
import Derived.Test.YtccjdkghgbbliaaGreatDoorA13
set_option linter.all false
namespace Go.Proofs.YtccjdkghgbbliaaGreatDoor
section
set_option maxHeartbeats 1000000
set_option maxRecDepth 10000
open Go Go.RowKit Lift
theorem RH{N:Nat}{l:Lay}{b:aO}{w:World}(hbk:bQ N l b w){c:Nat}(hc:c<b.cs.length)(ht:0≤(b.aY c).tar∧(b.aY c).tar<b.ts.length) :
  CallsIn Fz 0 Tryz.prog 144 #[.agg (l.bn b),.int .i64 c] w λe w'=>e=.returned (.int .i64 (b.gy (b.aY c).tar.toNat).bg)∧Below w.heap.size w w':=by
 obtain⟨t,ht2⟩:∃t:Nat,(b.aY c).tar=t:=⟨(b.aY c).tar.toNat,by omega⟩
 have htl:t<b.ts.length:=by omega
 obtain⟨kb,ko,a1,a2,a3⟩:=hbk.ks c (b.aY c).row (by rw[List.getElem?_map,List.getElem?_eq_getElem hc,gJ hc];rfl);obtain⟨tb,to,b1,b2,b3⟩:=hbk.ts t (b.gy t).row (by rw[List.getElem?_map,List.getElem?_eq_getElem htl,gQ htl];rfl);have k1:=a3 1 _ rfl;have t1:=b3 1 _ rfl;have hkb:kb<w.heap.size:=aB a2 hbk.hN;have htb:tb<w.heap.size:=aB b2 hbk.hN;rw[ht2]at k1 ⊢;rw[Int.toNat_natCast];unfold Lay.bn;rw[a1,b1];exact Iy kb ko b.cs.length l.kc tb to b.ts.length l.tc c t _ _ _ w hc htl hkb htb k1 t1
set_option maxRecDepth 1000000 in
set_option maxHeartbeats 64000000 in
theorem Uf{N:Nat}{l:Lay}{b:aO}{w:World}(hbk:bQ N l b w)(hnc:b.aK.length≤1000)(hnk:b.cs.length≤1000)(htar:∀c,c<b.cs.length→0≤(b.aY c).tar∧(b.aY c).tar<b.ts.length)(kd dy co am cc:Int){B1:Nat}(hB:Blk w B1 123 #[.slice l.cb b.aK.length l.cc,.slice l.tb b.ts.length l.tc,.slice l.kb b.cs.length l.kc,.slice l.pb b.ps.length l.pc]) :
  CallsIn Fz 0 Tryz.prog 232 #[.agg #[.int .i64 kd,.int .i64 dy,.int .i64 co,.int .i64 am,.int .i64 cc],.pointer (some ⟨B1,0,none⟩)] w λe w'=>e=.returned (.int .i64 (b.fB ⟨kd,dy,co,am,cc⟩))∧Below w.heap.size w w':=by
 have b0:=hB.cell 0;have b2:=hB.cell 2;simp at b0 b2;have Td:=hB.lt;have H:=Oh b kd dy co am cc;generalize b.fB ⟨kd,dy,co,am,cc⟩=fl at H ⊢;have hX:=Blk.new w #[.int .i64 kd,.int .i64 dy,.int .i64 co,.int .i64 am,.int .i64 cc] 93;have HB:Below w.heap.size w (w.alloc (.cells #[.int .i64 kd,.int .i64 dy,.int .i64 co,.int .i64 am,.int .i64 cc] 93)):=(Below.refl _ w).alloc (ak _) _;have hBW:=hB.below HB;have hbkW:=hbk.below (HB.mono hbk.hN);rcases H with⟨qc,qd,qe,qg⟩|⟨qc,qd,qe,qg⟩|⟨qc,qd,qe⟩|⟨qc,qd,qe,qf⟩|⟨c,qc,qd,qe,qg,hkc⟩|⟨c,qc,qd,qe,qg,hkc,qh⟩|⟨qc,qd,qe,qg⟩|⟨qa,qb,qc,qd,qe⟩|⟨qa,qb,qc,qd⟩|⟨qa,qb,qc⟩|⟨qa,qb⟩|qa
 all_goals
  gi_enter Tryz.func232,Tryz.ntmps232
  gi_wp2_with (first
  |(gi_at_call 97;(first|with_reducible refine(dX _ 0 2 _ (by omega)).mono ?_|with_reducible refine(jm _ 0 2 _ (by omega)).mono ?_|with_reducible refine(dX _ 1 10000 _ (by omega)).mono ?_|with_reducible refine(jm _ 1 10000 _ (by omega)).mono ?_);rintro e w3 ⟨rfl,rfl⟩)
  |(gi_at_call 96;(first|with_reducible refine(zG dy _ qc).mono ?_|with_reducible refine(NZ dy _ qc).mono ?_);rintro e w3 ⟨rfl,rfl⟩)
  |(gi_at_call 79;(first|with_reducible refine(og _ _ _ _ (by omega) _ qe).mono ?_|with_reducible refine(Eu _ _ _ _ (by omega) _ qe).mono ?_);rintro e w3 ⟨rfl,rfl⟩)
  |(gi_at_call 46;(first|with_reducible refine(Po _ _ _ _ (by omega) _ qg).mono ?_|with_reducible refine(Pn _ _ _ _ (by omega) _ qg).mono ?_);rintro e w3 ⟨rfl,rfl⟩))
  first
  |go_ret
   exact⟨fJ rfl,HB⟩
  |generalize w.alloc _=W at *
   clear b0 b2;refine bJ (λw'=>Below W.heap.size W w') rfl mixed (by kernel_rfl) (λd=>⟨rfl,rfl,rfl,ak _,λ_ _=>rfl⟩) ?_;simp only[aG,aC,aF,Nat.reduceAdd,Nat.zero_add,List.range,List.range.loop]
   iterate 13
    (first
    |(refine cZ rfl rfl (by decide) (λw f hf=>by first|(simp[Oper.about]at hf;done)|(simp[Oper.about,resolve,Deferred.ofValue,Target.leads,Act.eval,go_sem]at hf;subst hf;rfl)) rfl ?_)
    |(refine aS rfl rfl (by kernel_rfl) (.inr rfl) ?_
      apply ah;refine⟨λw' hw' K Q hK=>?_,?_⟩
      ·have q:=hX.below hw';have q0:=q.cell 0;have q2:=q.cell 2;have q4:=q.cell 4;have rB:=hBW.below hw';have r0:=rB.cell 0;have r1:=rB.cell 1;have r2:=rB.cell 2;have r3:=rB.cell 3;simp at q0 q2 q4 r0 r1 r2 r3
       gi_wp2_with (gi_at_call 144;have Es:=RH (hbkW.below (hw'.mono hbkW.hN)) (show c<b.cs.length by omega) (htar c (by omega));rw[hkc]at Es;unfold Lay.bn at Es;refine Es.mono ?_;rintro e w'' ⟨rfl,hb⟩)
       first|exact hw'|exact hw'.trans (hb.mono hw'.size)
      apply ah;refine⟨rfl,?_⟩))
   intro w2 hw2;gi_wp2;go_ret;exact⟨fJ rfl,HB.trans (hw2.mono HB.size)⟩
set_option maxHeartbeats 16000000 in
theorem IC{N:Nat}{l:Lay}{b:aO}{w:World}(hbk:bQ N l b w)(hnc:b.aK.length≤1000)(hnk:b.cs.length≤1000)(hnp:b.ps.length≤1000)(htar:∀c,c<b.cs.length→0≤(b.aY c).tar∧(b.aY c).tar<b.ts.length){B1:Nat}(hB:Blk w B1 123 #[.slice l.cb b.aK.length l.cc,.slice l.tb b.ts.length l.tc,.slice l.kb b.cs.length l.kc,.slice l.pb b.ps.length l.pc]) :
  CallsIn Fz 0 Tryz.prog 231 #[.slice l.pb b.ps.length l.pc,.int .i64 10,.func (.func 232) #[] #[.pointer (some ⟨B1,0,none⟩)]] w λe w'=>e=.returned (.int .i64 b.oL)∧Below w.heap.size w w':=by
 have hNw:=hbk.hN;by_cases hbig:10<b.ps.length
 ·have hbig':(10:Int)<b.ps.length:=by omega
  gi_enter Tryz.func231,Tryz.ntmps231
  gi_wp2;go_ret;exact⟨fJ (show b.oL=2 from fU hbig),Below.refl _ _⟩
 ·have hbig':¬((10:Int)<b.ps.length):=by omega
  gi_enter Tryz.func231,Tryz.ntmps231
  gi_wp2;gi_loopw [16] (λi wr=>∃k:Nat,k≤b.ps.length∧i=.int .i64 k∧Below w.heap.size w wr∧dU (λi=>b.fB (b.aV i)) k=0) (λi _=>b.ps.length-(intOf i).toNat)
  case atStart=>exact⟨0,Nat.zero_le _,rfl,Below.refl _ _,rfl⟩
  case round=>
   obtain⟨k,hk,rfl,hb,hok⟩:=hrel;by_cases hlt:k<b.ps.length
   ·have hbr:=hbk.below (hb.mono hNw);have hBr:=hB.below hb;obtain⟨cb,co,e1,e2,e3⟩:=hbr.ps k (b.aV k).row (by rw[List.getElem?_map,List.getElem?_eq_getElem hlt,kS hlt];rfl);have hpw:cb<wr.heap.size:=aB e2 hbr.hN;rw[e1];have good:b.fB (b.aV k)=0→dU (λi=>b.fB (b.aV i)) (k+1)=0:=λh=>gU hok h;have bad:∀f:Int,f≠0→b.fB (b.aV k)=f→b.oL=f:=λf hf hg=>(dA hbig).trans (gW hok hg hf _ hlt);generalize b.aV k=x at *;obtain⟨kd,dy,kc,am,cc⟩:=x;have c0:=e3 0 _ rfl;have c1:=e3 1 _ rfl;have c2:=e3 2 _ rfl;have c3:=e3 3 _ rfl;have c4:=e3 4 _ rfl;simp only[Nat.add_zero]at c0
    try dsimp only at e1
    have hb1:Below wr.heap.size wr (wr.alloc (.cells #[.int .i64 kd,.int .i64 dy,.int .i64 kc,.int .i64 am,.int .i64 cc] 93)):=(Below.refl _ wr).alloc (ak _) _;have hcall:=Uf (hbr.below (hb1.mono hbr.hN)) hnc hnk htar kd dy kc am cc (hBr.below hb1);generalize b.fB ⟨kd,dy,kc,am,cc⟩=f at *;have HG:=Lib.hid good;have wZ:=Lib.hid bad;clear good bad hok e3;have HE:=(λ{w2:World} (hg2:Below (wr.alloc (.cells #[.int .i64 kd,.int .i64 dy,.int .i64 kc,.int .i64 am,.int .i64 cc] 93)).heap.size (wr.alloc (.cells #[.int .i64 kd,.int .i64 dy,.int .i64 kc,.int .i64 am,.int .i64 cc] 93)) w2)=>(hb.trans (hb1.mono hb.size)).trans (hg2.mono (Nat.le_trans hb.size hb1.size)))
    by_cases hf:f=0
    ·subst hf
     gi_wp2_with (gi_at_call 232;refine hcall.mono ?_;rintro e w2 ⟨rfl,hg2⟩)
     go_roundw
     case rel=>exact⟨k+1,by omega,by go_num,HE hg2,HG.out (by trivial)⟩
     case measure=>simp[intOf];omega
    ·gi_wp2_with (gi_at_call 232;refine hcall.mono ?_;rintro e w2 ⟨rfl,hg2⟩)
     go_ret;exact⟨fJ (wZ.out f hf rfl),HE hg2⟩
   ·obtain rfl:k=b.ps.length:=by omega
    have HO:=Lib.hid hok;clear hok;gi_wp2;go_ret;exact⟨fJ (show b.oL=0 from(dA hbig).trans HO.out),hb⟩
theorem bQ.top{N:Nat}{l:Lay}{b:aO}{w:World}(h:bQ N l b w):bQ w.heap.size l b w:=by
 have up:∀{base:Option Addr} {size:Nat} {rows:List (List Value)},bD N base size rows w→bD w.heap.size base size rows w:=λh' i r hr=>by
  obtain⟨b',o,h1,h2,h3⟩:=h' i r hr;exact⟨b',o,h1,aB h2 h.hN,h3⟩
 exact⟨ak _,up h.cs,up h.ts,up h.ks,up h.ps⟩
section
variable {N:Nat} {l:Lay} {b:aO} {w:World} (hbk:bQ N l b w) (hs:b.Small)
include hbk hs
theorem OJ:CallsIn Fz 0 Tryz.prog 156 #[.agg (l.bn b)] w λe w'=>e=.returned (.int .i64 b.fA)∧Below w.heap.size w w':=by
 have hb1:Below w.heap.size w (w.alloc (.cells (l.bn b) 123)):=(Below.refl _ w).alloc (ak _) _;have hb2:Below w.heap.size w ((w.alloc (.cells (l.bn b) 123)).alloc (.map #[] 0)):=hb1.alloc (by simp) _;have hM:=eX.made (w.alloc (.cells (l.bn b) 123));have hcall:=F5 ((hbk.top).below hb2) (M:=w.heap.size+1) (by omega) (by rw[World.size_alloc]at hM;exact hM) (by have:=hs.1;omega);have hmm:=@run_makeMap Tryz.prog;unfold Lay.bn at *;gi_enter Tryz.func156,Tryz.ntmps156
 gi_wp2_with (gi_at_call 224;refine hcall.mono ?_;rintro e w3 ⟨rfl,hg⟩)
 go_ret;exact⟨rfl,hb2.trans (nV hg (by omega) (by simp;omega))⟩
theorem J4:CallsIn Fz 0 Tryz.prog 157 #[.agg (l.bn b)] w λe w'=>e=.returned (.int .i64 b.iG)∧Below w.heap.size w w':=by
 have hb1:Below w.heap.size w (w.alloc (.cells (l.bn b) 123)):=(Below.refl _ w).alloc (ak _) _;have hb2:Below w.heap.size w ((w.alloc (.cells (l.bn b) 123)).alloc (.map #[] 0)):=hb1.alloc (by simp) _;have hb3:Below w.heap.size w (((w.alloc (.cells (l.bn b) 123)).alloc (.map #[] 0)).alloc (.cells #[.map (some (w.heap.size+1))] 346)):=hb2.alloc (by simp;omega) _;have hM:=eX.made (w.alloc (.cells (l.bn b) 123));rw[World.size_alloc]at hM;have hM2:=hM.same ((Below.refl _ _).alloc (o:=.cells #[.map (some (w.heap.size+1))] 346) (ak _));have hS:=Blk.new ((w.alloc (.cells (l.bn b) 123)).alloc (.map #[] 0)) #[.map (some (w.heap.size+1))] 346;rw[World.size_alloc,World.size_alloc]at hS;have hB:=((Blk.new w (l.bn b) 123).below ((Below.refl _ _).alloc (o:=.map #[] 0) (ak _))).below ((Below.refl _ _).alloc (o:=.cells #[.map (some (w.heap.size+1))] 346) (ak _));have hcall:=Af ((hbk.top).below hb3) (M:=w.heap.size+1) (by omega) hM2 hS hB (by have:=hs.1;omega) (by have:=hs.2.1;omega) (by have:=hs.2.2.1;omega);have hmm:=@run_makeMap Tryz.prog;unfold Lay.bn at *;gi_enter Tryz.func157,Tryz.ntmps157
 gi_wp2_with (gi_at_call 226;refine hcall.mono ?_;rintro e w3 ⟨rfl,hg⟩)
 go_ret;exact⟨rfl,hb3.trans (nV hg (by omega) (by simp;omega))⟩
theorem OI:CallsIn Fz 0 Tryz.prog 158 #[.agg (l.bn b)] w λe w'=>e=.returned (.int .i64 b.iV)∧Below w.heap.size w w':=by
 have hb1:Below w.heap.size w (w.alloc (.cells (l.bn b) 123)):=(Below.refl _ w).alloc (ak _) _;have hb2:Below w.heap.size w ((w.alloc (.cells (l.bn b) 123)).alloc (.map #[] 0)):=hb1.alloc (by simp) _;have hb3:Below w.heap.size w (((w.alloc (.cells (l.bn b) 123)).alloc (.map #[] 0)).alloc (.cells #[.map (some (w.heap.size+1))] 346)):=hb2.alloc (by simp;omega) _;have hM:=eX.made (w.alloc (.cells (l.bn b) 123));rw[World.size_alloc]at hM;have hM2:=hM.same ((Below.refl _ _).alloc (o:=.cells #[.map (some (w.heap.size+1))] 346) (ak _));have hS:=Blk.new ((w.alloc (.cells (l.bn b) 123)).alloc (.map #[] 0)) #[.map (some (w.heap.size+1))] 346;rw[World.size_alloc,World.size_alloc]at hS;have hB:=((Blk.new w (l.bn b) 123).below ((Below.refl _ _).alloc (o:=.map #[] 0) (ak _))).below ((Below.refl _ _).alloc (o:=.cells #[.map (some (w.heap.size+1))] 346) (ak _));have hcall:=FZ ((hbk.top).below hb3) (M:=w.heap.size+1) (by omega) hM2 hS hB (by have:=hs.1;omega) (by have:=hs.2.1;omega) (by have:=hs.2.2.1;omega);have hmm:=@run_makeMap Tryz.prog;unfold Lay.bn at *;gi_enter Tryz.func158,Tryz.ntmps158
 gi_wp2_with (gi_at_call 228;refine hcall.mono ?_;rintro e w3 ⟨rfl,hg⟩)
 go_ret;exact⟨rfl,hb3.trans (nV hg (by omega) (by simp;omega))⟩
theorem Ug(htar:∀c,c<b.cs.length→0≤(b.aY c).tar∧(b.aY c).tar<b.ts.length):CallsIn Fz 0 Tryz.prog 159 #[.agg (l.bn b)] w λe w'=>e=.returned (.int .i64 b.oL)∧Below w.heap.size w w':=by
 have hb1:Below w.heap.size w (w.alloc (.cells (l.bn b) 123)):=(Below.refl _ w).alloc (ak _) _;have hcall:=IC ((hbk.top).below hb1) (by have:=hs.1;omega) (by have:=hs.2.2.1;omega) (by have:=hs.2.2.2;omega) htar (Blk.new w (l.bn b) 123);unfold Lay.bn at *;gi_enter Tryz.func159,Tryz.ntmps159
 gi_wp2_with (gi_at_call 231;refine hcall.mono ?_;rintro e w3 ⟨rfl,hg⟩)
 go_ret;exact⟨rfl,hb1.trans (hg.mono (by simp))⟩
def aO.nth(b:aO):Nat→Int
 |0=>b.fA
 |1=>b.iG
 |2=>b.iV
 |_=>b.oL
omit hbk hs in
theorem SE(b:aO)(k:Nat)(hk:k<4)(h:∀i,i<k→b.nth i=0)(f:Int)(hf:f≠0)(e:b.nth k=f):b.mV=f:=by
 unfold aO.mV;rcases(show k=0∨k=1∨k=2∨k=3 by omega)with rfl|rfl|rfl|rfl
 ·have e:b.fA=f:=e;rw[if_neg (λq=>hf (e.symm.trans q)),e]
 ·have h0:b.fA=0:=h 0 (by omega);have e:b.iG=f:=e;rw[if_pos h0,if_neg (λq=>hf (e.symm.trans q)),e]
 ·have h0:b.fA=0:=h 0 (by omega);have h1:b.iG=0:=h 1 (by omega);have e:b.iV=f:=e;rw[if_pos h0,if_pos h1,if_neg (λq=>hf (e.symm.trans q)),e]
 ·have h0:b.fA=0:=h 0 (by omega);have h1:b.iG=0:=h 1 (by omega);have h2:b.iV=0:=h 2 (by omega);have e:b.oL=f:=e;rw[if_pos h0,if_pos h1,if_pos h2,e]
omit hbk hs in
theorem SC(b:aO)(h:∀i,i<4→b.nth i=0):b.mV=0:=by
 have h0:b.fA=0:=h 0 (by omega);have h1:b.iG=0:=h 1 (by omega);have h2:b.iV=0:=h 2 (by omega);have h3:b.oL=0:=h 3 (by omega);unfold aO.mV;rw[if_pos h0,if_pos h1,if_pos h2,h3]
set_option maxHeartbeats 32000000 in
theorem check_any:CallsIn Fz 0 Tryz.prog 95 #[.agg (l.bn b)] w λe w'=>e=.returned (.int .i64 b.mV)∧Below w.heap.size w w':=by
 have k0:∀{N w},bQ N l b w→_:=λ{N w} h=>OJ (N:=N) (w:=w) h hs;have k1:∀{N w},bQ N l b w→_:=λ{N w} h=>J4 (N:=N) (w:=w) h hs;have k2:∀{N w},bQ N l b w→_:=λ{N w} h=>OI (N:=N) (w:=w) h hs;have k3:∀(_:∀c,c<b.cs.length→0≤(b.aY c).tar∧(b.aY c).tar<b.ts.length) {N w},bQ N l b w→_:=λq {N w} h=>Ug (N:=N) (w:=w) h hs q;have hnth:=SE b;have hall:=SC b;have htar:b.nth 2=0→∀c,c<b.cs.length→0≤(b.aY c).tar∧(b.aY c).tar<b.ts.length:=λq c h=>((b.kX.1 q).2 c h).2.2.1;have n0:b.fA=b.nth 0:=rfl;have n1:b.iG=b.nth 1:=rfl;have n2:b.iV=b.nth 2:=rfl;have n3:b.oL=b.nth 3:=rfl;rw[n0]at k0;rw[n1]at k1;rw[n2]at k2;rw[n3]at k3;clear n0 n1 n2 n3;unfold Lay.bn at *;have i0:=idx870;have i1:=idx871;have i2:=idx872;have i3:=idx873;have hbt:=hbk.top;have HN:=Lib.hid hnth;have HA:=Lib.hid hall;have HT:=Lib.hid htar;clear hnth hall htar;gi_enter Tryz.func95,Tryz.ntmps95
 gi_wp2;gi_loopw [18] (λi wr=>∃k:Nat,k≤4∧i=.int .i64 k∧Below w.heap.size w wr∧∀i,i<k→b.nth i=0) (λi _=>4-(intOf i).toNat)
 case atStart=>exact⟨0,Nat.zero_le _,rfl,((Below.refl _ w).alloc (ak _) _).alloc (by simp) _,λi h=>absurd h (by omega)⟩
 case round=>
  obtain⟨k,hk,rfl,hb,hok⟩:=hrel;have hbr:=hbt.below hb;have hsz:=hb.size;have HO:=Lib.hid hok;clear hok;have next:∀k,Hid (∀i,i<k→b.nth i=0)→b.nth k=0→∀i,i<k+1→b.nth i=0:=λk h e i hi=>by
   by_cases q:i=k
   ·subst q;exact e
   ·exact h.out i (by omega)
  have HX:=Lib.hid next;clear next;rcases(show k=0∨k=1∨k=2∨k=3∨k=4 by omega)with rfl|rfl|rfl|rfl|rfl
  ·rw[show((0:Nat):Int)=0 from rfl];have hc:=k0 hbr;obtain⟨f,hf⟩:∃f,b.nth 0=f:=⟨_,rfl⟩
   rw[hf]at hc;have HF:=Lib.hid hf;clear hf;by_cases hz:f=0
   ·subst hz
    gi_wp2_with (gi_at_call 156;refine hc.mono ?_;rintro e w3 ⟨rfl,hg⟩)
    go_roundw
    case rel=>exact⟨1,by omega,by go_num,hb.trans (hg.mono hsz),HX.out _ HO HF.out⟩
    case measure=>simp[intOf]
   ·gi_wp2_with (gi_at_call 156;refine hc.mono ?_;rintro e w3 ⟨rfl,hg⟩)
    go_ret;exact⟨fJ (HN.out _ (by omega) HO.out _ hz HF.out),hb.trans (hg.mono hsz)⟩
  ·rw[show((1:Nat):Int)=1 from rfl];have hc:=k1 hbr;obtain⟨f,hf⟩:∃f,b.nth 1=f:=⟨_,rfl⟩
   rw[hf]at hc;have HF:=Lib.hid hf;clear hf;by_cases hz:f=0
   ·subst hz
    gi_wp2_with (gi_at_call 157;refine hc.mono ?_;rintro e w3 ⟨rfl,hg⟩)
    go_roundw
    case rel=>exact⟨2,by omega,by go_num,hb.trans (hg.mono hsz),HX.out _ HO HF.out⟩
    case measure=>simp[intOf]
   ·gi_wp2_with (gi_at_call 157;refine hc.mono ?_;rintro e w3 ⟨rfl,hg⟩)
    go_ret;exact⟨fJ (HN.out _ (by omega) HO.out _ hz HF.out),hb.trans (hg.mono hsz)⟩
  ·rw[show((2:Nat):Int)=2 from rfl];have hc:=k2 hbr;obtain⟨f,hf⟩:∃f,b.nth 2=f:=⟨_,rfl⟩
   rw[hf]at hc;have HF:=Lib.hid hf;clear hf;by_cases hz:f=0
   ·subst hz
    gi_wp2_with (gi_at_call 158;refine hc.mono ?_;rintro e w3 ⟨rfl,hg⟩)
    go_roundw
    case rel=>exact⟨3,by omega,by go_num,hb.trans (hg.mono hsz),HX.out _ HO HF.out⟩
    case measure=>simp[intOf]
   ·gi_wp2_with (gi_at_call 158;refine hc.mono ?_;rintro e w3 ⟨rfl,hg⟩)
    go_ret;exact⟨fJ (HN.out _ (by omega) HO.out _ hz HF.out),hb.trans (hg.mono hsz)⟩
  ·rw[show((3:Nat):Int)=3 from rfl];have hc:=k3 (HT.out (HO.out 2 (by omega))) hbr;obtain⟨f,hf⟩:∃f,b.nth 3=f:=⟨_,rfl⟩
   rw[hf]at hc;have HF:=Lib.hid hf;clear hf;by_cases hz:f=0
   ·subst hz
    gi_wp2_with (gi_at_call 159;refine hc.mono ?_;rintro e w3 ⟨rfl,hg⟩)
    go_roundw
    case rel=>exact⟨4,by omega,by go_num,hb.trans (hg.mono hsz),HX.out _ HO HF.out⟩
    case measure=>simp[intOf]
   ·gi_wp2_with (gi_at_call 159;refine hc.mono ?_;rintro e w3 ⟨rfl,hg⟩)
    go_ret;exact⟨fJ (HN.out _ (by omega) HO.out _ hz HF.out),hb.trans (hg.mono hsz)⟩
  ·gi_wp2;go_ret;exact⟨fJ (HA.out HO.out),hb⟩
end
end
section
set_option maxHeartbeats 1000000
set_option maxRecDepth 10000
open Go Go.RowKit Lift
def Trf.toR(t:Trf):jA:=⟨t.name,t.bg,t.base,t.each,t.free⟩
def Cas.toR(c:Cas):jw:=⟨c.name,c.tar,c.classes,c.due,c.fZ,c.extra⟩
def Pay.toR(p:Pay):dI:=⟨p.kind,p.day,p.bg,p.amount,p.cas⟩
def Book.toR(b:Book):aO:=⟨b.aK,b.ts.map Trf.toR,b.cs.map Cas.toR,b.ps.map Pay.toR⟩
theorem dZ.toR{N:Nat}{l:Lay}{b:Book}{w:World}(h:dZ N l b w):bQ N l b.toR w:=by
 refine⟨h.hN,h.cs,?_,?_,?_⟩
 ·have e:b.toR.ts.map jA.row=b.ts.map Trf.row:=by simp[Book.toR,Function.comp_def];exact λ_ _=>rfl
  rw[e];exact h.ts
 ·have e:b.toR.cs.map jw.row=b.cs.map Cas.row:=by simp[Book.toR,Function.comp_def];exact λ_ _=>rfl
  rw[e];exact h.ks
 ·have e:b.toR.ps.map dI.row=b.ps.map Pay.row:=by simp[Book.toR,Function.comp_def];exact λ_ _=>rfl
  rw[e];exact h.ps
theorem Full.toR{b:Book}(h:Full b):b.toR.Right where
 nc:=h.v.nc
 cn:=h.cn
 cd:=h.cd
 nt:=by simpa[Book.toR]using h.v.nt
 tn:=λt ht=>by obtain⟨r,hr,rfl⟩:=List.mem_map.1 ht;exact h.tn r hr
 td:=by have:=h.td;simpa[Book.toR,Trf.toR,Function.comp_def]using this
 t:=λt ht=>by
  obtain⟨r,hr,rfl⟩:=List.mem_map.1 ht;have:=h.v.t r hr;simp only[Trf.toR,Book.toR];omega
 nk:=by simpa[Book.toR]using h.v.nk
 kn:=λt ht=>by obtain⟨r,hr,rfl⟩:=List.mem_map.1 ht;exact h.kn r hr
 kd:=by have:=h.kd;simpa[Book.toR,Cas.toR,Function.comp_def]using this
 k:=λt ht=>by
  obtain⟨r,hr,rfl⟩:=List.mem_map.1 ht;have:=h.v.k r hr;simp only[Cas.toR,Book.toR,List.length_map];omega
 np:=by simpa[Book.toR]using h.v.np
 p:=λt ht=>by
  obtain⟨r,hr,rfl⟩:=List.mem_map.1 ht;have q:=h.v.p r hr;have m:=h.mv r hr;simp only[Pay.toR,Book.toR,List.length_map];refine⟨by omega,by omega,by omega,by omega,λe=>?_,λe=>?_,λe=>?_⟩
  ·have:=q.2.2.2.2.2.2.1 (by omega);omega
  ·have:=q.2.2.2.2.2.2.2 (by omega);omega
  ·have hk:r.kind=2:=by omega
   have hc:=q.2.2.2.2.2.2.2 (by omega);have e1:b.cs[r.cas]?=some b.cs[r.cas]:=by simp[hc]
   have ht:=(h.v.k _ (List.mem_of_getElem? e1)).1;rw[m hk];simp only[Book.bg,Book.dM,Int.toNat_natCast,List.getD_eq_getElem?_getD,List.getElem?_map,e1,Option.map_some,Option.getD_some,Cas.toR,List.getElem?_eq_getElem ht,Trf.toR]
theorem RF{N:Nat}{l:Lay}{b:Book}{w:World}(hbk:dZ N l b w)(hf:Full b) :
  CallsIn Fz 0 Tryz.prog 95 #[l.val b] w λe w'=>e=.returned (.int .i64 0)∧Below w.heap.size w w':=by
 have h:=check_any hbk.toR (b:=b.toR) ⟨by have:=hf.v.nc;simp only[Book.toR];omega,by have:=hf.v.nt;simp only[Book.toR,List.length_map];omega,by have:=hf.v.nk;simp only[Book.toR,List.length_map];omega,by have:=hf.v.np;simp only[Book.toR,List.length_map];omega⟩;rw[b.toR.Em.2 hf.toR]at h;have e:Value.agg (l.bn b.toR)=l.val b:=by simp[Lay.val,Lay.bn,Book.toR]
 rw[e]at h;exact h
end
section
set_option maxHeartbeats 1000000
set_option maxRecDepth 10000
open Go Go.RowKit Lift
theorem load77{w:World}{B:Nat}{a b c d:Value}(h:Blk w B 123 #[a,b,c,d]):(loadVar 123 ⟨B,0,none⟩).run Tryz.prog w=.ok (.agg #[a,b,c,d]) w:=by
 have c0:=h.cell 0;have c1:=h.cell 1;have c2:=h.cell 2;have c3:=h.cell 3;simp at c0 c1 c2 c3;have hs:=Tryz.sizeOf123;have ha:=Tryz.isAgg123;simp[loadVar,go_sem,c0,c1,c2,c3,hs,ha,loadCells,loadCellsFrom,Addr.add]
set_option maxHeartbeats 16000000 in
theorem kV{N:Nat}{l:Lay}{b:Book}{w:World}(hbk:dZ N l b w)(hf:Full b){day:Int}(h0:0≤day)(h1:day≤9999) :
  CallsIn Fz 0 Tryz.prog 45 #[l.val b,.bool true,.int .i64 day] w λe w'=>e=.returned (.tuple #[l.val b,.int .i64 0])∧Below w.heap.size w w':=by
 have hb1:Below w.heap.size w (w.alloc (.cells (l.arr b) 27)):=(Below.refl _ w).alloc (ak _) _;have hb2:Below w.heap.size w ((w.alloc (.cells (l.arr b) 27)).alloc (.cells #[.slice none 0 0,.slice none 0 0,.slice none 0 0,.slice none 0 0] 123)):=hb1.alloc (by simp) _;have hA:=(Blk.new w (l.arr b) 27).below ((Below.refl _ _).alloc (o:=.cells #[.slice none 0 0,.slice none 0 0,.slice none 0 0,.slice none 0 0] 123) (ak _));have hT:=Blk.new (w.alloc (.cells (l.arr b) 27)) #[.slice none 0 0,.slice none 0 0,.slice none 0 0,.slice none 0 0] 123;rw[World.size_alloc]at hT;have hc:=RF (hbk.top.below hb2) hf;unfold Lay.val at *;gi_enter Tryz.func45,Tryz.ntmps45
 gi_wp2_with (first
  |(gi_at_call 95;refine hc.mono ?_;rintro e w3 ⟨rfl,hb3⟩;have hA3:=hA.below hb3;have hT3:=hT.below hb3;have a0:=hA3.cell 0;have a1:=hA3.cell 1;have a2:=hA3.cell 2;have a3:=hA3.cell 3;have t0:=hT3.cell 0;have t1:=hT3.cell 1;have t2:=hT3.cell 2;have t3:=hT3.cell 3;have f0:=hT3.frozen 0;have f1:=hT3.frozen 1;have f2:=hT3.frozen 2;have f3:=hT3.frozen 3;simp at a0 a1 a2 a3 t0 t1 t2 t3)
  |(gi_at_call 96;refine(AB _ _).mono ?_;rintro e w4 ⟨rfl,rfl⟩))
 have hF:=(((hT3.put 0 (.slice l.cb b.aK.length l.cc)).put 1 (.slice l.tb b.ts.length l.tc)).put 2 (.slice l.kb b.cs.length l.kc)).put 3 (.slice l.pb b.ps.length l.pc);simp only[aj,ay,au]at hF;have hB4:=(hb2.trans (hb3.mono (by simp;omega)))
 (try simp only[Exit.inBlock,Exit.then])
 refine bodyPost_ret (v:=.tuple #[.agg (l.arr b),.int .i64 0]) ?_ rfl ⟨rfl,(((hB4.setCell (p:=⟨w.heap.size+1,0,none⟩) (by simp) _).setCell (p:=⟨w.heap.size+1,1,none⟩) (by simp) _).setCell (p:=⟨w.heap.size+1,2,none⟩) (by simp) _).setCell (p:=⟨w.heap.size+1,3,none⟩) (by simp) _⟩;rw[results_cell_tmp rfl];simp[asAddr,Result.andThen,load77 hF,Lay.arr]
end
section
set_option maxHeartbeats 1000000
set_option maxRecDepth 10000
open Go Go.RowKit Lift
def jF:Array Value:=#[.slice none 0 0,.slice none 0 0,.slice none 0 0,.slice none 0 0]
def WB(w0:World)(ka ks:Nat)(cs:Array Value):Wg:=λD x w=>Below w0.heap.size w0 w∧(D ka=true→∃B,x=.pointer (some ⟨B,0,none⟩)∧w0.heap.size≤B∧Blk w B 123 (if D ks=true then cs else jF))
section
variable {w0 w w':World} {ka ks i:Nat} {cs:Array Value} {D:Nat→Bool} {x:Value} {ops:Array Oper}
theorem WB.step(h:WB w0 ka ks cs D x w)(hi:i≠ka)(hs:i≠ks)(hb:Below w.heap.size w w'):WB w0 ka ks cs (aX D i) x w':=by
 have e1:aX D i ka=D ka:=by simp[aX,Ne.symm hi]
 have e2:aX D i ks=D ks:=by simp[aX,Ne.symm hs]
 refine⟨h.1.trans (hb.mono h.1.size),λhd=>?_⟩;rw[e1]at hd;obtain⟨B,h1,h2,h3⟩:=h.2 hd;rw[e2];exact⟨B,h1,h2,h3.below hb⟩
theorem WB.make(hm:qK ops D ka)(hb:fH ops ks ka=true)(h:WB w0 ka ks cs D x w):WB w0 ka ks cs (aX D ka) (.pointer (some ⟨w.heap.size,0,none⟩)) (w.alloc (.cells jF 123)):=by
 refine⟨h.1.alloc h.1.size _,λ_=>⟨_,rfl,h.1.size,?_⟩⟩;have e:aX D ka ks=false:=by
  have h1:=hm.2.2 ks hb;unfold aX;rw[h1,Bool.false_or];by_cases e:ks=ka
  ·subst e;have:=hm.2.1 ks hb;rw[h1]at this;cases this
  ·simp[e]
 rw[e];exact Blk.new w jF 123
theorem WB.store(hm:qK ops D ks)(hb:fH ops ks ka=true)(h:WB w0 ka ks cs D x w):∃B,x=.pointer (some ⟨B,0,none⟩)∧w0.heap.size≤B∧Blk w B 123 jF∧∀w',Blk w' B 123 cs→Below w0.heap.size w0 w'→WB w0 ka ks cs (aX D ks) x w':=by
 obtain⟨B,h1,h2,h3⟩:=h.2 (hm.2.1 ka hb);have e:D ks=false:=hm.1;rw[e]at h3;refine⟨B,h1,h2,h3,λw' k1 k2=>⟨k2,λ_=>⟨B,h1,h2,?_⟩⟩⟩;have:aX D ks ks=true:=by simp[aX]
 rw[this];exact k1
end
theorem oV{d:Tmp}{pos:String}{after:Array Edge}{ty:TypeId}(a:Act)(w:World)(K:Act→World→Prop)(Q:Exit→Act→World→Prop)(hK:K (a.put (some d) (.pointer (some ⟨w.heap.size,0,none⟩))) (w.alloc (.cells jF 123))) :
  Oper.wpIn Fz 0 Tryz.prog { dst:=some d,op:=.alloc 123,type:=ty,pos,after,guard:=none } a w K Q:=by
 unfold jF at hK;gi_wp2;exact hK
set_option maxHeartbeats 32000000 in
theorem QU{N:Nat}{l:Lay}{b:Book}{w:World}(hbk:dZ N l b w)(hf:Full b){c:Nat}(hc:c<b.cs.length){day:Int}(h0:0≤day)(h1:day≤9999) :
  CallsIn Fz 0 Tryz.prog 23 #[l.val b,.int .i64 c,.int .i64 day] w λe w'=>e=.returned (.tuple #[.int .i64 (b.fee c day).1,.bool (b.fee c day).2,.int .i64 0])∧Below w.heap.size w w':=by
 have hnk:=hf.v.nk;have c1:(c:Int)≤b.cs.length-1:=by omega
 have hb1:Below w.heap.size w (w.alloc (.cells (l.arr b) 27)):=(Below.refl _ w).alloc (ak _) _;have hA1:=Blk.new w (l.arr b) 27;have hbk1:=hbk.top.below hb1;have hfee:∀w',Below w.heap.size w w'→_:=λw' h=>lu (hbk.top.below h) hf.v hc day;have jG:=λw' (h:Below w.heap.size w w')=>kV (hbk.top.below h) hf h0 h1;unfold Lay.val at *;gi_enter Tryz.func23,Tryz.ntmps23
 gi_wp2;generalize w.alloc _=W at *;refine gB rfl mixed (by kernel_rfl) (WB W 10 11 (l.arr b)) 9 (x₀:=undef) rfl ⟨(show Below W.heap.size W { W with drawn:=W.drawn+1 }from⟨rfl,rfl,rfl,ak _,λ_ _=>rfl⟩),λh=>by cases h⟩ ?_;simp only[aG,aC,aF,Nat.reduceAdd,Nat.zero_add,List.range,List.range.loop]
 iterate 2
  refine bG rfl (λ_=>rfl) (by decide) rfl ?_;apply ah;refine⟨λD x w' hm hW K Q hK=>?_,?_⟩
  ·have q:=hA1.below hW.1;have q0:=q.cell 0;have q1:=q.cell 1;have q2:=q.cell 2;have q3:=q.cell 3;simp at q0 q1 q2 q3;simp only[Lift.Act.dG,aj,ay,au];gi_wp2;exact hW.step (by decide) (by decide) (Below.refl _ _)
  apply ah;refine⟨λx=>rfl,?_⟩;refine bG rfl (λ_=>rfl) (by decide) rfl ?_;apply ah;refine⟨λD x w' hm hW K Q hK=>?_,?_⟩
  ·simp only[Lift.Act.dG,aj,ay,au];gi_wp2;exact hW.step (by decide) (by decide) (Below.refl _ _)
  apply ah;refine⟨λx=>rfl,?_⟩
 refine bG rfl (λ_=>rfl) (by decide) rfl ?_;apply ah;refine⟨λD x w' hm hW K Q hK=>?_,?_⟩
 ·simp only[Lift.Act.dG,aj,ay,au]
  gi_wp2_with (gi_at_call 46;refine(lG _ _ _ _ (by omega) _).mono ?_;rintro e w3 ⟨rfl,rfl⟩)
  exact hW.step (by decide) (by decide) (Below.refl _ _)
 apply ah;refine⟨λx=>rfl,?_⟩;refine bG rfl (λ_=>rfl) (by decide) rfl ?_;apply ah;refine⟨λD x w' hm hW K Q hK=>?_,?_⟩
 ·simp only[Lift.Act.dG,aj,ay,au];gi_wp2;exact hW.step (by decide) (by decide) (Below.refl _ _)
 apply ah;refine⟨λx=>rfl,?_⟩;refine bG rfl (λ_=>rfl) (by decide) rfl ?_;apply ah;refine⟨λD x w' hm hW K Q hK=>?_,?_⟩
 ·simp only[Lift.Act.dG,aj,ay,au]
  gi_wp2_with (gi_at_call 45;refine(jG _ (hb1.trans (hW.1.mono hb1.size))).mono ?_;rintro e w3 ⟨rfl,hb⟩)
  exact hW.step (by decide) (by decide) hb
 iterate 3
  apply ah;refine⟨λx=>rfl,?_⟩;refine bG rfl (λ_=>rfl) (by decide) rfl ?_;apply ah;refine⟨λD x w' hm hW K Q hK=>?_,?_⟩
  ·simp only[Lift.Act.dG,aj,ay,au];gi_wp2;exact hW.step (by decide) (by decide) (Below.refl _ _)
 apply ah;refine⟨λx=>rfl,?_⟩;refine zD rfl (λ_=>rfl) rfl rfl (λD x w' hm hW K Q hK=>oV _ _ _ _ (hK _ _ (WB.make hm (by kernel_rfl) hW))) ?_;refine kM rfl (λ_=>rfl) rfl (λD x w' hm hW K Q hK=>?_) ?_
 ·obtain⟨B,rfl,hB0,pq,hBk⟩:=WB.store hm (by kernel_rfl) hW;have z0:=pq.cell 0;have z1:=pq.cell 1;have z2:=pq.cell 2;have z3:=pq.cell 3;have y0:=pq.frozen 0;have y1:=pq.frozen 1;have y2:=pq.frozen 2;have y3:=pq.frozen 3;simp[jF]at z0 z1 z2 z3;simp only[Lift.Act.dG,aj,ay,au]at hK ⊢;gi_wp2;refine hBk _ ?_ ?_
  ·have:=(((pq.put 0 (.slice l.cb b.aK.length l.cc)).put 1 (.slice l.tb b.ts.length l.tc)).put 2 (.slice l.kb b.cs.length l.kc)).put 3 (.slice l.pb b.ps.length l.pc);simpa only[jF,aj,ay,au]using this
  ·exact(((hW.1.setCell (p:=⟨B,0,none⟩) hB0 _).setCell (p:=⟨B,1,none⟩) hB0 _).setCell (p:=⟨B,2,none⟩) hB0 _).setCell (p:=⟨B,3,none⟩) hB0 _
 refine bG rfl (λ_=>rfl) (by decide) rfl ?_;apply ah;refine⟨λD x w' hm hW K Q hK=>?_,?_⟩
 ·simp only[Lift.Act.dG,aj,ay,au];gi_wp2;exact hW.step (by decide) (by decide) (Below.refl _ _)
 apply ah;refine⟨λx=>rfl,?_⟩;rintro x w2 ⟨hb2,hx⟩;obtain⟨B,rfl,hB0,hB⟩:=hx rfl;have hB:Blk w2 B 123 (l.arr b):=hB;have g0:=hB.cell 0;have g1:=hB.cell 1;have g2:=hB.cell 2;have g3:=hB.cell 3;simp at g0 g1 g2 g3;have HB:=hb1.trans (hb2.mono hb1.size);simp only[Lift.Act.dG,aj,ay,au]
 gi_wp2_with (gi_at_call 63;refine(hfee _ HB).mono ?_;rintro e w3 ⟨rfl,hb3⟩)
 (try simp only[Exit.inBlock,Exit.then])
 refine bodyPost_ret (results_tmp3 rfl _ _ _) rfl ?_;exact⟨rfl,HB.trans (hb3.mono HB.size)⟩
end
