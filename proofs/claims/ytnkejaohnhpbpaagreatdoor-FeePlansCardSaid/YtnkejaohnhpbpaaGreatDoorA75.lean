/- The specification's lapse and keep, on a book that is valid: inside the fence. PRINTED BY A PROGRAM (qc.py). -/
import Derived.Test.YtnkejaohnhpbpaaGreatDoorA74
set_option linter.all false
namespace Go.Proofs.YtnkejaohnhpbpaaGreatDoor
section
open Go Go.RowKit Lift
theorem Rj(a h n:Int):wrap64 (wrap64 (a+h)-n)=wrap64 (a+wrap64 (h-n)):=by unfold wrap64;omega
theorem yO{b:Book}{c:Nat}{d:Int}(h:(b.fee c d).2=true):b.zA c d=(b.fee c d).1:=by unfold Book.zA Jy;rw[if_pos h]
theorem EZ{b:Book}{c:Nat}{d:Int}(h:(b.fee c d).2=false):b.zA c d=-1:=by unfold Book.zA Jy;rw[if_neg (by rw[h];decide)]
theorem St.ext5{s t:St}(h1:∀c,s.cases c=t.cases c)(h2:∀k,s.acc k=t.acc k)(h3:∀k,s.tkn k=t.tkn k)(h4:s.pd=t.pd)(h5:s.bM=t.bM):s=t:=by
 obtain⟨a,b,c,d,e⟩:=s;obtain⟨a',b',c',d',e'⟩:=t;simp only at h1 h2 h3 h4 h5;rw[funext h1,funext h2,funext h3,h4,h5]
theorem Qm(b:Book)(day:Int)(c:Nat)(s:St):St.wU b day c s={ s with cases:=upd s.cases c ⟨1,0,day,(b.fee c day).1⟩,acc:=upd s.acc (b.aN c) (wrap64 (wrap64 (s.acc (b.aN c)+(s.cases c).held) - (b.fee c day).1)),tkn:=upd s.tkn (b.aN c) (wrap64 (s.tkn (b.aN c)+(b.fee c day).1)) }:=by
 refine St.ext5 (λi=>?_) (λi=>?_) (λi=>?_) rfl rfl
 ·simp only[St.wU,St.kept,St.give,St.rW,St.iF,fP];by_cases q:i=c<;>simp[q]
 ·simp only[St.wU,St.kept,St.give,St.rW,St.iF,fP,Rj,if_true]
 ·simp only[St.wU,St.kept,St.give,St.rW,St.iF,fP]
theorem Nl(b:Book)(c:Nat)(s:St):(s.give b c).setState c 2={ s with cases:=upd s.cases c ⟨2,0,(s.cases c).day,(s.cases c).fee⟩,acc:=upd s.acc (b.aN c) (wrap64 (s.acc (b.aN c)+(s.cases c).held)) }:=by
 refine St.ext5 (λi=>?_) (λi=>?_) (λi=>rfl) rfl rfl
 ·simp only[St.setState,St.give,fP];by_cases q:i=c<;>simp[q]
 ·simp only[St.setState,St.give,fP]
theorem DW(s:St)(k:Nat):s.upc k ⟨(s.cases k).state,(s.cases k).held,(s.cases k).day,(s.cases k).fee⟩=s:=by
 refine St.ext5 (λi=>?_) (λ_=>rfl) (λ_=>rfl) rfl rfl;simp only[St.upc,fP];by_cases q:i=k
 ·subst q;simp
 ·simp[q]
set_option maxRecDepth 1000000 in
set_option maxHeartbeats 16000000 in
theorem JO{N:Nat}{l:Lay}{b:Book}{R:RW}{s:St}{w:World}(hbk:dQ N l b w)(hv:Valid b)(H:bP N R b s w)(day:Int) :
  CallsIn Fz 0 Tryz.prog 114 #[l.val b,.agg (R.arr b),.int .i64 day] w λe w'=>e=.returned (.tuple #[])∧bP N R b (s.keep b day) w'∧Tch (R.has b) w w':=by
 have hnk:=hv.nk;have hnc:=hv.nc;have hb1:Below w.heap.size w (w.alloc (.cells (l.arr b) 27)):=(Below.refl _ w).alloc (ay _) _;have hb2:Below w.heap.size w ((w.alloc (.cells (l.arr b) 27)).alloc (.cells (R.arr b) 102)):=hb1.alloc (by simp) _;have hA:=(Blk.new w (l.arr b) 27).below ((Below.refl _ _).alloc (o:=.cells (R.arr b) 102) (ay _));have hR:=Blk.new (w.alloc (.cells (l.arr b) 27)) (R.arr b) 102;rw[World.size_alloc]at hR;have H1:=H.same hb2;have hbk1:=hbk.below (hb2.mono hbk.hN);have hfA:=H.free (ay _);have pU:=H.free (Nat.le_succ _);have hT0:Tch (R.has b) w _:=Tch.of_below hb2;have fO:∀k,R.has b k→N≤k:=λk q=>H.least q;clear hb1 hb2 H hbk;unfold Lay.val;gi_enter Tryz.func114,Tryz.ntmps114
 gi_wp2;generalize (w.alloc _).alloc _=W at *;have a0:=hA.cell 0;have a1:=hA.cell 1;have a2:=hA.cell 2;have a3:=hA.cell 3;simp at a0 a1 a2 a3;have kU:=hA.lt;gi_loopw [6] (λi wr=>∃k:Nat,k≤b.cs.length∧i=.int .i64 k∧bP N R b (iter (St.iP b day) k s) wr∧Tch (R.has b) W wr) (λi _=>b.cs.length-(intOf i).toNat)
 case atStart=>exact⟨0,Nat.zero_le _,rfl,H1,Tch.refl _ _⟩
 case round=>
  obtain⟨k,hk,rfl,G,hT⟩:=hrel;clear a0 a1 a2 a3 kU;have hAr:=hA.tch hT hfA;have hRr:=hR.tch hT pU;have hbr:=hbk1.below (hT.below hbk1.hN fO);by_cases hl:k<b.cs.length
  ·obtain⟨hq1,hq3⟩:=hv.aN hl;have h0k:0<b.cs.length:=by omega
   have h0c:0<b.aJ.length:=by omega
   have e0:=G.at_ 0 (by omega) h0k;have e1:=G.at_ 1 (by omega) h0k;have e2:=G.at_ 2 (by omega) h0k;have e3:=G.at_ 3 (by omega) h0k;have e4:=G.at_ 4 (by omega) h0c;have e5:=G.at_ 5 (by omega) h0c;have e6:=G.at_ 6 (by omega) h0c;have d0:k<cnt b 0:=hl;have d1:k<cnt b 1:=hl;have rP:=λ{w'} (h:Below wr.heap.size wr w')=>BK (hbr.below (h.mono hbr.hN)) hv hl day;have jC:=λ{w'} (h:Below wr.heap.size wr w')=>pF (hbr.below (h.mono hbr.hN)) hv hl;have hfl:=hv.yP hl day;unfold Lay.val at rP jC;have hstep:iter (St.iP b day) (k+1) s=St.iP b day k (iter (St.iP b day) k s):=rfl;generalize iter (St.iP b day) k s=S at *;obtain⟨kc,hkc⟩:∃kc,b.aN k=kc:=⟨_,rfl⟩
   rw[hkc]at hq1 hq3 jC;by_cases hs:(S.cases k).state=0
   ·cases hd:(b.fee k day).2 with
    |false=>
     have hfo:=EZ hd;rw[hfo]at rP;have hL:iter (St.iP b day) (k+1) s=S:=hstep.trans (if_neg (λq=>by rw[hd]at q;exact absurd q.2.1 (by decide)));clear hstep;have a0:=hAr.cell 0;have a1:=hAr.cell 1;have a2:=hAr.cell 2;have a3:=hAr.cell 3;have r0:=hRr.cell 0;have r1:=hRr.cell 1;have r2:=hRr.cell 2;have r3:=hRr.cell 3;have r4:=hRr.cell 4;have r5:=hRr.cell 5;have r6:=hRr.cell 6;have r7:=hRr.cell 7;simp at a0 a1 a2 a3 r0 r1 r2 r3 r4 r5 r6 r7;rw[e0]at r0;rw[e1]at r1;rw[e2]at r2;rw[e3]at r3;rw[e4]at r4;rw[e5]at r5;rw[e6]at r6;have kU:=hAr.lt;have lD:=hRr.lt
     gi_wp2_with (gi_at_call 48;with_reducible refine(rP (Below.refl _ _)).mono ?_;rintro e w2 ⟨rfl,hb2⟩;have hA2:=hAr.below hb2;have hR2:=hRr.below hb2;have G2:=G.same hb2;clear a0 a1 a2 a3 r0 r1 r2 r3 r4 r5 r6 r7 kU lD;have a0:=hA2.cell 0;have a1:=hA2.cell 1;have a2:=hA2.cell 2;have a3:=hA2.cell 3;have r0:=hR2.cell 0;have r1:=hR2.cell 1;have r2:=hR2.cell 2;have r3:=hR2.cell 3;have r4:=hR2.cell 4;have r5:=hR2.cell 5;have r6:=hR2.cell 6;have r7:=hR2.cell 7;simp at a0 a1 a2 a3 r0 r1 r2 r3 r4 r5 r6 r7;rw[e0]at r0;rw[e1]at r1;rw[e2]at r2;rw[e3]at r3;rw[e4]at r4;rw[e5]at r5;rw[e6]at r6;have kU:=hA2.lt;have lD:=hR2.lt;have s0:=G2.cell (j:=0) (i:=k) (by omega) d0;have s1:=G2.cell (j:=1) (i:=k) (by omega) d1;simp only[cval]at s0 s1;have AV:=G2.blt (j:=0) (i:=k) (by omega) d0;have RD:=G2.blt (j:=1) (i:=k) (by omega) d1)
     go_roundw
     case rel=>exact⟨k+1,by omega,by go_num,by rw[hL];exact G2,hT.trans (Tch.of_below hb2)⟩
     case measure=>simp[intOf];omega
    |true=>
     have hfo:=yO hd;rw[hfo]at rP;by_cases hle:(b.fee k day).1≤(S.cases k).held
     ·have hL:iter (St.iP b day) (k+1) s=St.wU b day k S:=hstep.trans (if_pos ⟨hs,hd,hle⟩);rw[Qm,hkc]at hL;clear hstep hd hfo;obtain⟨n,hn⟩:∃n,(b.fee k day).1=n:=⟨_,rfl⟩
      rw[hn]at rP hle hL hfl;have HL:=Lib.hid hL;have HK:=Lib.hid hkc;clear hL hn hkc;have hn0:¬n<0:=by omega
      have hn1:¬(S.cases k).held<n:=by omega
      have a0:=hAr.cell 0;have a1:=hAr.cell 1;have a2:=hAr.cell 2;have a3:=hAr.cell 3;have r0:=hRr.cell 0;have r1:=hRr.cell 1;have r2:=hRr.cell 2;have r3:=hRr.cell 3;have r4:=hRr.cell 4;have r5:=hRr.cell 5;have r6:=hRr.cell 6;have r7:=hRr.cell 7;simp at a0 a1 a2 a3 r0 r1 r2 r3 r4 r5 r6 r7;rw[e0]at r0;rw[e1]at r1;rw[e2]at r2;rw[e3]at r3;rw[e4]at r4;rw[e5]at r5;rw[e6]at r6;have kU:=hAr.lt;have lD:=hRr.lt
      gi_wp2_with (first
       |(gi_at_call 48;with_reducible refine(rP (Below.refl _ _)).mono ?_;rintro e w2 ⟨rfl,hb2⟩;have hA2:=hAr.below hb2;have hR2:=hRr.below hb2;have G2:=G.same hb2;clear a0 a1 a2 a3 r0 r1 r2 r3 r4 r5 r6 r7 kU lD;have a0:=hA2.cell 0;have a1:=hA2.cell 1;have a2:=hA2.cell 2;have a3:=hA2.cell 3;have r0:=hR2.cell 0;have r1:=hR2.cell 1;have r2:=hR2.cell 2;have r3:=hR2.cell 3;have r4:=hR2.cell 4;have r5:=hR2.cell 5;have r6:=hR2.cell 6;have r7:=hR2.cell 7;simp at a0 a1 a2 a3 r0 r1 r2 r3 r4 r5 r6 r7;rw[e0]at r0;rw[e1]at r1;rw[e2]at r2;rw[e3]at r3;rw[e4]at r4;rw[e5]at r5;rw[e6]at r6;have kU:=hA2.lt;have lD:=hR2.lt;have s0:=G2.cell (j:=0) (i:=k) (by omega) d0;have s1:=G2.cell (j:=1) (i:=k) (by omega) d1;simp only[cval]at s0 s1;have AV:=G2.blt (j:=0) (i:=k) (by omega) d0;have RD:=G2.blt (j:=1) (i:=k) (by omega) d1)
       |(gi_at_call 62;with_reducible refine(jC hb2).mono ?_;rintro e w3 ⟨rfl,hb3⟩;have hb23:=hb2.trans (hb3.mono hb2.size);have D7:=hR2.below hb3;have G3:=G2.same hb3;clear a0 a1 a2 a3 r0 r1 r2 r3 r4 r5 r6 r7 kU lD;clear s0 s1 AV RD))
      refine aV rfl mixed (by kernel_rfl) (WQ N R b w3 (λD=>{ S with acc:=if D 27=true then upd S.acc kc (wrap64 (wrap64 (S.acc kc+(S.cases k).held) - n))else S.acc,tkn:=if D 29=true then upd S.tkn kc (wrap64 (S.tkn kc+n))else S.tkn })) [] (x₀:=λ_=>undef) (λg hg=>by cases hg) (WQ.start G3 rfl) ?_;simp only[aC,aB,aF,Nat.reduceAdd,List.range,List.range.loop]
      iterate 30
       (first
        |(refine jS rfl rfl rfl (λD x w' hm hW K Q hK=>?_) ?_
          ·have ds:=hm.1;have z:=hW.1.cell (j:=4) (i:=kc) (by omega) hq1;have y:=hW.1.frozen (j:=4) (i:=kc) (by omega) hq1;have lt:=hW.1.blt (j:=4) (i:=kc) (by omega) hq1;simp only[cval]at z;have hst:=hW.put (i:=27) (j:=4) (c:=kc) (by omega) hq1 (hW.1.FY hq1 (wrap64 (wrap64 (S.acc kc+(S.cases k).held) - n))) (by simp[aQ,ds]);gi_wp2
           all_goals exact hst)
        |(refine jS rfl rfl rfl (λD x w' hm hW K Q hK=>?_) ?_
          ·have ds:=hm.1;have z:=hW.1.cell (j:=5) (i:=kc) (by omega) hq1;have y:=hW.1.frozen (j:=5) (i:=kc) (by omega) hq1;have lt:=hW.1.blt (j:=5) (i:=kc) (by omega) hq1;simp only[cval]at z;have hst:=hW.put (i:=29) (j:=5) (c:=kc) (by omega) hq1 (hW.1.setTk hq1 (wrap64 (S.tkn kc+n))) (by simp[aQ,ds]);gi_wp2
           all_goals exact hst)
        |(refine dn rfl rfl ?_
          apply ah;refine⟨λD x w' hm hW K Q hK=>?_,?_⟩
          ·have q:=D7.tch hW.2 pU;have mV:=q.lt;have q1:=q.cell 1;have q4:=q.cell 4;have q5:=q.cell 5;simp at q1 q4 q5;rw[e1]at q1;rw[e4]at q4;rw[e5]at q5;have z:=hW.1.cell (j:=1) (i:=k) (by omega) hl;have uI:=hW.1.blt (j:=1) (i:=k) (by omega) hl;simp only[cval]at z;(try (have ds:=hm.2.2 27 (by decide +kernel);have z:=hW.1.cell (j:=4) (i:=kc) (by omega) hq1;have uI:=hW.1.blt (j:=4) (i:=kc) (by omega) hq1;simp only[cval,ds,Bool.false_eq_true,if_false]at z));(try (have ds:=hm.2.2 29 (by decide +kernel);have z:=hW.1.cell (j:=5) (i:=kc) (by omega) hq1;have uI:=hW.1.blt (j:=5) (i:=kc) (by omega) hq1;simp only[cval,ds,Bool.false_eq_true,if_false]at z));gi_wp2;exact hW.keep (by simp[aQ])
          refine⟨_,rfl,?_⟩))
      rintro x w5 ⟨G5,qW⟩;have G5:bP N R b { S with acc:=upd S.acc kc (wrap64 (wrap64 (S.acc kc+(S.cases k).held) - n)),tkn:=upd S.tkn kc (wrap64 (S.tkn kc+n)) } w5:=G5;have xE:=D7.tch qW pU;simp only[Lift.Act.bC,List.foldl_cons,List.foldl_nil,aj,au,ak];generalize hS5:{ S with acc:=upd S.acc kc (wrap64 (wrap64 (S.acc kc+(S.cases k).held) - n)),tkn:=upd S.tkn kc (wrap64 (S.tkn kc+n)) }=S5 at G5;have HS:=Lib.hid hS5;clear hS5
      gi_wp2_with fail
      refine aV rfl mixed (by kernel_rfl) (WQ N R b w5 (λD=>S5.upc k ⟨if D 15=true then 1 else(S5.cases k).state,if D 17=true then 0 else(S5.cases k).held,if D 19=true then day else(S5.cases k).day,if D 21=true then n else(S5.cases k).fee⟩)) [] (x₀:=λ_=>undef) (λg hg=>by cases hg) (WQ.start G5 (DW S5 k)) ?_;simp only[aC,aB,aF,Nat.reduceAdd,List.range,List.range.loop]
      iterate 22
       (first
        |(refine jS rfl rfl rfl (λD x w' hm hW K Q hK=>?_) ?_
          ·have ds:=hm.1;have z:=hW.1.cell (j:=0) (i:=k) (by omega) hl;have y:=hW.1.frozen (j:=0) (i:=k) (by omega) hl;have lt:=hW.1.blt (j:=0) (i:=k) (by omega) hl;simp only[cval]at z;have hst:=hW.put (i:=15) (j:=0) (c:=k) (by omega) hl (hW.1.setSt hl 1) (by simp[aQ,ds,St.upc,kK]);gi_wp2
           all_goals exact hst)
        |(refine jS rfl rfl rfl (λD x w' hm hW K Q hK=>?_) ?_
          ·have ds:=hm.1;have z:=hW.1.cell (j:=1) (i:=k) (by omega) hl;have y:=hW.1.frozen (j:=1) (i:=k) (by omega) hl;have lt:=hW.1.blt (j:=1) (i:=k) (by omega) hl;simp only[cval]at z;have hst:=hW.put (i:=17) (j:=1) (c:=k) (by omega) hl (hW.1.O4 hl 0) (by simp[aQ,ds,St.upc,kK]);gi_wp2
           all_goals exact hst)
        |(refine jS rfl rfl rfl (λD x w' hm hW K Q hK=>?_) ?_
          ·have ds:=hm.1;have z:=hW.1.cell (j:=2) (i:=k) (by omega) hl;have y:=hW.1.frozen (j:=2) (i:=k) (by omega) hl;have lt:=hW.1.blt (j:=2) (i:=k) (by omega) hl;simp only[cval]at z;have hst:=hW.put (i:=19) (j:=2) (c:=k) (by omega) hl (hW.1.setDy hl day) (by simp[aQ,ds,St.upc,kK]);gi_wp2
           all_goals exact hst)
        |(refine jS rfl rfl rfl (λD x w' hm hW K Q hK=>?_) ?_
          ·have ds:=hm.1;have z:=hW.1.cell (j:=3) (i:=k) (by omega) hl;have y:=hW.1.frozen (j:=3) (i:=k) (by omega) hl;have lt:=hW.1.blt (j:=3) (i:=k) (by omega) hl;simp only[cval]at z;have hst:=hW.put (i:=21) (j:=3) (c:=k) (by omega) hl (hW.1.setFe hl n) (by simp[aQ,ds,St.upc,kK]);gi_wp2
           all_goals exact hst)
        |(refine dn rfl rfl ?_
          apply ah;refine⟨λD x w' hm hW K Q hK=>?_,?_⟩
          ·have q:=xE.tch hW.2 pU;have mV:=q.lt;have q0:=q.cell 0;have q1:=q.cell 1;have q2:=q.cell 2;have q3:=q.cell 3;simp at q0 q1 q2 q3;rw[e0]at q0;rw[e1]at q1;rw[e2]at q2;rw[e3]at q3;gi_wp2;exact hW.keep (by simp[aQ])
          refine⟨_,rfl,?_⟩))
      rintro x w6 ⟨G6,Rz⟩;have G6:bP N R b (S5.upc k ⟨1,0,day,n⟩) w6:=G6;simp only[Lift.Act.bC,List.foldl_cons,List.foldl_nil,aj,au,ak];gi_wp2;go_roundw
      case rel=>exact⟨k+1,by omega,by go_num,by rw[HL.out,show({ S with cases:=upd S.cases k ⟨1,0,day,n⟩,acc:=upd S.acc kc (wrap64 (wrap64 (S.acc kc+(S.cases k).held) - n)),tkn:=upd S.tkn kc (wrap64 (S.tkn kc+n)) }:St)=S5.upc k ⟨1,0,day,n⟩from by rw[← HS.out];rfl];exact G6,hT.trans ((Tch.of_below (hb2.trans (hb3.mono hb2.size))).trans (qW.trans Rz))⟩
      case measure=>simp[intOf];omega
     ·have hle':(S.cases k).held<(b.fee k day).1:=by omega
      have hL:iter (St.iP b day) (k+1) s=S:=hstep.trans (if_neg (λq=>hle q.2.2));clear hstep;have a0:=hAr.cell 0;have a1:=hAr.cell 1;have a2:=hAr.cell 2;have a3:=hAr.cell 3;have r0:=hRr.cell 0;have r1:=hRr.cell 1;have r2:=hRr.cell 2;have r3:=hRr.cell 3;have r4:=hRr.cell 4;have r5:=hRr.cell 5;have r6:=hRr.cell 6;have r7:=hRr.cell 7;simp at a0 a1 a2 a3 r0 r1 r2 r3 r4 r5 r6 r7;rw[e0]at r0;rw[e1]at r1;rw[e2]at r2;rw[e3]at r3;rw[e4]at r4;rw[e5]at r5;rw[e6]at r6;have kU:=hAr.lt;have lD:=hRr.lt
      gi_wp2_with (gi_at_call 48;with_reducible refine(rP (Below.refl _ _)).mono ?_;rintro e w2 ⟨rfl,hb2⟩;have hA2:=hAr.below hb2;have hR2:=hRr.below hb2;have G2:=G.same hb2;clear a0 a1 a2 a3 r0 r1 r2 r3 r4 r5 r6 r7 kU lD;have a0:=hA2.cell 0;have a1:=hA2.cell 1;have a2:=hA2.cell 2;have a3:=hA2.cell 3;have r0:=hR2.cell 0;have r1:=hR2.cell 1;have r2:=hR2.cell 2;have r3:=hR2.cell 3;have r4:=hR2.cell 4;have r5:=hR2.cell 5;have r6:=hR2.cell 6;have r7:=hR2.cell 7;simp at a0 a1 a2 a3 r0 r1 r2 r3 r4 r5 r6 r7;rw[e0]at r0;rw[e1]at r1;rw[e2]at r2;rw[e3]at r3;rw[e4]at r4;rw[e5]at r5;rw[e6]at r6;have kU:=hA2.lt;have lD:=hR2.lt;have s0:=G2.cell (j:=0) (i:=k) (by omega) d0;have s1:=G2.cell (j:=1) (i:=k) (by omega) d1;simp only[cval]at s0 s1;have AV:=G2.blt (j:=0) (i:=k) (by omega) d0;have RD:=G2.blt (j:=1) (i:=k) (by omega) d1)
      go_roundw
      case rel=>exact⟨k+1,by omega,by go_num,by rw[hL];exact G2,hT.trans (Tch.of_below hb2)⟩
      case measure=>simp[intOf];omega
   ·generalize b.zA k day=m at rP;have hL:iter (St.iP b day) (k+1) s=S:=hstep.trans (if_neg (λq=>hs q.1));clear hstep;have a0:=hAr.cell 0;have a1:=hAr.cell 1;have a2:=hAr.cell 2;have a3:=hAr.cell 3;have r0:=hRr.cell 0;have r1:=hRr.cell 1;have r2:=hRr.cell 2;have r3:=hRr.cell 3;have r4:=hRr.cell 4;have r5:=hRr.cell 5;have r6:=hRr.cell 6;have r7:=hRr.cell 7;simp at a0 a1 a2 a3 r0 r1 r2 r3 r4 r5 r6 r7;rw[e0]at r0;rw[e1]at r1;rw[e2]at r2;rw[e3]at r3;rw[e4]at r4;rw[e5]at r5;rw[e6]at r6;have kU:=hAr.lt;have lD:=hRr.lt
    gi_wp2_with (gi_at_call 48;with_reducible refine(rP (Below.refl _ _)).mono ?_;rintro e w2 ⟨rfl,hb2⟩;have hA2:=hAr.below hb2;have hR2:=hRr.below hb2;have G2:=G.same hb2;clear a0 a1 a2 a3 r0 r1 r2 r3 r4 r5 r6 r7 kU lD;have a0:=hA2.cell 0;have a1:=hA2.cell 1;have a2:=hA2.cell 2;have a3:=hA2.cell 3;have r0:=hR2.cell 0;have r1:=hR2.cell 1;have r2:=hR2.cell 2;have r3:=hR2.cell 3;have r4:=hR2.cell 4;have r5:=hR2.cell 5;have r6:=hR2.cell 6;have r7:=hR2.cell 7;simp at a0 a1 a2 a3 r0 r1 r2 r3 r4 r5 r6 r7;rw[e0]at r0;rw[e1]at r1;rw[e2]at r2;rw[e3]at r3;rw[e4]at r4;rw[e5]at r5;rw[e6]at r6;have kU:=hA2.lt;have lD:=hR2.lt;have s0:=G2.cell (j:=0) (i:=k) (by omega) d0;have s1:=G2.cell (j:=1) (i:=k) (by omega) d1;simp only[cval]at s0 s1;have AV:=G2.blt (j:=0) (i:=k) (by omega) d0;have RD:=G2.blt (j:=1) (i:=k) (by omega) d1)
    go_roundw
    case rel=>exact⟨k+1,by omega,by go_num,by rw[hL];exact G2,hT.trans (Tch.of_below hb2)⟩
    case measure=>simp[intOf];omega
  ·obtain rfl:k=b.cs.length:=by omega
   have a0:=hAr.cell 0;have a1:=hAr.cell 1;have a2:=hAr.cell 2;have a3:=hAr.cell 3;simp at a0 a1 a2 a3;have kU:=hAr.lt;gi_wp2;go_end0;exact⟨rfl,G,hT0.trans hT⟩
set_option maxRecDepth 1000000 in
set_option maxHeartbeats 16000000 in
theorem Qn{N:Nat}{l:Lay}{b:Book}{R:RW}{s:St}{w:World}(hbk:dQ N l b w)(hv:Valid b)(H:bP N R b s w)(day:Int) :
  CallsIn Fz 0 Tryz.prog 112 #[l.val b,.agg (R.arr b),.int .i64 day] w λe w'=>e=.returned (.tuple #[])∧bP N R b (s.iq b day) w'∧Tch (R.has b) w w':=by
 have hnk:=hv.nk;have hnc:=hv.nc;have hb1:Below w.heap.size w (w.alloc (.cells (l.arr b) 27)):=(Below.refl _ w).alloc (ay _) _;have hb2:Below w.heap.size w ((w.alloc (.cells (l.arr b) 27)).alloc (.cells (R.arr b) 102)):=hb1.alloc (by simp) _;have hA:=(Blk.new w (l.arr b) 27).below ((Below.refl _ _).alloc (o:=.cells (R.arr b) 102) (ay _));have hR:=Blk.new (w.alloc (.cells (l.arr b) 27)) (R.arr b) 102;rw[World.size_alloc]at hR;have H1:=H.same hb2;have hbk1:=hbk.below (hb2.mono hbk.hN);have hfA:=H.free (ay _);have pU:=H.free (Nat.le_succ _);have hT0:Tch (R.has b) w _:=Tch.of_below hb2;have fO:∀k,R.has b k→N≤k:=λk q=>H.least q;clear hb1 hb2 H hbk;unfold Lay.val;gi_enter Tryz.func112,Tryz.ntmps112
 gi_wp2;generalize (w.alloc _).alloc _=W at *;have a0:=hA.cell 0;have a1:=hA.cell 1;have a2:=hA.cell 2;have a3:=hA.cell 3;simp at a0 a1 a2 a3;have kU:=hA.lt;gi_loopw [6] (λi wr=>∃k:Nat,k≤b.cs.length∧i=.int .i64 k∧bP N R b (iter (St.fZ b day) k s) wr∧Tch (R.has b) W wr) (λi _=>b.cs.length-(intOf i).toNat)
 case atStart=>exact⟨0,Nat.zero_le _,rfl,H1,Tch.refl _ _⟩
 case round=>
  obtain⟨k,hk,rfl,G,hT⟩:=hrel;clear a0 a1 a2 a3 kU;have hAr:=hA.tch hT hfA;have hRr:=hR.tch hT pU;have hbr:=hbk1.below (hT.below hbk1.hN fO);by_cases hl:k<b.cs.length
  ·obtain⟨hq1,hq3⟩:=hv.aN hl;have h0k:0<b.cs.length:=by omega
   have h0c:0<b.aJ.length:=by omega
   have e0:=G.at_ 0 (by omega) h0k;have e1:=G.at_ 1 (by omega) h0k;have e2:=G.at_ 2 (by omega) h0k;have e3:=G.at_ 3 (by omega) h0k;have e4:=G.at_ 4 (by omega) h0c;have e5:=G.at_ 5 (by omega) h0c;have e6:=G.at_ 6 (by omega) h0c;have d0:k<cnt b 0:=hl;have d1:k<cnt b 1:=hl;have rP:=λ{w'} (h:Below wr.heap.size wr w')=>BK (hbr.below (h.mono hbr.hN)) hv hl day;have jC:=λ{w'} (h:Below wr.heap.size wr w')=>pF (hbr.below (h.mono hbr.hN)) hv hl;have hfl:=hv.yP hl day;unfold Lay.val at rP jC;have hstep:iter (St.fZ b day) (k+1) s=St.fZ b day k (iter (St.fZ b day) k s):=rfl;generalize iter (St.fZ b day) k s=S at *;obtain⟨kc,hkc⟩:∃kc,b.aN k=kc:=⟨_,rfl⟩
   rw[hkc]at hq1 hq3 jC;by_cases hs:(S.cases k).state=0
   ·cases hd:(b.fee k day).2 with
    |true=>
     have hfo:=yO hd;rw[hfo]at rP;have hn0:¬(b.fee k day).1<0:=by omega
     have hL:iter (St.fZ b day) (k+1) s=S:=hstep.trans (if_neg (λq=>by rw[hd]at q;exact absurd q.1 (by decide)));clear hstep;have a0:=hAr.cell 0;have a1:=hAr.cell 1;have a2:=hAr.cell 2;have a3:=hAr.cell 3;have r0:=hRr.cell 0;have r1:=hRr.cell 1;have r2:=hRr.cell 2;have r3:=hRr.cell 3;have r4:=hRr.cell 4;have r5:=hRr.cell 5;have r6:=hRr.cell 6;have r7:=hRr.cell 7;simp at a0 a1 a2 a3 r0 r1 r2 r3 r4 r5 r6 r7;rw[e0]at r0;rw[e1]at r1;rw[e2]at r2;rw[e3]at r3;rw[e4]at r4;rw[e5]at r5;rw[e6]at r6;have kU:=hAr.lt;have lD:=hRr.lt;have s0:=G.cell (j:=0) (i:=k) (by omega) d0;have s1:=G.cell (j:=1) (i:=k) (by omega) d1;simp only[cval]at s0 s1;have AV:=G.blt (j:=0) (i:=k) (by omega) d0;have RD:=G.blt (j:=1) (i:=k) (by omega) d1
     gi_wp2_with (gi_at_call 48;with_reducible refine(rP (Below.refl _ _)).mono ?_;rintro e w2 ⟨rfl,hb2⟩;have hA2:=hAr.below hb2;have hR2:=hRr.below hb2;have G2:=G.same hb2;clear a0 a1 a2 a3 r0 r1 r2 r3 r4 r5 r6 r7 kU lD;clear s0 s1 AV RD;have a0:=hA2.cell 0;have a1:=hA2.cell 1;have a2:=hA2.cell 2;have a3:=hA2.cell 3;have r0:=hR2.cell 0;have r1:=hR2.cell 1;have r2:=hR2.cell 2;have r3:=hR2.cell 3;have r4:=hR2.cell 4;have r5:=hR2.cell 5;have r6:=hR2.cell 6;have r7:=hR2.cell 7;simp at a0 a1 a2 a3 r0 r1 r2 r3 r4 r5 r6 r7;rw[e0]at r0;rw[e1]at r1;rw[e2]at r2;rw[e3]at r3;rw[e4]at r4;rw[e5]at r5;rw[e6]at r6;have kU:=hA2.lt;have lD:=hR2.lt;have s0:=G2.cell (j:=0) (i:=k) (by omega) d0;have s1:=G2.cell (j:=1) (i:=k) (by omega) d1;simp only[cval]at s0 s1;have AV:=G2.blt (j:=0) (i:=k) (by omega) d0;have RD:=G2.blt (j:=1) (i:=k) (by omega) d1)
     go_roundw
     case rel=>exact⟨k+1,by omega,by go_num,by rw[hL];exact G2,hT.trans (Tch.of_below hb2)⟩
     case measure=>simp[intOf];omega
    |false=>
     have hfo:=EZ hd;rw[hfo]at rP;have hL:iter (St.fZ b day) (k+1) s=(S.give b k).setState k 2:=hstep.trans (if_pos ⟨hd,hs⟩);rw[Nl,hkc]at hL;clear hstep hd hfo;have HL:=Lib.hid hL;have HK:=Lib.hid hkc;clear hL hkc;have a0:=hAr.cell 0;have a1:=hAr.cell 1;have a2:=hAr.cell 2;have a3:=hAr.cell 3;have r0:=hRr.cell 0;have r1:=hRr.cell 1;have r2:=hRr.cell 2;have r3:=hRr.cell 3;have r4:=hRr.cell 4;have r5:=hRr.cell 5;have r6:=hRr.cell 6;have r7:=hRr.cell 7;simp at a0 a1 a2 a3 r0 r1 r2 r3 r4 r5 r6 r7;rw[e0]at r0;rw[e1]at r1;rw[e2]at r2;rw[e3]at r3;rw[e4]at r4;rw[e5]at r5;rw[e6]at r6;have kU:=hAr.lt;have lD:=hRr.lt;have s0:=G.cell (j:=0) (i:=k) (by omega) d0;have s1:=G.cell (j:=1) (i:=k) (by omega) d1;simp only[cval]at s0 s1;have AV:=G.blt (j:=0) (i:=k) (by omega) d0;have RD:=G.blt (j:=1) (i:=k) (by omega) d1
     gi_wp2_with (first
      |(gi_at_call 48;with_reducible refine(rP (Below.refl _ _)).mono ?_;rintro e w2 ⟨rfl,hb2⟩;have hA2:=hAr.below hb2;have hR2:=hRr.below hb2;have G2:=G.same hb2;clear a0 a1 a2 a3 r0 r1 r2 r3 r4 r5 r6 r7 kU lD;clear s0 s1 AV RD;have a0:=hA2.cell 0;have a1:=hA2.cell 1;have a2:=hA2.cell 2;have a3:=hA2.cell 3;have r0:=hR2.cell 0;have r1:=hR2.cell 1;have r2:=hR2.cell 2;have r3:=hR2.cell 3;have r4:=hR2.cell 4;have r5:=hR2.cell 5;have r6:=hR2.cell 6;have r7:=hR2.cell 7;simp at a0 a1 a2 a3 r0 r1 r2 r3 r4 r5 r6 r7;rw[e0]at r0;rw[e1]at r1;rw[e2]at r2;rw[e3]at r3;rw[e4]at r4;rw[e5]at r5;rw[e6]at r6;have kU:=hA2.lt;have lD:=hR2.lt;have s0:=G2.cell (j:=0) (i:=k) (by omega) d0;have s1:=G2.cell (j:=1) (i:=k) (by omega) d1;simp only[cval]at s0 s1;have AV:=G2.blt (j:=0) (i:=k) (by omega) d0;have RD:=G2.blt (j:=1) (i:=k) (by omega) d1)
      |(gi_at_call 62;with_reducible refine(jC hb2).mono ?_;rintro e w3 ⟨rfl,hb3⟩;have D7:=hR2.below hb3;have G3:=G2.same hb3;clear a0 a1 a2 a3 r0 r1 r2 r3 r4 r5 r6 r7 kU lD;clear s0 s1 AV RD))
     refine aV rfl mixed (by kernel_rfl) (WQ N R b w3 (λD=>{ S with acc:=if D 15=true then upd S.acc kc (wrap64 (S.acc kc+(S.cases k).held))else S.acc })) [] (x₀:=λ_=>undef) (λg hg=>by cases hg) (WQ.start G3 rfl) ?_;simp only[aC,aB,aF,Nat.reduceAdd,List.range,List.range.loop]
     iterate 15
      (refine dn rfl rfl ?_
       apply ah;refine⟨λD x w' hm hW K Q hK=>?_,?_⟩
       ·have q:=D7.tch hW.2 pU;have mV:=q.lt;have q1:=q.cell 1;have q4:=q.cell 4;simp at q1 q4;rw[e1]at q1;rw[e4]at q4;have z:=hW.1.cell (j:=1) (i:=k) (by omega) hl;have uI:=hW.1.blt (j:=1) (i:=k) (by omega) hl;simp only[cval]at z;(try (have ds:=hm.2.2 15 (by decide +kernel);have z:=hW.1.cell (j:=4) (i:=kc) (by omega) hq1;have uI:=hW.1.blt (j:=4) (i:=kc) (by omega) hq1;simp only[cval,ds,Bool.false_eq_true,if_false]at z));gi_wp2;exact hW.keep (by simp[aQ])
       refine⟨_,rfl,?_⟩)
     refine jS rfl rfl rfl (λD x w' hm hW K Q hK=>?_) ?_
     ·have ds:=hm.1;have z:=hW.1.cell (j:=4) (i:=kc) (by omega) hq1;have y:=hW.1.frozen (j:=4) (i:=kc) (by omega) hq1;have lt:=hW.1.blt (j:=4) (i:=kc) (by omega) hq1;simp only[cval]at z;have hst:=hW.put (i:=15) (j:=4) (c:=kc) (by omega) hq1 (hW.1.FY hq1 (wrap64 (S.acc kc+(S.cases k).held))) (by simp[aQ,ds]);gi_wp2
      all_goals exact hst
     rintro x w5 ⟨G5,qW⟩;have G5:bP N R b { S with acc:=upd S.acc kc (wrap64 (S.acc kc+(S.cases k).held)) } w5:=G5;have xE:=D7.tch qW pU;simp only[Lift.Act.bC,List.foldl_cons,List.foldl_nil,aj,au,ak];generalize hS5:{ S with acc:=upd S.acc kc (wrap64 (S.acc kc+(S.cases k).held)) }=S5 at G5;have HS:=Lib.hid hS5;clear hS5
     gi_wp2_with fail
     refine aV rfl mixed (by kernel_rfl) (WQ N R b w5 (λD=>S5.upc k ⟨if D 7=true then 2 else(S5.cases k).state,if D 9=true then 0 else(S5.cases k).held,(S5.cases k).day,(S5.cases k).fee⟩)) [] (x₀:=λ_=>undef) (λg hg=>by cases hg) (WQ.start G5 (DW S5 k)) ?_;simp only[aC,aB,aF,Nat.reduceAdd,List.range,List.range.loop]
     iterate 10
      (first
       |(refine jS rfl rfl rfl (λD x w' hm hW K Q hK=>?_) ?_
         ·have ds:=hm.1;have z:=hW.1.cell (j:=0) (i:=k) (by omega) hl;have y:=hW.1.frozen (j:=0) (i:=k) (by omega) hl;have lt:=hW.1.blt (j:=0) (i:=k) (by omega) hl;simp only[cval]at z;have hst:=hW.put (i:=7) (j:=0) (c:=k) (by omega) hl (hW.1.setSt hl 2) (by simp[aQ,ds,St.upc,kK]);gi_wp2
          all_goals exact hst)
       |(refine jS rfl rfl rfl (λD x w' hm hW K Q hK=>?_) ?_
         ·have ds:=hm.1;have z:=hW.1.cell (j:=1) (i:=k) (by omega) hl;have y:=hW.1.frozen (j:=1) (i:=k) (by omega) hl;have lt:=hW.1.blt (j:=1) (i:=k) (by omega) hl;simp only[cval]at z;have hst:=hW.put (i:=9) (j:=1) (c:=k) (by omega) hl (hW.1.O4 hl 0) (by simp[aQ,ds,St.upc,kK]);gi_wp2
          all_goals exact hst)
       |(refine dn rfl rfl ?_
         apply ah;refine⟨λD x w' hm hW K Q hK=>?_,?_⟩
         ·have q:=xE.tch hW.2 pU;have mV:=q.lt;have q0:=q.cell 0;have q1:=q.cell 1;simp at q0 q1;rw[e0]at q0;rw[e1]at q1;gi_wp2;exact hW.keep (by simp[aQ])
         refine⟨_,rfl,?_⟩))
     rintro x w6 ⟨G6,Rz⟩;have G6:bP N R b (S5.upc k ⟨2,0,(S5.cases k).day,(S5.cases k).fee⟩) w6:=G6;simp only[Lift.Act.bC,List.foldl_cons,List.foldl_nil,aj,au,ak];gi_wp2;go_roundw
     case rel=>exact⟨k+1,by omega,by go_num,by rw[HL.out,show({ S with cases:=upd S.cases k ⟨2,0,(S.cases k).day,(S.cases k).fee⟩,acc:=upd S.acc kc (wrap64 (S.acc kc+(S.cases k).held)) }:St)=S5.upc k ⟨2,0,(S5.cases k).day,(S5.cases k).fee⟩from by rw[← HS.out];rfl];exact G6,hT.trans ((Tch.of_below (hb2.trans (hb3.mono hb2.size))).trans (qW.trans Rz))⟩
     case measure=>simp[intOf];omega
   ·generalize b.zA k day=m at rP;have hL:iter (St.fZ b day) (k+1) s=S:=hstep.trans (if_neg (λq=>hs q.2));clear hstep;have a0:=hAr.cell 0;have a1:=hAr.cell 1;have a2:=hAr.cell 2;have a3:=hAr.cell 3;have r0:=hRr.cell 0;have r1:=hRr.cell 1;have r2:=hRr.cell 2;have r3:=hRr.cell 3;have r4:=hRr.cell 4;have r5:=hRr.cell 5;have r6:=hRr.cell 6;have r7:=hRr.cell 7;simp at a0 a1 a2 a3 r0 r1 r2 r3 r4 r5 r6 r7;rw[e0]at r0;rw[e1]at r1;rw[e2]at r2;rw[e3]at r3;rw[e4]at r4;rw[e5]at r5;rw[e6]at r6;have kU:=hAr.lt;have lD:=hRr.lt;have s0:=G.cell (j:=0) (i:=k) (by omega) d0;have s1:=G.cell (j:=1) (i:=k) (by omega) d1;simp only[cval]at s0 s1;have AV:=G.blt (j:=0) (i:=k) (by omega) d0;have RD:=G.blt (j:=1) (i:=k) (by omega) d1;gi_wp2;go_roundw
    case rel=>exact⟨k+1,by omega,by go_num,by rw[hL];exact G,hT⟩
    case measure=>simp[intOf];omega
  ·obtain rfl:k=b.cs.length:=by omega
   have a0:=hAr.cell 0;have a1:=hAr.cell 1;have a2:=hAr.cell 2;have a3:=hAr.cell 3;simp at a0 a1 a2 a3;have kU:=hAr.lt;gi_wp2;go_end0;exact⟨rfl,G,hT0.trans hT⟩
end
