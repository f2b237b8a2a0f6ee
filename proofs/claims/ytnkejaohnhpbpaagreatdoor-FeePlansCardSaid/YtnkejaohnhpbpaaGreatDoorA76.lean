/- The specification's come, on a book that is valid: inside the fence. PRINTED BY A PROGRAM (qd.py). -/
import Derived.Test.YtnkejaohnhpbpaaGreatDoorA43
import Derived.Test.YtnkejaohnhpbpaaGreatDoorA75
set_option linter.all false
namespace Go.Proofs.YtnkejaohnhpbpaaGreatDoor
section
open Go Go.RowKit Lift
section
variable {F:Fence} {n:Nat} {P:Program} {ops:Array Oper} {W:Wm} {i:Nat} {rest:List Nat} {a:Act} {R:Act→Prop} {o:Oper}
theorem BD(ho:ops[i]?=some o)(hw:∀x,Region.wanted o (yielded ops (Act.bC a [] x).tmps)=false)(hab:∀x w f,o.about P w (Act.bC a [] x).eval=some f→F.fn f)
  (hk:∀D x w,dX ops D i→W D x w→W (aQ D i) x w) (e:a.put o.dst undef=a) (hr:lJ F n P ops W [] rest a R):lJ F n P ops W [] (i::rest) a R:=
 yM ho hw (λg hg=>by cases hg) hab hk (by rw[e];exact hr)
end
def Bz(b:Book)(s:St)(kd co:Nat)(am:Int)(cc:Nat):St:=if kd=0∧(s.cases cc).state=0∧co=b.aN cc then(s.iV co am).addHeld cc am else(s.iV co am).qJ co am
set_option maxRecDepth 1000000 in
set_option maxHeartbeats 16000000 in
theorem SS{N:Nat}{l:Lay}{b:Book}{R:RW}{s:St}{w:World}(hbk:dQ N l b w)(hv:Valid b)(H:bP N R b s w){kd co cc:Nat}(dy am:Int)(hco:co<b.aJ.length)(hkd:kd=1∨(kd=0∧cc<b.cs.length)) :
  CallsIn Fz 0 Tryz.prog 113 #[l.val b,.agg (R.arr b),.agg #[.int .i64 kd,.int .i64 dy,.int .i64 co,.int .i64 am,.int .i64 cc]] w λe w'=>e=.returned (.tuple #[])∧bP N R b (Bz b s kd co am cc) w'∧Tch (R.has b) w w':=by
 have hnc:=hv.nc;have hnk:=hv.nk;have hfA:=H.free (ay _);have pU:=H.free (Nat.le_succ _);have AQ:=H.free (Nat.le_add_right w.heap.size 2);have fO:∀k,R.has b k→N≤k:=λk q=>H.least q;have h0c:0<b.aJ.length:=by omega
 have e4:=H.at_ 4 (by omega) h0c;have e6:=H.at_ 6 (by omega) h0c;have d4:co<cnt b 4:=hco;have d6:co<cnt b 6:=hco;obtain⟨sf,hsf⟩:∃sf,Bz b s kd co am cc=sf:=⟨_,rfl⟩
 rw[hsf];unfold Bz at hsf;rcases hkd with rfl|⟨rfl,hcc⟩
 ·rw[if_neg (λq=>absurd q.1 (by decide))]at hsf;have HF:=Lib.hid hsf.symm;clear hsf;rw[show((1:Nat):Int)=1 from rfl];have hb1:Below w.heap.size w (w.alloc (.cells (l.arr b) 27)):=(Below.refl _ w).alloc (ay _) _;have hb2:Below w.heap.size w ((w.alloc (.cells (l.arr b) 27)).alloc (.cells (R.arr b) 102)):=hb1.alloc (by simp) _;have hb3:Below w.heap.size w (((w.alloc (.cells (l.arr b) 27)).alloc (.cells (R.arr b) 102)).alloc (.cells #[.int .i64 1,.int .i64 dy,.int .i64 co,.int .i64 am,.int .i64 cc] 56)):=hb2.alloc (by simp;omega) _;have hA:=((Blk.new w (l.arr b) 27).below ((Below.refl _ _).alloc (o:=.cells (R.arr b) 102) (ay _))).below ((Below.refl _ _).alloc (o:=.cells #[.int .i64 1,.int .i64 dy,.int .i64 co,.int .i64 am,.int .i64 cc] 56) (ay _));have hR:=(Blk.new (w.alloc (.cells (l.arr b) 27)) (R.arr b) 102).below ((Below.refl _ _).alloc (o:=.cells #[.int .i64 1,.int .i64 dy,.int .i64 co,.int .i64 am,.int .i64 cc] 56) (ay _));have hP:=Blk.new ((w.alloc (.cells (l.arr b) 27)).alloc (.cells (R.arr b) 102)) #[.int .i64 1,.int .i64 dy,.int .i64 co,.int .i64 am,.int .i64 cc] 56;rw[World.size_alloc]at hR;rw[World.size_alloc,World.size_alloc]at hP;have G1:=H.same hb3;have hbk1:=hbk.below (hb3.mono hbk.hN);have hT0:Tch (R.has b) w _:=Tch.of_below hb3;clear hb1 hb2 hb3 H hbk;unfold Lay.val;gi_enter Tryz.func113,Tryz.ntmps113
  gi_wp2_with fail
  generalize ((w.alloc _).alloc _).alloc _=w1 at *;refine aV rfl mixed (by kernel_rfl) (WQ N R b w1 (λD=>{ s with pd:=if D 14=true then upd s.pd co (wrap64 (s.pd co+am))else s.pd })) [] (x₀:=λ_=>undef) (λg hg=>by cases hg) (WQ.start G1 rfl) ?_;simp only[aC,aB,aF,Nat.reduceAdd,List.range,List.range.loop]
  iterate 14
   (refine dn rfl rfl ?_
    apply ah;refine⟨λD x w' hm hW K Q hK=>?_,?_⟩
    ·have q:=hR.tch hW.2 pU;have mV:=q.lt;have q6:=q.cell 6;simp at q6;rw[e6]at q6;have qp:=hP.tch hW.2 AQ;have mV:=qp.lt;have p2:=qp.cell 2;have p3:=qp.cell 3;simp at p2 p3;(try (have ds:=hm.2.2 14 (by decide +kernel);have z:=hW.1.cell (j:=6) (i:=co) (by omega) d6;have uI:=hW.1.blt (j:=6) (i:=co) (by omega) d6;simp only[cval,ds,Bool.false_eq_true,if_false]at z));gi_wp2;exact hW.keep (by simp[aQ])
    refine⟨_,rfl,?_⟩)
  refine jS rfl rfl rfl (λD x w' hm hW K Q hK=>?_) ?_
  ·have ds:=hm.1;have z:=hW.1.cell (j:=6) (i:=co) (by omega) d6;have y:=hW.1.frozen (j:=6) (i:=co) (by omega) d6;have lt:=hW.1.blt (j:=6) (i:=co) (by omega) d6;simp only[cval]at z;have hst:=hW.put (i:=14) (j:=6) (c:=co) (by omega) d6 (hW.1.DK hco (wrap64 (s.pd co+am))) (by simp[aQ,ds]);gi_wp2
   all_goals exact hst
  rintro x w2 ⟨G2,hT2⟩;have G2:bP N R b (s.iV co am) w2:=G2;replace hR:=hR.tch hT2 pU;replace hP:=hP.tch hT2 AQ;replace hA:=hA.tch hT2 hfA;have hbk2:=hbk1.below (hT2.below hbk1.hN fO);simp only[Lift.Act.bC,List.foldl_cons,List.foldl_nil,aj,au,ak]
  gi_wp2_with fail
  generalize hS1:s.iV co am=S1 at G2;have HS:=Lib.hid hS1;clear hS1;refine aV rfl mixed (by kernel_rfl) (WQ N R b w2 (λ_=>S1)) [] (x₀:=λ_=>undef) (λg hg=>by cases hg) (WQ.start G2 rfl) ?_;simp only[aC,aB,aF,Nat.reduceAdd,List.range,List.range.loop]
  iterate 21
   (first
    |(refine BD rfl (λ_=>rfl) (λx w f hf=>by first|(simp[Oper.about]at hf;done)|(simp[Oper.about,resolve,Deferred.ofValue,Target.leads,Act.eval,go_sem]at hf;subst hf;rfl)) (λD x w hm hW=>hW.step rfl (Below.refl _ _)) rfl ?_)
    |(refine dn rfl rfl ?_
      apply ah;refine⟨λD x w' hm hW K Q hK=>?_,?_⟩
      ·have qp:=hP.tch hW.2 AQ;have mV:=qp.lt;have p0:=qp.cell 0;simp at p0;gi_wp2;exact hW.keep rfl
      refine⟨_,rfl,?_⟩))
  rintro x w3 ⟨G3,ji⟩;have G3:bP N R b S1 w3:=G3;replace hR:=hR.tch ji pU;replace hP:=hP.tch ji AQ;simp only[Lift.Act.bC,List.foldl_cons,List.foldl_nil,aj,au,ak]
  gi_wp2_with fail
  refine aV rfl mixed (by kernel_rfl) (WQ N R b w3 (λD=>{ S1 with acc:=if D 14=true then upd S1.acc co (wrap64 (S1.acc co+am))else S1.acc })) [] (x₀:=λ_=>undef) (λg hg=>by cases hg) (WQ.start G3 rfl) ?_;simp only[aC,aB,aF,Nat.reduceAdd,List.range,List.range.loop]
  iterate 14
   (refine dn rfl rfl ?_
    apply ah;refine⟨λD x w' hm hW K Q hK=>?_,?_⟩
    ·have q:=hR.tch hW.2 pU;have mV:=q.lt;have q4:=q.cell 4;simp at q4;rw[e4]at q4;have qp:=hP.tch hW.2 AQ;have mV:=qp.lt;have p2:=qp.cell 2;have p3:=qp.cell 3;simp at p2 p3;(try (have ds:=hm.2.2 14 (by decide +kernel);have z:=hW.1.cell (j:=4) (i:=co) (by omega) d4;have uI:=hW.1.blt (j:=4) (i:=co) (by omega) d4;simp only[cval,ds,Bool.false_eq_true,if_false]at z));gi_wp2;exact hW.keep (by simp[aQ])
    refine⟨_,rfl,?_⟩)
  refine jS rfl rfl rfl (λD x w' hm hW K Q hK=>?_) ?_
  ·have ds:=hm.1;have z:=hW.1.cell (j:=4) (i:=co) (by omega) d4;have y:=hW.1.frozen (j:=4) (i:=co) (by omega) d4;have lt:=hW.1.blt (j:=4) (i:=co) (by omega) d4;simp only[cval]at z;have hst:=hW.put (i:=14) (j:=4) (c:=co) (by omega) d4 (hW.1.FY hco (wrap64 (S1.acc co+am))) (by simp[aQ,ds]);gi_wp2
   all_goals exact hst
  rintro x w4 ⟨G4,xU⟩;have G4:bP N R b ({ S1 with acc:=upd S1.acc co (wrap64 (S1.acc co+am)) }) w4:=G4;simp only[Lift.Act.bC,List.foldl_cons,List.foldl_nil,aj,au,ak];gi_wp2;go_end0;exact⟨rfl,by rw[HF.out,show(s.iV co am).qJ co am={ S1 with acc:=upd S1.acc co (wrap64 (S1.acc co+am)) }from by rw[← HS.out];rfl];exact G4,hT0.trans (hT2.trans (ji.trans xU))⟩
 ·have h0k:0<b.cs.length:=by omega
  have e0:=H.at_ 0 (by omega) h0k;have e1:=H.at_ 1 (by omega) h0k;have d0:cc<cnt b 0:=hcc;have d1:cc<cnt b 1:=hcc;rw[show((0:Nat):Int)=0 from rfl];by_cases hs:(s.cases cc).state=0
  ·obtain⟨kc,hkc⟩:∃kc,b.aN cc=kc:=⟨_,rfl⟩
   rw[hkc]at hsf;by_cases hq:co=kc
   ·rw[if_pos ⟨rfl,hs,hq⟩]at hsf;have HF:=Lib.hid hsf.symm;clear hsf;subst hq;have hb1:Below w.heap.size w (w.alloc (.cells (l.arr b) 27)):=(Below.refl _ w).alloc (ay _) _;have hb2:Below w.heap.size w ((w.alloc (.cells (l.arr b) 27)).alloc (.cells (R.arr b) 102)):=hb1.alloc (by simp) _;have hb3:Below w.heap.size w (((w.alloc (.cells (l.arr b) 27)).alloc (.cells (R.arr b) 102)).alloc (.cells #[.int .i64 0,.int .i64 dy,.int .i64 co,.int .i64 am,.int .i64 cc] 56)):=hb2.alloc (by simp;omega) _;have hA:=((Blk.new w (l.arr b) 27).below ((Below.refl _ _).alloc (o:=.cells (R.arr b) 102) (ay _))).below ((Below.refl _ _).alloc (o:=.cells #[.int .i64 0,.int .i64 dy,.int .i64 co,.int .i64 am,.int .i64 cc] 56) (ay _));have hR:=(Blk.new (w.alloc (.cells (l.arr b) 27)) (R.arr b) 102).below ((Below.refl _ _).alloc (o:=.cells #[.int .i64 0,.int .i64 dy,.int .i64 co,.int .i64 am,.int .i64 cc] 56) (ay _));have hP:=Blk.new ((w.alloc (.cells (l.arr b) 27)).alloc (.cells (R.arr b) 102)) #[.int .i64 0,.int .i64 dy,.int .i64 co,.int .i64 am,.int .i64 cc] 56;rw[World.size_alloc]at hR;rw[World.size_alloc,World.size_alloc]at hP;have G1:=H.same hb3;have hbk1:=hbk.below (hb3.mono hbk.hN);have hT0:Tch (R.has b) w _:=Tch.of_below hb3;clear hb1 hb2 hb3 H hbk;unfold Lay.val;gi_enter Tryz.func113,Tryz.ntmps113
    gi_wp2_with fail
    generalize ((w.alloc _).alloc _).alloc _=w1 at *;refine aV rfl mixed (by kernel_rfl) (WQ N R b w1 (λD=>{ s with pd:=if D 14=true then upd s.pd co (wrap64 (s.pd co+am))else s.pd })) [] (x₀:=λ_=>undef) (λg hg=>by cases hg) (WQ.start G1 rfl) ?_;simp only[aC,aB,aF,Nat.reduceAdd,List.range,List.range.loop]
    iterate 14
     (refine dn rfl rfl ?_
      apply ah;refine⟨λD x w' hm hW K Q hK=>?_,?_⟩
      ·have q:=hR.tch hW.2 pU;have mV:=q.lt;have q6:=q.cell 6;simp at q6;rw[e6]at q6;have qp:=hP.tch hW.2 AQ;have mV:=qp.lt;have p2:=qp.cell 2;have p3:=qp.cell 3;simp at p2 p3;(try (have ds:=hm.2.2 14 (by decide +kernel);have z:=hW.1.cell (j:=6) (i:=co) (by omega) d6;have uI:=hW.1.blt (j:=6) (i:=co) (by omega) d6;simp only[cval,ds,Bool.false_eq_true,if_false]at z));gi_wp2;exact hW.keep (by simp[aQ])
      refine⟨_,rfl,?_⟩)
    refine jS rfl rfl rfl (λD x w' hm hW K Q hK=>?_) ?_
    ·have ds:=hm.1;have z:=hW.1.cell (j:=6) (i:=co) (by omega) d6;have y:=hW.1.frozen (j:=6) (i:=co) (by omega) d6;have lt:=hW.1.blt (j:=6) (i:=co) (by omega) d6;simp only[cval]at z;have hst:=hW.put (i:=14) (j:=6) (c:=co) (by omega) d6 (hW.1.DK hco (wrap64 (s.pd co+am))) (by simp[aQ,ds]);gi_wp2
     all_goals exact hst
    rintro x w2 ⟨G2,hT2⟩;have G2:bP N R b (s.iV co am) w2:=G2;replace hR:=hR.tch hT2 pU;replace hP:=hP.tch hT2 AQ;replace hA:=hA.tch hT2 hfA;have hbk2:=hbk1.below (hT2.below hbk1.hN fO);simp only[Lift.Act.bC,List.foldl_cons,List.foldl_nil,aj,au,ak]
    gi_wp2_with fail
    generalize hS1:s.iV co am=S1 at G2;have HS:=Lib.hid hS1;clear hS1;have hst:(S1.cases cc).state=0:=by rw[← HS.out];exact hs
    have jC:=λ{w'} (h:Tch (R.has b) w2 w')=>pF (hbk2.below (h.below hbk2.hN fO)) hv hcc;unfold Lay.val at jC;rw[hkc]at jC;refine aV rfl mixed (by kernel_rfl) (WQ N R b w2 (λ_=>S1)) [] (x₀:=λ_=>undef) (λg hg=>by cases hg) (WQ.start G2 rfl) ?_;simp only[aC,aB,aF,Nat.reduceAdd,List.range,List.range.loop]
    iterate 18
     (refine dn rfl rfl ?_
      apply ah;refine⟨λD x w' hm hW K Q hK=>?_,?_⟩
      ·have qp:=hP.tch hW.2 AQ;have mV:=qp.lt;have p0:=qp.cell 0;have p2:=qp.cell 2;have p4:=qp.cell 4;simp at p0 p2 p4;have q:=hR.tch hW.2 pU;have mV:=q.lt;have q0:=q.cell 0;simp at q0;rw[e0]at q0;have q:=hA.tch hW.2 hfA;have mV:=q.lt;have q0:=q.cell 0;have q1:=q.cell 1;have q2:=q.cell 2;have q3:=q.cell 3;simp at q0 q1 q2 q3;have z:=hW.1.cell (j:=0) (i:=cc) (by omega) d0;have uI:=hW.1.blt (j:=0) (i:=cc) (by omega) d0;simp only[cval]at z;rw[hst]at z;gi_wp2;exact hW.keep rfl
      refine⟨_,rfl,?_⟩)
    refine dn rfl rfl ?_;apply ah;refine⟨λD x w' hm hW K Q hK=>?_,?_⟩
    ·have hcall:=jC hW.2
     gi_wp2_with (gi_at_call 62;with_reducible refine hcall.mono ?_;rintro e w3 ⟨rfl,hb3⟩)
     exact hW.step rfl hb3
    refine⟨_,rfl,?_⟩
    iterate 2
     (refine dn rfl rfl ?_
      apply ah;refine⟨λD x w' hm hW K Q hK=>?_,?_⟩
      ·have qp:=hP.tch hW.2 AQ;have mV:=qp.lt;have p0:=qp.cell 0;have p2:=qp.cell 2;have p4:=qp.cell 4;simp at p0 p2 p4;have q:=hR.tch hW.2 pU;have mV:=q.lt;have q0:=q.cell 0;simp at q0;rw[e0]at q0;have q:=hA.tch hW.2 hfA;have mV:=q.lt;have q0:=q.cell 0;have q1:=q.cell 1;have q2:=q.cell 2;have q3:=q.cell 3;simp at q0 q1 q2 q3;have z:=hW.1.cell (j:=0) (i:=cc) (by omega) d0;have uI:=hW.1.blt (j:=0) (i:=cc) (by omega) d0;simp only[cval]at z;rw[hst]at z;gi_wp2;exact hW.keep rfl
      refine⟨_,rfl,?_⟩)
    rintro x w3 ⟨G3,ji⟩;have G3:bP N R b S1 w3:=G3;replace hR:=hR.tch ji pU;replace hP:=hP.tch ji AQ;simp only[Lift.Act.bC,List.foldl_cons,List.foldl_nil,aj,au,ak]
    gi_wp2_with fail
    refine aV rfl mixed (by kernel_rfl) (WQ N R b w3 (λD=>S1.upc cc { S1.cases cc with held:=if D 14=true then wrap64 ((S1.cases cc).held+am)else(S1.cases cc).held })) [] (x₀:=λ_=>undef) (λg hg=>by cases hg) (WQ.start G3 (DW S1 cc)) ?_;simp only[aC,aB,aF,Nat.reduceAdd,List.range,List.range.loop]
    iterate 14
     (refine dn rfl rfl ?_
      apply ah;refine⟨λD x w' hm hW K Q hK=>?_,?_⟩
      ·have q:=hR.tch hW.2 pU;have mV:=q.lt;have q1:=q.cell 1;simp at q1;rw[e1]at q1;have qp:=hP.tch hW.2 AQ;have mV:=qp.lt;have p3:=qp.cell 3;have p4:=qp.cell 4;simp at p3 p4;(try (have ds:=hm.2.2 14 (by decide +kernel);have z:=hW.1.cell (j:=1) (i:=cc) (by omega) d1;have uI:=hW.1.blt (j:=1) (i:=cc) (by omega) d1;simp only[cval,ds,Bool.false_eq_true,if_false,St.upc,upd_same]at z));gi_wp2;exact hW.keep (by simp[aQ])
      refine⟨_,rfl,?_⟩)
    refine jS rfl rfl rfl (λD x w' hm hW K Q hK=>?_) ?_
    ·have ds:=hm.1;have z:=hW.1.cell (j:=1) (i:=cc) (by omega) d1;have y:=hW.1.frozen (j:=1) (i:=cc) (by omega) d1;have lt:=hW.1.blt (j:=1) (i:=cc) (by omega) d1;simp only[cval]at z;have hst:=hW.put (i:=14) (j:=1) (c:=cc) (by omega) d1 (hW.1.O4 hcc (wrap64 ((S1.cases cc).held+am))) (by simp[aQ,ds,St.upc,kK]);gi_wp2
     all_goals exact hst
    rintro x w4 ⟨G4,xU⟩;have G4:bP N R b (S1.upc cc { S1.cases cc with held:=wrap64 ((S1.cases cc).held+am) }) w4:=G4;simp only[Lift.Act.bC,List.foldl_cons,List.foldl_nil,aj,au,ak];gi_wp2;go_end0;exact⟨rfl,by rw[HF.out,show(s.iV co am).addHeld cc am=S1.upc cc { S1.cases cc with held:=wrap64 ((S1.cases cc).held+am) }from by rw[← HS.out];rfl];exact G4,hT0.trans (hT2.trans (ji.trans xU))⟩
   ·rw[if_neg (λq=>hq q.2.2)]at hsf;have HF:=Lib.hid hsf.symm;clear hsf;have hb1:Below w.heap.size w (w.alloc (.cells (l.arr b) 27)):=(Below.refl _ w).alloc (ay _) _;have hb2:Below w.heap.size w ((w.alloc (.cells (l.arr b) 27)).alloc (.cells (R.arr b) 102)):=hb1.alloc (by simp) _;have hb3:Below w.heap.size w (((w.alloc (.cells (l.arr b) 27)).alloc (.cells (R.arr b) 102)).alloc (.cells #[.int .i64 0,.int .i64 dy,.int .i64 co,.int .i64 am,.int .i64 cc] 56)):=hb2.alloc (by simp;omega) _;have hA:=((Blk.new w (l.arr b) 27).below ((Below.refl _ _).alloc (o:=.cells (R.arr b) 102) (ay _))).below ((Below.refl _ _).alloc (o:=.cells #[.int .i64 0,.int .i64 dy,.int .i64 co,.int .i64 am,.int .i64 cc] 56) (ay _));have hR:=(Blk.new (w.alloc (.cells (l.arr b) 27)) (R.arr b) 102).below ((Below.refl _ _).alloc (o:=.cells #[.int .i64 0,.int .i64 dy,.int .i64 co,.int .i64 am,.int .i64 cc] 56) (ay _));have hP:=Blk.new ((w.alloc (.cells (l.arr b) 27)).alloc (.cells (R.arr b) 102)) #[.int .i64 0,.int .i64 dy,.int .i64 co,.int .i64 am,.int .i64 cc] 56;rw[World.size_alloc]at hR;rw[World.size_alloc,World.size_alloc]at hP;have G1:=H.same hb3;have hbk1:=hbk.below (hb3.mono hbk.hN);have hT0:Tch (R.has b) w _:=Tch.of_below hb3;clear hb1 hb2 hb3 H hbk;unfold Lay.val;gi_enter Tryz.func113,Tryz.ntmps113
    gi_wp2_with fail
    generalize ((w.alloc _).alloc _).alloc _=w1 at *;refine aV rfl mixed (by kernel_rfl) (WQ N R b w1 (λD=>{ s with pd:=if D 14=true then upd s.pd co (wrap64 (s.pd co+am))else s.pd })) [] (x₀:=λ_=>undef) (λg hg=>by cases hg) (WQ.start G1 rfl) ?_;simp only[aC,aB,aF,Nat.reduceAdd,List.range,List.range.loop]
    iterate 14
     (refine dn rfl rfl ?_
      apply ah;refine⟨λD x w' hm hW K Q hK=>?_,?_⟩
      ·have q:=hR.tch hW.2 pU;have mV:=q.lt;have q6:=q.cell 6;simp at q6;rw[e6]at q6;have qp:=hP.tch hW.2 AQ;have mV:=qp.lt;have p2:=qp.cell 2;have p3:=qp.cell 3;simp at p2 p3;(try (have ds:=hm.2.2 14 (by decide +kernel);have z:=hW.1.cell (j:=6) (i:=co) (by omega) d6;have uI:=hW.1.blt (j:=6) (i:=co) (by omega) d6;simp only[cval,ds,Bool.false_eq_true,if_false]at z));gi_wp2;exact hW.keep (by simp[aQ])
      refine⟨_,rfl,?_⟩)
    refine jS rfl rfl rfl (λD x w' hm hW K Q hK=>?_) ?_
    ·have ds:=hm.1;have z:=hW.1.cell (j:=6) (i:=co) (by omega) d6;have y:=hW.1.frozen (j:=6) (i:=co) (by omega) d6;have lt:=hW.1.blt (j:=6) (i:=co) (by omega) d6;simp only[cval]at z;have hst:=hW.put (i:=14) (j:=6) (c:=co) (by omega) d6 (hW.1.DK hco (wrap64 (s.pd co+am))) (by simp[aQ,ds]);gi_wp2
     all_goals exact hst
    rintro x w2 ⟨G2,hT2⟩;have G2:bP N R b (s.iV co am) w2:=G2;replace hR:=hR.tch hT2 pU;replace hP:=hP.tch hT2 AQ;replace hA:=hA.tch hT2 hfA;have hbk2:=hbk1.below (hT2.below hbk1.hN fO);simp only[Lift.Act.bC,List.foldl_cons,List.foldl_nil,aj,au,ak]
    gi_wp2_with fail
    generalize hS1:s.iV co am=S1 at G2;have HS:=Lib.hid hS1;clear hS1;have hst:(S1.cases cc).state=0:=by rw[← HS.out];exact hs
    have jC:=λ{w'} (h:Tch (R.has b) w2 w')=>pF (hbk2.below (h.below hbk2.hN fO)) hv hcc;unfold Lay.val at jC;rw[hkc]at jC;refine aV rfl mixed (by kernel_rfl) (WQ N R b w2 (λ_=>S1)) [] (x₀:=λ_=>undef) (λg hg=>by cases hg) (WQ.start G2 rfl) ?_;simp only[aC,aB,aF,Nat.reduceAdd,List.range,List.range.loop]
    iterate 18
     (refine dn rfl rfl ?_
      apply ah;refine⟨λD x w' hm hW K Q hK=>?_,?_⟩
      ·have qp:=hP.tch hW.2 AQ;have mV:=qp.lt;have p0:=qp.cell 0;have p2:=qp.cell 2;have p4:=qp.cell 4;simp at p0 p2 p4;have q:=hR.tch hW.2 pU;have mV:=q.lt;have q0:=q.cell 0;simp at q0;rw[e0]at q0;have q:=hA.tch hW.2 hfA;have mV:=q.lt;have q0:=q.cell 0;have q1:=q.cell 1;have q2:=q.cell 2;have q3:=q.cell 3;simp at q0 q1 q2 q3;have z:=hW.1.cell (j:=0) (i:=cc) (by omega) d0;have uI:=hW.1.blt (j:=0) (i:=cc) (by omega) d0;simp only[cval]at z;rw[hst]at z;gi_wp2;exact hW.keep rfl
      refine⟨_,rfl,?_⟩)
    refine dn rfl rfl ?_;apply ah;refine⟨λD x w' hm hW K Q hK=>?_,?_⟩
    ·have hcall:=jC hW.2
     gi_wp2_with (gi_at_call 62;with_reducible refine hcall.mono ?_;rintro e w3 ⟨rfl,hb3⟩)
     exact hW.step rfl hb3
    refine⟨_,rfl,?_⟩
    iterate 2
     (refine dn rfl rfl ?_
      apply ah;refine⟨λD x w' hm hW K Q hK=>?_,?_⟩
      ·have qp:=hP.tch hW.2 AQ;have mV:=qp.lt;have p0:=qp.cell 0;have p2:=qp.cell 2;have p4:=qp.cell 4;simp at p0 p2 p4;have q:=hR.tch hW.2 pU;have mV:=q.lt;have q0:=q.cell 0;simp at q0;rw[e0]at q0;have q:=hA.tch hW.2 hfA;have mV:=q.lt;have q0:=q.cell 0;have q1:=q.cell 1;have q2:=q.cell 2;have q3:=q.cell 3;simp at q0 q1 q2 q3;have z:=hW.1.cell (j:=0) (i:=cc) (by omega) d0;have uI:=hW.1.blt (j:=0) (i:=cc) (by omega) d0;simp only[cval]at z;rw[hst]at z;gi_wp2;exact hW.keep rfl
      refine⟨_,rfl,?_⟩)
    rintro x w3 ⟨G3,ji⟩;have G3:bP N R b S1 w3:=G3;replace hR:=hR.tch ji pU;replace hP:=hP.tch ji AQ;simp only[Lift.Act.bC,List.foldl_cons,List.foldl_nil,aj,au,ak]
    gi_wp2_with fail
    refine aV rfl mixed (by kernel_rfl) (WQ N R b w3 (λD=>{ S1 with acc:=if D 14=true then upd S1.acc co (wrap64 (S1.acc co+am))else S1.acc })) [] (x₀:=λ_=>undef) (λg hg=>by cases hg) (WQ.start G3 rfl) ?_;simp only[aC,aB,aF,Nat.reduceAdd,List.range,List.range.loop]
    iterate 14
     (refine dn rfl rfl ?_
      apply ah;refine⟨λD x w' hm hW K Q hK=>?_,?_⟩
      ·have q:=hR.tch hW.2 pU;have mV:=q.lt;have q4:=q.cell 4;simp at q4;rw[e4]at q4;have qp:=hP.tch hW.2 AQ;have mV:=qp.lt;have p2:=qp.cell 2;have p3:=qp.cell 3;simp at p2 p3;(try (have ds:=hm.2.2 14 (by decide +kernel);have z:=hW.1.cell (j:=4) (i:=co) (by omega) d4;have uI:=hW.1.blt (j:=4) (i:=co) (by omega) d4;simp only[cval,ds,Bool.false_eq_true,if_false]at z));gi_wp2;exact hW.keep (by simp[aQ])
      refine⟨_,rfl,?_⟩)
    refine jS rfl rfl rfl (λD x w' hm hW K Q hK=>?_) ?_
    ·have ds:=hm.1;have z:=hW.1.cell (j:=4) (i:=co) (by omega) d4;have y:=hW.1.frozen (j:=4) (i:=co) (by omega) d4;have lt:=hW.1.blt (j:=4) (i:=co) (by omega) d4;simp only[cval]at z;have hst:=hW.put (i:=14) (j:=4) (c:=co) (by omega) d4 (hW.1.FY hco (wrap64 (S1.acc co+am))) (by simp[aQ,ds]);gi_wp2
     all_goals exact hst
    rintro x w4 ⟨G4,xU⟩;have G4:bP N R b ({ S1 with acc:=upd S1.acc co (wrap64 (S1.acc co+am)) }) w4:=G4;simp only[Lift.Act.bC,List.foldl_cons,List.foldl_nil,aj,au,ak];gi_wp2;go_end0;exact⟨rfl,by rw[HF.out,show(s.iV co am).qJ co am={ S1 with acc:=upd S1.acc co (wrap64 (S1.acc co+am)) }from by rw[← HS.out];rfl];exact G4,hT0.trans (hT2.trans (ji.trans xU))⟩
  ·rw[if_neg (λq=>hs q.2.1)]at hsf;have HF:=Lib.hid hsf.symm;clear hsf;obtain⟨st,hs0⟩:∃st,(s.cases cc).state=st:=⟨_,rfl⟩
   have hst0:¬st=0:=by rw[← hs0];exact hs
   have hst1:(st==0)=false:=beq_eq_false_iff_ne.2 hst0;clear hs;have hb1:Below w.heap.size w (w.alloc (.cells (l.arr b) 27)):=(Below.refl _ w).alloc (ay _) _;have hb2:Below w.heap.size w ((w.alloc (.cells (l.arr b) 27)).alloc (.cells (R.arr b) 102)):=hb1.alloc (by simp) _;have hb3:Below w.heap.size w (((w.alloc (.cells (l.arr b) 27)).alloc (.cells (R.arr b) 102)).alloc (.cells #[.int .i64 0,.int .i64 dy,.int .i64 co,.int .i64 am,.int .i64 cc] 56)):=hb2.alloc (by simp;omega) _;have hA:=((Blk.new w (l.arr b) 27).below ((Below.refl _ _).alloc (o:=.cells (R.arr b) 102) (ay _))).below ((Below.refl _ _).alloc (o:=.cells #[.int .i64 0,.int .i64 dy,.int .i64 co,.int .i64 am,.int .i64 cc] 56) (ay _));have hR:=(Blk.new (w.alloc (.cells (l.arr b) 27)) (R.arr b) 102).below ((Below.refl _ _).alloc (o:=.cells #[.int .i64 0,.int .i64 dy,.int .i64 co,.int .i64 am,.int .i64 cc] 56) (ay _));have hP:=Blk.new ((w.alloc (.cells (l.arr b) 27)).alloc (.cells (R.arr b) 102)) #[.int .i64 0,.int .i64 dy,.int .i64 co,.int .i64 am,.int .i64 cc] 56;rw[World.size_alloc]at hR;rw[World.size_alloc,World.size_alloc]at hP;have G1:=H.same hb3;have hbk1:=hbk.below (hb3.mono hbk.hN);have hT0:Tch (R.has b) w _:=Tch.of_below hb3;clear hb1 hb2 hb3 H hbk;unfold Lay.val;gi_enter Tryz.func113,Tryz.ntmps113
   gi_wp2_with fail
   generalize ((w.alloc _).alloc _).alloc _=w1 at *;refine aV rfl mixed (by kernel_rfl) (WQ N R b w1 (λD=>{ s with pd:=if D 14=true then upd s.pd co (wrap64 (s.pd co+am))else s.pd })) [] (x₀:=λ_=>undef) (λg hg=>by cases hg) (WQ.start G1 rfl) ?_;simp only[aC,aB,aF,Nat.reduceAdd,List.range,List.range.loop]
   iterate 14
    (refine dn rfl rfl ?_
     apply ah;refine⟨λD x w' hm hW K Q hK=>?_,?_⟩
     ·have q:=hR.tch hW.2 pU;have mV:=q.lt;have q6:=q.cell 6;simp at q6;rw[e6]at q6;have qp:=hP.tch hW.2 AQ;have mV:=qp.lt;have p2:=qp.cell 2;have p3:=qp.cell 3;simp at p2 p3;(try (have ds:=hm.2.2 14 (by decide +kernel);have z:=hW.1.cell (j:=6) (i:=co) (by omega) d6;have uI:=hW.1.blt (j:=6) (i:=co) (by omega) d6;simp only[cval,ds,Bool.false_eq_true,if_false]at z));gi_wp2;exact hW.keep (by simp[aQ])
     refine⟨_,rfl,?_⟩)
   refine jS rfl rfl rfl (λD x w' hm hW K Q hK=>?_) ?_
   ·have ds:=hm.1;have z:=hW.1.cell (j:=6) (i:=co) (by omega) d6;have y:=hW.1.frozen (j:=6) (i:=co) (by omega) d6;have lt:=hW.1.blt (j:=6) (i:=co) (by omega) d6;simp only[cval]at z;have hst:=hW.put (i:=14) (j:=6) (c:=co) (by omega) d6 (hW.1.DK hco (wrap64 (s.pd co+am))) (by simp[aQ,ds]);gi_wp2
    all_goals exact hst
   rintro x w2 ⟨G2,hT2⟩;have G2:bP N R b (s.iV co am) w2:=G2;replace hR:=hR.tch hT2 pU;replace hP:=hP.tch hT2 AQ;replace hA:=hA.tch hT2 hfA;have hbk2:=hbk1.below (hT2.below hbk1.hN fO);simp only[Lift.Act.bC,List.foldl_cons,List.foldl_nil,aj,au,ak]
   gi_wp2_with fail
   generalize hS1:s.iV co am=S1 at G2;have HS:=Lib.hid hS1;clear hS1;have hst:(S1.cases cc).state=st:=by rw[← HS.out];exact hs0
   refine aV rfl mixed (by kernel_rfl) (WQ N R b w2 (λ_=>S1)) [] (x₀:=λ_=>undef) (λg hg=>by cases hg) (WQ.start G2 rfl) ?_;simp only[aC,aB,aF,Nat.reduceAdd,List.range,List.range.loop]
   iterate 21
    (first
     |(refine BD rfl (λ_=>rfl) (λx w f hf=>by first|(simp[Oper.about]at hf;done)|(simp[Oper.about,resolve,Deferred.ofValue,Target.leads,Act.eval,go_sem]at hf;subst hf;rfl)) (λD x w hm hW=>hW.step rfl (Below.refl _ _)) rfl ?_)
     |(refine dn rfl rfl ?_
       apply ah;refine⟨λD x w' hm hW K Q hK=>?_,?_⟩
       ·have qp:=hP.tch hW.2 AQ;have mV:=qp.lt;have p0:=qp.cell 0;have p4:=qp.cell 4;simp at p0 p4;have q:=hR.tch hW.2 pU;have mV:=q.lt;have q0:=q.cell 0;simp at q0;rw[e0]at q0;have z:=hW.1.cell (j:=0) (i:=cc) (by omega) d0;have uI:=hW.1.blt (j:=0) (i:=cc) (by omega) d0;simp only[cval]at z;rw[hst]at z;gi_wp2;exact hW.keep rfl
       refine⟨_,rfl,?_⟩))
   rintro x w3 ⟨G3,ji⟩;have G3:bP N R b S1 w3:=G3;replace hR:=hR.tch ji pU;replace hP:=hP.tch ji AQ;simp only[Lift.Act.bC,List.foldl_cons,List.foldl_nil,aj,au,ak]
   gi_wp2_with fail
   refine aV rfl mixed (by kernel_rfl) (WQ N R b w3 (λD=>{ S1 with acc:=if D 14=true then upd S1.acc co (wrap64 (S1.acc co+am))else S1.acc })) [] (x₀:=λ_=>undef) (λg hg=>by cases hg) (WQ.start G3 rfl) ?_;simp only[aC,aB,aF,Nat.reduceAdd,List.range,List.range.loop]
   iterate 14
    (refine dn rfl rfl ?_
     apply ah;refine⟨λD x w' hm hW K Q hK=>?_,?_⟩
     ·have q:=hR.tch hW.2 pU;have mV:=q.lt;have q4:=q.cell 4;simp at q4;rw[e4]at q4;have qp:=hP.tch hW.2 AQ;have mV:=qp.lt;have p2:=qp.cell 2;have p3:=qp.cell 3;simp at p2 p3;(try (have ds:=hm.2.2 14 (by decide +kernel);have z:=hW.1.cell (j:=4) (i:=co) (by omega) d4;have uI:=hW.1.blt (j:=4) (i:=co) (by omega) d4;simp only[cval,ds,Bool.false_eq_true,if_false]at z));gi_wp2;exact hW.keep (by simp[aQ])
     refine⟨_,rfl,?_⟩)
   refine jS rfl rfl rfl (λD x w' hm hW K Q hK=>?_) ?_
   ·have ds:=hm.1;have z:=hW.1.cell (j:=4) (i:=co) (by omega) d4;have y:=hW.1.frozen (j:=4) (i:=co) (by omega) d4;have lt:=hW.1.blt (j:=4) (i:=co) (by omega) d4;simp only[cval]at z;have hst:=hW.put (i:=14) (j:=4) (c:=co) (by omega) d4 (hW.1.FY hco (wrap64 (S1.acc co+am))) (by simp[aQ,ds]);gi_wp2
    all_goals exact hst
   rintro x w4 ⟨G4,xU⟩;have G4:bP N R b ({ S1 with acc:=upd S1.acc co (wrap64 (S1.acc co+am)) }) w4:=G4;simp only[Lift.Act.bC,List.foldl_cons,List.foldl_nil,aj,au,ak];gi_wp2;go_end0;exact⟨rfl,by rw[HF.out,show(s.iV co am).qJ co am={ S1 with acc:=upd S1.acc co (wrap64 (S1.acc co+am)) }from by rw[← HS.out];rfl];exact G4,hT0.trans (hT2.trans (ji.trans xU))⟩
end
section
open Go Go.RowKit Lift
theorem Qi{b:Book}{d:Int}{i:Nat}{S:St}(h3:(b.aO i).kind<3)(hd:(b.aO i).day=d)(hk:(b.aO i).kind≠2):St.jf b d i S=Bz b S (b.aO i).kind (b.aO i).aN (b.aO i).amount (b.aO i).cas:=by
 unfold St.jf Bz;rw[if_pos ⟨hd,hk⟩];by_cases h1:(b.aO i).kind=1
 ·rw[if_pos h1,if_neg (λq=>by omega)];rfl
 ·rw[if_neg h1];have h0:(b.aO i).kind=0:=by omega
  unfold St.inn;by_cases q:(S.cases (b.aO i).cas).state=0∧(b.aO i).aN=b.aN (b.aO i).cas
  ·rw[if_pos q,if_pos ⟨h0,q⟩]
  ·rw[if_neg q,if_neg (λz=>q z.2)];rfl
theorem mvOk_is{b:Book}{M:Int}{S:St}(hS:dW b M S)(hM:M≤10000000000){i:Nat}(h3:(b.aO i).aN<3)(ham:1≤(b.aO i).amount∧(b.aO i).amount≤10000) :
  St.Nq b i S↔(S.cases (b.aO i).cas).state=0∧(b.aO i).amount≤S.acc (b.aO i).aN:=by
 have h0:=hS.acc (b.aO i).aN h3;have h1:=(hS.bounds h3).1;have hw:wrap64 (S.acc (b.aO i).aN-(b.aO i).amount)=S.acc (b.aO i).aN-(b.aO i).amount:=by unfold wrap64;omega
 unfold St.Nq;rw[hw];constructor
 ·rintro⟨_,h2,h4⟩;exact⟨h2,by omega⟩
 ·rintro⟨h2,h4⟩;refine⟨λq=>?_,h2,by omega⟩;rcases(show(b.aO i).aN=0∨(b.aO i).aN=1∨(b.aO i).aN=2 by omega)with e|e|e<;>rw[e]at h4<;>omega
set_option maxRecDepth 1000000 in
set_option maxHeartbeats 16000000 in
theorem PG{N:Nat}{l:Lay}{b:Book}{R:RW}{s:St}{w:World}(hbk:dQ N l b w)(hv:Valid b)(ha:b.aligned)(H:bP N R b s w){M0:Int}(hS:dW b M0 s)(h0M:0≤M0)(hM0:M0≤8000000000)(d:Int) :
  CallsIn Fz 0 Tryz.prog 95 #[l.val b,.agg (R.arr b),.int .i64 d] w λe w'=>e=.returned (.tuple #[])∧bP N R b (St.pG b s d) w'∧Tch (R.has b) w w':=by
 have hnp:=hv.np;have hnc:=hv.nc;have hnk:=hv.nk;have hb1:Below w.heap.size w (w.alloc (.cells (l.arr b) 27)):=(Below.refl _ w).alloc (ay _) _;have hb2:Below w.heap.size w ((w.alloc (.cells (l.arr b) 27)).alloc (.cells (R.arr b) 102)):=hb1.alloc (by simp) _;have hA:=(Blk.new w (l.arr b) 27).below ((Below.refl _ _).alloc (o:=.cells (R.arr b) 102) (ay _));have hR:=Blk.new (w.alloc (.cells (l.arr b) 27)) (R.arr b) 102;rw[World.size_alloc]at hR;have H1:=H.same hb2;have hbk0:=hbk.below (hb2.mono hbk.hN);have hfA:=H.free (ay _);have pU:=H.free (Nat.le_succ _);have hT0:Tch (R.has b) w _:=Tch.of_below hb2;have fO:∀k,R.has b k→N≤k:=λk q=>H.least q;have Ua:=Qn hbk0 hv H1 d;have hSl:=hS.iq hv d (by omega);have hSi:=hSl.ins hv d h0M (by omega) b.ps.length (ay _);obtain⟨M,hMe⟩:∃M,M=M0+10000 * (b.ps.length:Int):=⟨_,rfl⟩
 rw[← hMe]at hSi;have hM:M≤10000000000:=by omega
 have hS3:=dW.keep hSi hv d hM;have P9:St.pG b s d=iter (St.jM b d) b.ps.length ((iter (St.jf b d) b.ps.length (s.iq b d)).keep b d):=rfl;rw[P9];clear hMe hSi hSl P9 hb1 hb2 H hbk hS;generalize s.iq b d=s1 at *;unfold Lay.val at Ua ⊢;gi_enter Tryz.func95,Tryz.ntmps95
 gi_wp2_with (gi_at_call 112;with_reducible refine Ua.mono ?_;rintro e w1 ⟨rfl,G1,hT1⟩;replace hA:=hA.tch hT1 hfA;replace hR:=hR.tch hT1 pU;have hbk1:=hbk0.below (hT1.below hbk0.hN fO);have a0:=hA.cell 0;have a1:=hA.cell 1;have a2:=hA.cell 2;have a3:=hA.cell 3;simp at a0 a1 a2 a3;have kU:=hA.lt;have r0:=hR.cell 0;have r1:=hR.cell 1;have r2:=hR.cell 2;have r3:=hR.cell 3;have r4:=hR.cell 4;have r5:=hR.cell 5;have r6:=hR.cell 6;have r7:=hR.cell 7;simp at r0 r1 r2 r3 r4 r5 r6 r7;have lD:=hR.lt)
 gi_loopw [6] (λi wr=>∃k:Nat,k≤b.ps.length∧i=.int .i64 k∧bP N R b (iter (St.jf b d) k s1) wr∧Tch (R.has b) w1 wr) (λi _=>b.ps.length-(intOf i).toNat)
 case atStart=>exact⟨0,Nat.zero_le _,rfl,G1,Tch.refl _ _⟩
 case round=>
  obtain⟨k,hk,rfl,G,hT⟩:=hrel;clear a0 a1 a2 a3 r0 r1 r2 r3 r4 r5 r6 r7 kU lD;have hAr:=hA.tch hT hfA;have hRr:=hR.tch hT pU;have hbr:=hbk1.below (hT.below hbk1.hN fO);have a0:=hAr.cell 0;have a1:=hAr.cell 1;have a2:=hAr.cell 2;have a3:=hAr.cell 3;simp at a0 a1 a2 a3;have kU:=hAr.lt;by_cases hl:k<b.ps.length
  ·obtain⟨pb,po,hP⟩:=hbr.pay hl;have hpw:pb<wr.heap.size:=aA hP.hp hbr.hN;have vp:=hv.p _ hP.mp;have p0:=hP.rp 0 _ rfl;have p1:=hP.rp 1 _ rfl;have p2:=hP.rp 2 _ rfl;have p3:=hP.rp 3 _ rfl;have p4:=hP.rp 4 _ rfl;simp only[Nat.add_zero]at p0;have HEP:=Lib.hid hP.ep;have hNp:=hP.hp;clear hP;have hstep:iter (St.jf b d) (k+1) s1=St.jf b d k (iter (St.jf b d) k s1):=rfl;generalize iter (St.jf b d) k s1=S at *;by_cases hd:(b.aO k).day=d
   ·by_cases hk2:(b.aO k).kind=2
    ·have hst:iter (St.jf b d) (k+1) s1=S:=hstep.trans (if_neg λq=>q.2 hk2);have HST:=Lib.hid hst;clear hst hstep;generalize b.aO k=p at *;obtain⟨kd,dy,co,am,cc⟩:=p;simp only at *;subst hk2;subst hd;rw[HEP.out]at a3;rw[show((2:Nat):Int)=2 from rfl]at p0;gi_wp2;go_roundw
     case rel=>exact⟨k+1,by omega,by go_num,by rw[HST.out];exact G,hT⟩
     case measure=>simp[intOf];omega
    ·have hst:iter (St.jf b d) (k+1) s1=Bz b S (b.aO k).kind (b.aO k).aN (b.aO k).amount (b.aO k).cas:=hstep.trans (Qi vp.1 hd hk2);have hkd:(b.aO k).kind=1∨((b.aO k).kind=0∧(b.aO k).cas<b.cs.length):=by
      by_cases q:(b.aO k).kind=1
      ·exact .inl q
      ·exact .inr ⟨by have:=vp.1;omega,vp.2.2.2.2.2.2.2 q⟩
     have TS:=λ{w'} (G:bP N R b S w') (h:Below N wr w')=>SS (hbr.below h) hv G (b.aO k).day (b.aO k).amount vp.2.2.2.1 hkd;obtain⟨S2,hS2⟩:∃S2,Bz b S (b.aO k).kind (b.aO k).aN (b.aO k).amount (b.aO k).cas=S2:=⟨_,rfl⟩
     rw[hS2]at hst;simp only[hS2]at TS;have HST:=Lib.hid hst;clear hst hstep hS2 hkd;unfold Lay.val at TS;generalize b.aO k=p at *;obtain⟨kd,dy,co,am,cc⟩:=p;simp only at *;subst hd;have hk2':((kd:Int)==2)=false:=beq_eq_false_iff_ne.2 (by omega);have hk2'':((kd:Int) != 2)=true:=by simp only[bne,hk2'];rfl
     have a3':=a3;rw[HEP.out]at a3
     gi_wp2_with fail
     refine aV rfl mixed (by kernel_rfl) (WQ N R b wr (λD=>if D 7=true then S2 else S)) [] (x₀:=λ_=>undef) (λg hg=>by cases hg) (WQ.start G rfl) ?_;simp only[aC,aB,aF,Nat.reduceAdd,List.range,List.range.loop];refine dn rfl rfl ?_;apply ah;refine⟨λD x w' hm hW K Q hK=>?_,?_⟩
     ·have q:=hAr.tch hW.2 hfA;have mV:=q.lt;have a0:=q.cell 0;have a1:=q.cell 1;have a2:=q.cell 2;have a3:=q.cell 3;simp at a0 a1 a2 a3;gi_wp2;exact hW.keep (by simp[aQ])
     refine⟨_,rfl,?_⟩
     iterate 6
      (refine dn rfl rfl ?_
       apply ah;refine⟨λD x w' hm hW K Q hK=>?_,?_⟩
       ·have qr:=hRr.tch hW.2 pU;have ltr:=qr.lt;have r0:=qr.cell 0;have r1:=qr.cell 1;have r2:=qr.cell 2;have r3:=qr.cell 3;have r4:=qr.cell 4;have r5:=qr.cell 5;have r6:=qr.cell 6;have r7:=qr.cell 7;simp at r0 r1 r2 r3 r4 r5 r6 r7;have q:=hAr.tch hW.2 hfA;have mV:=q.lt;have a0:=q.cell 0;have a1:=q.cell 1;have a2:=q.cell 2;have a3:=q.cell 3;simp at a0 a1 a2 a3;rw[HEP.out]at a3;have hbw:=hbr.below (hW.2.below hbr.hN fO);have hB0:=hW.2.below hbr.hN fO;have x0:=(hB0.cell (p:=⟨pb,po+k * 5,none⟩) hNp).trans p0;have x1:=(hB0.cell (p:=⟨pb,po+k * 5+1,none⟩) hNp).trans p1;have x2:=(hB0.cell (p:=⟨pb,po+k * 5+2,none⟩) hNp).trans p2;have x3:=(hB0.cell (p:=⟨pb,po+k * 5+3,none⟩) hNp).trans p3;have x4:=(hB0.cell (p:=⟨pb,po+k * 5+4,none⟩) hNp).trans p4;have ltpb:=aA hNp hbw.hN;gi_wp2;exact hW.keep (by simp[aQ])
       refine⟨_,rfl,?_⟩)
     refine dn rfl rfl ?_;apply ah;refine⟨λD x w' hm hW K Q hK=>?_,?_⟩
     ·have ds:=hm.1;have Gw:=hW.1;simp only[ds,Bool.false_eq_true,if_false]at Gw;have hcall:=TS Gw (hW.2.below hbr.hN fO)
      gi_wp2_with (gi_at_call 113;with_reducible refine hcall.mono ?_;rintro e w3 ⟨rfl,G3,ji⟩)
      exact⟨by simpa[aQ]using G3,hW.2.trans ji⟩
     refine⟨_,rfl,?_⟩;rintro x w5 ⟨G5,qW⟩;have G5:bP N R b S2 w5:=G5;simp only[Lift.Act.bC,List.foldl_cons,List.foldl_nil,aj,au,ak];gi_wp2;go_roundw
     case rel=>exact⟨k+1,by omega,by go_num,by rw[HST.out];exact G5,hT.trans qW⟩
     case measure=>simp[intOf];omega
   ·have hst:iter (St.jf b d) (k+1) s1=S:=hstep.trans (if_neg λq=>hd q.1);have HST:=Lib.hid hst;clear hst hstep;generalize b.aO k=p at *;obtain⟨kd,dy,co,am,cc⟩:=p;simp only at *;have hd':(dy==d)=false:=beq_eq_false_iff_ne.2 hd;rw[HEP.out]at a3;gi_wp2;go_roundw
    case rel=>exact⟨k+1,by omega,by go_num,by rw[HST.out];exact G,hT⟩
    case measure=>simp[intOf];omega
  ·obtain rfl:k=b.ps.length:=by omega
   have hkeep:=JO hbr hv G d;unfold Lay.val at hkeep;obtain⟨s3,hs3⟩:∃s3,(iter (St.jf b d) b.ps.length s1).keep b d=s3:=⟨_,rfl⟩
   rw[hs3]at hkeep hS3;have HS3:=Lib.hid hs3;clear hs3 G1 G;have hTa:=hT;have r0:=hRr.cell 0;have r1:=hRr.cell 1;have r2:=hRr.cell 2;have r3:=hRr.cell 3;have r4:=hRr.cell 4;have r5:=hRr.cell 5;have r6:=hRr.cell 6;have r7:=hRr.cell 7;simp at r0 r1 r2 r3 r4 r5 r6 r7;have lD:=hRr.lt
   gi_wp2_with (gi_at_call 114;with_reducible refine hkeep.mono ?_;rintro e w3 ⟨rfl,G3,hTb⟩;have hA3:=hAr.tch hTb hfA;have D7:=hRr.tch hTb pU;have TN:=hbr.below (hTb.below hbr.hN fO);clear a0 a1 a2 a3 r0 r1 r2 r3 r4 r5 r6 r7 kU lD;have a0:=hA3.cell 0;have a1:=hA3.cell 1;have a2:=hA3.cell 2;have a3:=hA3.cell 3;simp at a0 a1 a2 a3;have kU:=hA3.lt)
   clear hT;gi_loopw [7] (λi wr=>∃k:Nat,k≤b.ps.length∧i=.int .i64 k∧bP N R b (iter (St.jM b d) k s3) wr∧dW b M (iter (St.jM b d) k s3)∧Tch (R.has b) w3 wr) (λi _=>b.ps.length-(intOf i).toNat)
   case atStart=>exact⟨0,Nat.zero_le _,rfl,G3,hS3,Tch.refl _ _⟩
   case round=>
    obtain⟨k,hk,rfl,G,hS,hT⟩:=hrel;clear a0 a1 a2 a3 kU;have hAr:=hA3.tch hT hfA;have hRr:=D7.tch hT pU;have hbr:=TN.below (hT.below TN.hN fO);have a0:=hAr.cell 0;have a1:=hAr.cell 1;have a2:=hAr.cell 2;have a3:=hAr.cell 3;simp at a0 a1 a2 a3;have kU:=hAr.lt;by_cases hl:k<b.ps.length
    ·obtain⟨pb,po,hP⟩:=hbr.pay hl;have hpw:pb<wr.heap.size:=aA hP.hp hbr.hN;have vp:=hv.p _ hP.mp;have p0:=hP.rp 0 _ rfl;have p1:=hP.rp 1 _ rfl;have p2:=hP.rp 2 _ rfl;have p3:=hP.rp 3 _ rfl;have p4:=hP.rp 4 _ rfl;simp only[Nat.add_zero]at p0;have HEP:=Lib.hid hP.ep;have hNp:=hP.hp;clear hP;have hstep:iter (St.jM b d) (k+1) s3=St.jM b d k (iter (St.jM b d) k s3):=rfl;generalize iter (St.jM b d) k s3=S at *;by_cases hd:(b.aO k).day=d
     ·by_cases hk2:(b.aO k).kind=2
      ·have hst:iter (St.jM b d) (k+1) s3=S.mv b k:=hstep.trans (if_pos ⟨hd,hk2⟩);have hS2:=hS.mv hv ha hl hk2 hM;have hmv:=mvOk_is hS hM (aA vp.2.2.2.1 hv.nc) ⟨vp.2.2.2.2.1,vp.2.2.2.2.2.1⟩;have hcc:=vp.2.2.2.2.2.2.2 (by omega);have hco:=vp.2.2.2.1;rw[← hst]at hS2;unfold St.mv at hst;have HS2:=Lib.hid hS2;clear hS2 hstep;generalize b.aO k=p at *;obtain⟨kd,dy,co,am,cc⟩:=p;simp only at *;subst hk2;subst hd;rw[HEP.out]at a3;rw[show((2:Nat):Int)=2 from rfl]at p0;have hb2:Below wr.heap.size wr (wr.alloc (.cells #[.int .i64 2,.int .i64 dy,.int .i64 co,.int .i64 am,.int .i64 cc] 56)):=(Below.refl _ wr).alloc (ay _) _;have G2:=G.same hb2;have hA2:=hAr.below hb2;have hR2:=hRr.below hb2;have hbk2:=hbr.below (hb2.mono hbr.hN);have hPb:=Blk.new wr #[.int .i64 2,.int .i64 dy,.int .i64 co,.int .i64 am,.int .i64 cc] 56;have AQ:=G.free (ay _);have h0k:0<b.cs.length:=by omega
       have h0c:0<b.aJ.length:=by omega
       have h0p:0<b.ps.length:=by omega
       have HE0:=Lib.hid (G.at_ 0 (by omega) h0k);have HE1:=Lib.hid (G.at_ 1 (by omega) h0k);have HE4:=Lib.hid (G.at_ 4 (by omega) h0c);have HE7:=Lib.hid (G.at_ 7 (by omega) h0p);have d0:cc<cnt b 0:=hcc;have d1:cc<cnt b 1:=hcc;have d4:co<cnt b 4:=hco;have d7:k<cnt b 7:=hl
       gi_wp2_with fail
       generalize wr.alloc _=w2 at *;clear a0 a1 a2 a3 kU p0 p1 p2 p3 p4;have r0:=hR2.cell 0;have r1:=hR2.cell 1;have r2:=hR2.cell 2;have r3:=hR2.cell 3;have r4:=hR2.cell 4;have r5:=hR2.cell 5;have r6:=hR2.cell 6;have r7:=hR2.cell 7;simp at r0 r1 r2 r3 r4 r5 r6 r7;have lD:=hR2.lt;rw[HE0.out]at r0;rw[HE1.out]at r1;rw[HE4.out]at r4;rw[HE7.out]at r7;have p0:=hPb.cell 0;have p1:=hPb.cell 1;have p2:=hPb.cell 2;have p3:=hPb.cell 3;have p4:=hPb.cell 4;simp at p0 p1 p2 p3 p4;have ltP:=hPb.lt;have s0:=G2.cell (j:=0) (i:=cc) (by omega) d0;have s4:=G2.cell (j:=4) (i:=co) (by omega) d4;have AV:=G2.blt (j:=0) (i:=cc) (by omega) d0;have lt4:=G2.blt (j:=4) (i:=co) (by omega) d4;simp only[cval]at s0 s4;by_cases hs0:(S.cases cc).state=0
       ·rw[hs0]at s0;by_cases hle:am≤S.acc co
        ·rw[if_pos (hmv.2 ⟨hs0,hle⟩)]at hst;have HST:=Lib.hid hst;have HS0:=Lib.hid hs0;clear hst hmv hs0;have hlt:¬S.acc co<am:=by omega
         have hlt':decide (S.acc co<am)=false:=decide_eq_false hlt;gi_big_quiet_th (fail)
         gi_wp2_with fail
         have hbq:=below_drewN w2 nq;have G5:=G2.same hbq;have xE:=hR2.below hbq;have Lr:=hPb.below hbq;have zG:=hA2.below hbq;have hbk5:=hbk2.below (hbq.mono hbk2.hN);have hTq:Tch (R.has b) w2 (w2.drewN nq):=Tch.of_below hbq;clear hbq r0 r1 r2 r3 r4 r5 r6 r7 lD p0 p1 p2 p3 p4 ltP s0 s4 AV lt4;generalize w2.drewN nq=w5 at *;refine aV rfl mixed (by kernel_rfl) (WQ N R b w5 (λD=>{ S with acc:=if D 27=true then upd S.acc co (wrap64 (S.acc co - am))else S.acc,cases:=if D 29=true then upd S.cases cc { S.cases cc with held:=wrap64 ((S.cases cc).held+am) }else S.cases })) [] (x₀:=λ_=>undef) (λg hg=>by cases hg) (WQ.start G5 rfl) ?_;simp only[aC,aB,aF,Nat.reduceAdd,List.range,List.range.loop]
         iterate 30
          (first
           |(refine jS rfl rfl rfl (λD x w' hm hW K Q hK=>?_) ?_
             ·have ds:=hm.1;have z:=hW.1.cell (j:=4) (i:=co) (by omega) d4;have y:=hW.1.frozen (j:=4) (i:=co) (by omega) d4;have lt:=hW.1.blt (j:=4) (i:=co) (by omega) d4;simp only[cval]at z;have hst:=hW.put (i:=27) (j:=4) (c:=co) (by omega) d4 (hW.1.FY hco (wrap64 (S.acc co-am))) (by simp[aQ,ds,St.upc]);gi_wp2
              all_goals exact hst)
           |(refine jS rfl rfl rfl (λD x w' hm hW K Q hK=>?_) ?_
             ·have ds:=hm.1;have z:=hW.1.cell (j:=1) (i:=cc) (by omega) d1;have y:=hW.1.frozen (j:=1) (i:=cc) (by omega) d1;have lt:=hW.1.blt (j:=1) (i:=cc) (by omega) d1;simp only[cval]at z;have hst:=hW.put (i:=29) (j:=1) (c:=cc) (by omega) d1 (hW.1.O4 hcc (wrap64 ((S.cases cc).held+am))) (by simp[aQ,ds,St.upc]);gi_wp2
              all_goals exact hst)
           |(refine dn rfl rfl ?_
             apply ah;refine⟨λD x w' hm hW K Q hK=>?_,?_⟩
             ·have qr:=xE.tch hW.2 pU;have ltr:=qr.lt;have q1:=qr.cell 1;have q4:=qr.cell 4;simp at q1 q4;rw[HE1.out]at q1;rw[HE4.out]at q4;have qp:=Lr.tch hW.2 AQ;have ltp:=qp.lt;have p2:=qp.cell 2;have p3:=qp.cell 3;have p4:=qp.cell 4;simp at p2 p3 p4;(try (have ds:=hm.2.2 27 (by decide +kernel);have z:=hW.1.cell (j:=4) (i:=co) (by omega) d4;have uI:=hW.1.blt (j:=4) (i:=co) (by omega) d4;simp only[cval,ds,Bool.false_eq_true,if_false]at z));(try (have ds:=hm.2.2 29 (by decide +kernel);have z:=hW.1.cell (j:=1) (i:=cc) (by omega) d1;have uI:=hW.1.blt (j:=1) (i:=cc) (by omega) d1;simp only[cval,ds,Bool.false_eq_true,if_false]at z));gi_wp2;exact hW.keep (by simp[aQ])
             refine⟨_,rfl,?_⟩))
         rintro x w6 ⟨G6,Rz⟩;have G6:bP N R b ((S.xA co am).addHeld cc am) w6:=G6;have hkeep:=JO (hbk5.below (Rz.below hbk5.hN fO)) hv G6 dy;unfold Lay.val at hkeep;have Lp:=zG.tch Rz hfA;have hR6:=xE.tch Rz pU;have a0:=Lp.cell 0;have a1:=Lp.cell 1;have a2:=Lp.cell 2;have a3:=Lp.cell 3;simp at a0 a1 a2 a3;have kU:=Lp.lt;have r0:=hR6.cell 0;have r1:=hR6.cell 1;have r2:=hR6.cell 2;have r3:=hR6.cell 3;have r4:=hR6.cell 4;have r5:=hR6.cell 5;have r6:=hR6.cell 6;have r7:=hR6.cell 7;simp at r0 r1 r2 r3 r4 r5 r6 r7;have lD:=hR6.lt;simp only[Lift.Act.bC,List.foldl_cons,List.foldl_nil,aj,au,ak]
         gi_wp2_with (gi_at_call 114;with_reducible refine hkeep.mono ?_;rintro e w7 ⟨rfl,G7,hT7⟩)
         go_roundw
         case rel=>exact⟨k+1,by omega,by go_num,by rw[HST.out];exact G7,HS2.out,hT.trans ((Tch.of_below hb2).trans (hTq.trans (Rz.trans hT7)))⟩
         case measure=>simp[intOf];omega
        ·rw[if_neg (λq=>hle (hmv.1 q).2)]at hst;have HST:=Lib.hid hst;clear hst hmv hs0;have hlt:S.acc co<am:=by omega
         have hlt':decide (S.acc co<am)=true:=decide_eq_true hlt;gi_big_quiet_th (fail)
         have hbq:=below_drewN w2 nq;have G5:=G2.same hbq;have xE:=hR2.below hbq;have hTq:Tch (R.has b) w2 (w2.drewN nq):=Tch.of_below hbq;clear hbq r0 r1 r2 r3 r4 r5 r6 r7 lD p0 p1 p2 p3 p4 ltP s0 s4 AV lt4;generalize w2.drewN nq=w5 at *;have r0:=xE.cell 0;have r1:=xE.cell 1;have r2:=xE.cell 2;have r3:=xE.cell 3;have r4:=xE.cell 4;have r5:=xE.cell 5;have r6:=xE.cell 6;have r7:=xE.cell 7;simp at r0 r1 r2 r3 r4 r5 r6 r7;have lD:=xE.lt;rw[HE7.out]at r7;have s7:=G5.cell (j:=7) (i:=k) (by omega) d7;have y7:=G5.frozen (j:=7) (i:=k) (by omega) d7;have lt7:=G5.blt (j:=7) (i:=k) (by omega) d7;simp only[cval]at s7;have G6:=G5.setVd hl;have Rz:Tch (R.has b) w5 (w5.setCell ⟨R.B 7,k,none⟩ (.bool true)):=(Tch.refl _ _).set (p:=⟨R.B 7,k,none⟩) ⟨7,by omega,by exact h0p,rfl⟩ _;gi_wp2;go_roundw
         case rel=>exact⟨k+1,by omega,by go_num,by rw[HST.out];exact G6,HS2.out,hT.trans ((Tch.of_below hb2).trans (hTq.trans Rz))⟩
         case measure=>simp[intOf];omega
       ·rw[if_neg (λq=>hs0 (hmv.1 q).1)]at hst;have HST:=Lib.hid hst;clear hst hmv;have hs1:((S.cases cc).state==0)=false:=beq_eq_false_iff_ne.2 hs0;have hs2:((S.cases cc).state != 0)=true:=by simp only[bne,hs1];rfl
        gi_big_quiet_th (fail)
        have hbq:=below_drewN w2 nq;have G5:=G2.same hbq;have xE:=hR2.below hbq;have hTq:Tch (R.has b) w2 (w2.drewN nq):=Tch.of_below hbq;clear hbq r0 r1 r2 r3 r4 r5 r6 r7 lD p0 p1 p2 p3 p4 ltP s0 s4 AV lt4;generalize w2.drewN nq=w5 at *;have r0:=xE.cell 0;have r1:=xE.cell 1;have r2:=xE.cell 2;have r3:=xE.cell 3;have r4:=xE.cell 4;have r5:=xE.cell 5;have r6:=xE.cell 6;have r7:=xE.cell 7;simp at r0 r1 r2 r3 r4 r5 r6 r7;have lD:=xE.lt;rw[HE7.out]at r7;have s7:=G5.cell (j:=7) (i:=k) (by omega) d7;have y7:=G5.frozen (j:=7) (i:=k) (by omega) d7;have lt7:=G5.blt (j:=7) (i:=k) (by omega) d7;simp only[cval]at s7;have G6:=G5.setVd hl;have Rz:Tch (R.has b) w5 (w5.setCell ⟨R.B 7,k,none⟩ (.bool true)):=(Tch.refl _ _).set (p:=⟨R.B 7,k,none⟩) ⟨7,by omega,by exact h0p,rfl⟩ _;gi_wp2;go_roundw
        case rel=>exact⟨k+1,by omega,by go_num,by rw[HST.out];exact G6,HS2.out,hT.trans ((Tch.of_below hb2).trans (hTq.trans Rz))⟩
        case measure=>simp[intOf];omega
      ·have hst:iter (St.jM b d) (k+1) s3=S:=hstep.trans (if_neg λq=>hk2 q.2);have HST:=Lib.hid hst;clear hst hstep;generalize b.aO k=p at *;obtain⟨kd,dy,co,am,cc⟩:=p;simp only at *;subst hd;have hk2':((kd:Int)==2)=false:=beq_eq_false_iff_ne.2 (by omega);have hk2'':((kd:Int) != 2)=true:=by simp only[bne,hk2'];rfl
       rw[HEP.out]at a3;have hb2:Below wr.heap.size wr (wr.alloc (.cells #[.int .i64 kd,.int .i64 dy,.int .i64 co,.int .i64 am,.int .i64 cc] 56)):=(Below.refl _ wr).alloc (ay _) _;have G2:=G.same hb2;gi_wp2;go_roundw
       case rel=>exact⟨k+1,by omega,by go_num,by rw[HST.out];exact G2,by rw[HST.out];exact hS,hT.trans (Tch.of_below hb2)⟩
       case measure=>simp[intOf];omega
     ·have hst:iter (St.jM b d) (k+1) s3=S:=hstep.trans (if_neg λq=>hd q.1);have HST:=Lib.hid hst;clear hst hstep;generalize b.aO k=p at *;obtain⟨kd,dy,co,am,cc⟩:=p;simp only at *;have hd':(dy==d)=false:=beq_eq_false_iff_ne.2 hd;have hd'':(dy != d)=true:=by simp only[bne,hd'];rfl
      rw[HEP.out]at a3;have hb2:Below wr.heap.size wr (wr.alloc (.cells #[.int .i64 kd,.int .i64 dy,.int .i64 co,.int .i64 am,.int .i64 cc] 56)):=(Below.refl _ wr).alloc (ay _) _;have G2:=G.same hb2;gi_wp2;go_roundw
      case rel=>exact⟨k+1,by omega,by go_num,by rw[HST.out];exact G2,by rw[HST.out];exact hS,hT.trans (Tch.of_below hb2)⟩
      case measure=>simp[intOf];omega
    ·obtain rfl:k=b.ps.length:=by omega
     have HG:Hid (bP N R b (iter (St.jM b d) b.ps.length ((iter (St.jf b d) b.ps.length s1).keep b d)) wr):=by
      rw[← HS3.out]at G;exact G
     gi_wp2;go_end0;exact⟨rfl,HG.out,hT0.trans (hT1.trans (hTa.trans (hTb.trans hT)))⟩
end
