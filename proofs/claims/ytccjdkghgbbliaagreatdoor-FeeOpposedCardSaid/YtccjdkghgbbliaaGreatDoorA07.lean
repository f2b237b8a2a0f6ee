/- Money that comes in for a case, inside the fence. -/
import Derived.RangeFuncBox
import Derived.Test.YtccjdkghgbbliaaGreatDoorA06
set_option linter.all false
namespace Go.Proofs.YtccjdkghgbbliaaGreatDoor
section
set_option maxHeartbeats 1000000
set_option maxRecDepth 10000
open Go Go.RowKit Lift
def St.addHeld(s:St)(c:Nat)(x:Int):St:=s.iR c (wrap64 ((s.cases c).held+x))
def St.inn(b:Book)(i:Nat)(s:St):St:=
 if(s.cases (b.aV i).cas).state=0∧(b.aV i).bg=b.bg (b.aV i).cas then(s.Eb (b.aV i).bg (b.aV i).amount).addHeld (b.aV i).cas (b.aV i).amount else s.Dk b i
set_option maxHeartbeats 8000000 in
theorem in_in{N:Nat}{l:Lay}{b:Book}{t:Tl}{s:St}{w:World}(h:aJ N l b t s w)(hv:Valid b){i:Nat}(hi:i<b.ps.length)(hkd:(b.aV i).kind≠1) :
 CallsIn Fz 0 Tryz.prog 343 #[.pointer (some ⟨t.T,0,none⟩),.int .i64 i] w λe w'=>e=.returned (.tuple #[])∧aJ N l b t (s.inn b i) w'∧Below N w w':=by
 obtain⟨pb,po,hP⟩:=h.bk.pay hi;have hN:=h.bk.hN;have hpw:pb<w.heap.size:=aB hP.hp hN;have vp:=hv.p _ hP.mp;have p0:=hP.rp 0 _ rfl;have p1:=hP.rp 1 _ rfl;have p2:=hP.rp 2 _ rfl;have p3:=hP.rp 3 _ rfl;have p4:=hP.rp 4 _ rfl;have f3:=h.c3;rw[hP.ep]at f3;simp only[Nat.add_zero]at p0;have hnc:=hv.nc;have hnk:=hv.nk;have hk3:(b.aV i).bg<3:=by omega
 have hcc:(b.aV i).cas<b.cs.length:=vp.2.2.2.2.2.2.2 hkd;obtain⟨hq1,hq3⟩:=hv.bg hcc;have hF:∀{w'},aJ N l b t s w'→CallsIn Fz 0 Tryz.prog 339 #[.pointer (some ⟨t.T,0,none⟩),.int .i64 i] w' λe w''=>e=.returned (.tuple #[])∧aJ N l b t (s.Dk b i) w''∧Below N w' w'':=λH=>NK H hv hi;obtain⟨si,hsi⟩:∃si,si=s.inn b i:=⟨_,rfl⟩
 rw[← hsi];unfold St.inn at hsi;generalize s.Dk b i=sf at *;generalize b.aV i=p at *;obtain⟨kd,dy,k,am,cc⟩:=p;simp only at *;have HI:=Lib.hid hsi;clear hsi;have I7:=h.ltT;have Pm:=h.ltS;gi_enter Tryz.func343,Tryz.ntmps343
 gi_wp2;have hq:=Blk.new w #[.int .i64 kd,.int .i64 dy,.int .i64 k,.int .i64 am,.int .i64 cc] 93;have hb1:Below w.heap.size w (w.alloc (.cells #[.int .i64 kd,.int .i64 dy,.int .i64 k,.int .i64 am,.int .i64 cc] 93)):=(Below.refl _ w).alloc (ak _) _;have H1:=h.same hb1;have HB1:=hb1.mono hN;clear p0 p1 p2 p3 p4 f3 hb1;have hne:t.T≠w.heap.size:=by omega
 have hneS:t.Sb≠w.heap.size:=by omega
 generalize w.alloc _=w1 at H1 HB1 hq ⊢;generalize w.heap.size=B at hq hne hneS ⊢;by_cases hs:(s.cases cc).state=0
 ·by_cases hkc:k=b.bg cc
  ·subst hkc;have HJ:=Lib.hid (HI.out.trans (if_pos ⟨hs,rfl⟩));clear HI;refine bJ (λw'=>Below w1.heap.size w1 w') rfl mixed (by kernel_rfl) (λd=>⟨rfl,rfl,rfl,ak _,λ_ _=>rfl⟩) ?_;simp only[aG,aC,aF,Nat.reduceAdd,Nat.zero_add,List.range,List.range.loop]
   iterate 3
    refine aI rfl rfl (by decide) ?_;apply ah;refine⟨λT w' hw' K Q hK=>?_,?_⟩
    ·gi_wp2;exact hw'
    apply ah;refine⟨rfl,?_⟩
   iterate 2
    refine aS rfl rfl (by kernel_rfl) (.inr rfl) ?_;apply ah;refine⟨λw' hw' K Q hK=>?_,?_⟩
    ·have G:=H1.same hw';have q:=hq.below hw';have q2:=q.cell 2;have q4:=q.cell 4;have f4:=G.c4;have f5:=G.dL hcc;simp at q2 q4;have f0:=G.c0;have f1:=G.c1;have f2:=G.c2;have f3:=G.c3;gi_wp2;exact hw'
    apply ah;refine⟨rfl,?_⟩;refine aI rfl rfl (by decide) ?_;apply ah;refine⟨λT w' hw' K Q hK=>?_,?_⟩
    ·gi_wp2;exact hw'
    apply ah;refine⟨rfl,?_⟩
   iterate 2
    refine aI rfl rfl (by decide) ?_;apply ah;refine⟨λT w' hw' K Q hK=>?_,?_⟩
    ·gi_wp2;exact hw'
    apply ah;refine⟨rfl,?_⟩;refine aS rfl rfl (by kernel_rfl) (.inr rfl) ?_;apply ah;refine⟨λw' hw' K Q hK=>?_,?_⟩
    ·have G:=H1.same hw';have q:=hq.below hw';have q2:=q.cell 2;have q4:=q.cell 4;have f4:=G.c4;have f5:=G.dL hcc;simp at q2 q4;have f0:=G.c0;have f1:=G.c1;have f2:=G.c2;have f3:=G.c3;gi_wp2;exact hw'
    iterate 2
     apply ah;refine⟨rfl,?_⟩;refine aI rfl rfl (by decide) ?_;apply ah;refine⟨λT w' hw' K Q hK=>?_,?_⟩
     ·gi_wp2;exact hw'
    apply ah;refine⟨rfl,?_⟩
   iterate 2
    refine aI rfl rfl (by decide) ?_;apply ah;refine⟨λT w' hw' K Q hK=>?_,?_⟩
    ·gi_wp2;exact hw'
    apply ah;refine⟨rfl,?_⟩;refine aS rfl rfl (by kernel_rfl) (.inr rfl) ?_;apply ah;refine⟨λw' hw' K Q hK=>?_,?_⟩
    ·have G:=H1.same hw';have q:=hq.below hw';have q2:=q.cell 2;have q4:=q.cell 4;have f4:=G.c4;have f5:=G.dL hcc;simp at q2 q4;have f0:=G.c0;have f1:=G.c1;have f2:=G.c2;have f3:=G.c3;gi_wp2;exact hw'
    apply ah;refine⟨rfl,?_⟩
   refine aS rfl rfl (by kernel_rfl) (.inr rfl) ?_;apply ah;refine⟨λw' hw' K Q hK=>?_,?_⟩
   ·have G:=H1.same hw';have q:=hq.below hw';have q2:=q.cell 2;have q4:=q.cell 4;have f4:=G.c4;have f5:=G.dL hcc;simp at q2 q4;have f0:=G.c0;have f1:=G.c1;have f2:=G.c2;have f3:=G.c3
    gi_wp2_with (gi_at_call 144;refine(o7 G.bk hv hcc).mono ?_;rintro e w'' ⟨rfl,hb'⟩)
    exact hw'.trans (hb'.mono hw'.size)
   iterate 2
    apply ah;refine⟨rfl,?_⟩;refine aI rfl rfl (by decide) ?_;apply ah;refine⟨λT w' hw' K Q hK=>?_,?_⟩
    ·gi_wp2;exact hw'
   apply ah;refine⟨rfl,?_⟩;intro w2 hw2;have H1':=H1.same hw2;have hq':=hq.below hw2;have HB1':=HB1.trans (hw2.mono H1.bk.hN);gi_wp2;refine cu (λw'=>Below w2.heap.size w2 w') (λw'=>∃wx,Below w2.heap.size w2 wx∧w'=wx.setCell ⟨t.T,11+b.bg cc,none⟩ (.int .i64 (wrap64 (s.pd (b.bg cc)+am)))) 13 rfl mixed (by kernel_rfl) (λd=>⟨rfl,rfl,rfl,ak _,λ_ _=>rfl⟩) ?_;simp only[aG,aC,aF,Nat.reduceAdd,Nat.zero_add,List.range,List.range.loop]
   iterate 2
    iterate 2
     refine aI rfl rfl (by decide) ?_;apply ah;refine⟨λT w' hw' K Q hK=>?_,?_⟩
     ·gi_wp2;exact hw'
     apply ah;refine⟨rfl,?_⟩
    refine aS rfl rfl (by kernel_rfl) (.inl (by simp)) ?_;apply ah;refine⟨λw' hw' K Q hK=>?_,?_⟩
    ·have G:=H1'.same hw';have q:=hq'.below hw';have q2:=q.cell 2;have q3:=q.cell 3;have f0:=G.cPd hq3;have f1:=G.eG (11+b.bg cc);simp at q2 q3;gi_wp2;exact hw'
    apply ah;refine⟨rfl,?_⟩;refine aI rfl rfl (by decide) ?_;apply ah;refine⟨λT w' hw' K Q hK=>?_,?_⟩
    ·gi_wp2;exact hw'
    apply ah;refine⟨rfl,?_⟩
   refine aS rfl rfl (by kernel_rfl) (.inl (by simp)) ?_;apply ah;refine⟨λw' hw' K Q hK=>?_,?_⟩
   ·have G:=H1'.same hw';have q:=hq'.below hw';have q2:=q.cell 2;have q3:=q.cell 3;have f0:=G.cPd hq3;have f1:=G.eG (11+b.bg cc);simp at q2 q3;gi_wp2;exact hw'
   iterate 4
    apply ah;refine⟨rfl,?_⟩;refine aI rfl rfl (by decide) ?_;apply ah;refine⟨λT w' hw' K Q hK=>?_,?_⟩
    ·gi_wp2;exact hw'
   apply ah;refine⟨rfl,?_⟩;refine ig rfl rfl rfl ?_;apply ah;refine⟨λw' hw' K Q hK=>?_,?_⟩
   ·have G:=H1'.same hw';have q:=hq'.below hw';have q2:=q.cell 2;have q3:=q.cell 3;have f0:=G.cPd hq3;have f1:=G.eG (11+b.bg cc);simp at q2 q3;gi_wp2;exact⟨w',hw',rfl⟩
   refine⟨undef,rfl,?_⟩;rintro _ ⟨w3,hw3,rfl⟩;have H2:=(H1'.same hw3).setPd hq3 (wrap64 (s.pd (b.bg cc)+am));have HB2:=(HB1'.trans (hw3.mono H1'.bk.hN)).setCell (p:=⟨t.T,11+b.bg cc,none⟩) H1'.NT (.int .i64 (wrap64 (s.pd (b.bg cc)+am)));have hq2:=(hq'.below hw3).set (j:=11+b.bg cc) hne (.int .i64 (wrap64 (s.pd (b.bg cc)+am)))
   change aJ N l b t (s.Eb (b.bg cc) am) _ at H2
   generalize w3.setCell _ _=w4 at H2 HB2 hq2 ⊢;obtain⟨s2,hs2⟩:∃s2,s2=s.Eb (b.bg cc) am:=⟨_,rfl⟩
   rw[← hs2]at H2;have HS:=Lib.hid hs2;clear hs2;gi_wp2;refine cu (λw'=>Below w4.heap.size w4 w') (λw'=>∃wx,Below w4.heap.size w4 wx∧w'=wx.setCell ⟨t.Sb,cc * 4+1,none⟩ (.int .i64 (wrap64 ((s2.cases cc).held+am)))) 14 rfl mixed (by kernel_rfl) (λd=>⟨rfl,rfl,rfl,ak _,λ_ _=>rfl⟩) ?_;simp only[aG,aC,aF,Nat.reduceAdd,Nat.zero_add,List.range,List.range.loop]
   iterate 3
    refine aI rfl rfl (by decide) ?_;apply ah;refine⟨λT w' hw' K Q hK=>?_,?_⟩
    ·gi_wp2;exact hw'
    apply ah;refine⟨rfl,?_⟩
   iterate 2
    refine aS rfl rfl (by kernel_rfl) (.inl (by simp)) ?_;apply ah;refine⟨λw' hw' K Q hK=>?_,?_⟩
    ·have G:=H2.same hw';have q:=hq2.below hw';have q3:=q.cell 3;have q4:=q.cell 4;have f4:=G.c4;have f0:=G.jr hcc;have f1:=G.fV (cc * 4+1);simp at q3 q4;gi_wp2;exact hw'
    apply ah;refine⟨rfl,?_⟩;refine aI rfl rfl (by decide) ?_;apply ah;refine⟨λT w' hw' K Q hK=>?_,?_⟩
    ·gi_wp2;exact hw'
    apply ah;refine⟨rfl,?_⟩
   iterate 2
    refine aI rfl rfl (by decide) ?_;apply ah;refine⟨λT w' hw' K Q hK=>?_,?_⟩
    ·gi_wp2;exact hw'
    apply ah;refine⟨rfl,?_⟩;refine aS rfl rfl (by kernel_rfl) (.inl (by simp)) ?_;apply ah;refine⟨λw' hw' K Q hK=>?_,?_⟩
    ·have G:=H2.same hw';have q:=hq2.below hw';have q3:=q.cell 3;have q4:=q.cell 4;have f4:=G.c4;have f0:=G.jr hcc;have f1:=G.fV (cc * 4+1);simp at q3 q4;gi_wp2;exact hw'
    apply ah;refine⟨rfl,?_⟩
   iterate 3
    refine aI rfl rfl (by decide) ?_;apply ah;refine⟨λT w' hw' K Q hK=>?_,?_⟩
    ·gi_wp2;exact hw'
    apply ah;refine⟨rfl,?_⟩
   refine ig rfl rfl rfl ?_;apply ah;refine⟨λw' hw' K Q hK=>?_,?_⟩
   ·have G:=H2.same hw';have q:=hq2.below hw';have q3:=q.cell 3;have q4:=q.cell 4;have f4:=G.c4;have f0:=G.jr hcc;have f1:=G.fV (cc * 4+1);simp at q3 q4;gi_wp2;exact⟨w',hw',rfl⟩
   refine⟨undef,rfl,?_⟩;rintro _ ⟨w5,hw5,rfl⟩;have H3:=(H2.same hw5).iR hcc (wrap64 ((s2.cases cc).held+am));have HB3:=(HB2.trans (hw5.mono H2.bk.hN)).setCell (p:=⟨t.Sb,cc * 4+1,none⟩) H2.NS (.int .i64 (wrap64 ((s2.cases cc).held+am)));gi_wp2;go_end0;have e:=HS.out;subst e;exact⟨rfl,by rw[HJ.out];exact H3,HB3⟩
  ·have HJ:=Lib.hid (HI.out.trans (if_neg (by simp[hkc])));clear HI;refine bJ (λw'=>Below w1.heap.size w1 w') rfl mixed (by kernel_rfl) (λd=>⟨rfl,rfl,rfl,ak _,λ_ _=>rfl⟩) ?_;simp only[aG,aC,aF,Nat.reduceAdd,Nat.zero_add,List.range,List.range.loop]
   iterate 3
    refine aI rfl rfl (by decide) ?_;apply ah;refine⟨λT w' hw' K Q hK=>?_,?_⟩
    ·gi_wp2;exact hw'
    apply ah;refine⟨rfl,?_⟩
   iterate 2
    refine aS rfl rfl (by kernel_rfl) (.inr rfl) ?_;apply ah;refine⟨λw' hw' K Q hK=>?_,?_⟩
    ·have G:=H1.same hw';have q:=hq.below hw';have q2:=q.cell 2;have q4:=q.cell 4;have f4:=G.c4;have f5:=G.dL hcc;simp at q2 q4;have f0:=G.c0;have f1:=G.c1;have f2:=G.c2;have f3:=G.c3;gi_wp2;exact hw'
    apply ah;refine⟨rfl,?_⟩;refine aI rfl rfl (by decide) ?_;apply ah;refine⟨λT w' hw' K Q hK=>?_,?_⟩
    ·gi_wp2;exact hw'
    apply ah;refine⟨rfl,?_⟩
   iterate 2
    refine aI rfl rfl (by decide) ?_;apply ah;refine⟨λT w' hw' K Q hK=>?_,?_⟩
    ·gi_wp2;exact hw'
    apply ah;refine⟨rfl,?_⟩;refine aS rfl rfl (by kernel_rfl) (.inr rfl) ?_;apply ah;refine⟨λw' hw' K Q hK=>?_,?_⟩
    ·have G:=H1.same hw';have q:=hq.below hw';have q2:=q.cell 2;have q4:=q.cell 4;have f4:=G.c4;have f5:=G.dL hcc;simp at q2 q4;have f0:=G.c0;have f1:=G.c1;have f2:=G.c2;have f3:=G.c3;gi_wp2;exact hw'
    iterate 2
     apply ah;refine⟨rfl,?_⟩;refine aI rfl rfl (by decide) ?_;apply ah;refine⟨λT w' hw' K Q hK=>?_,?_⟩
     ·gi_wp2;exact hw'
    apply ah;refine⟨rfl,?_⟩
   iterate 2
    refine aI rfl rfl (by decide) ?_;apply ah;refine⟨λT w' hw' K Q hK=>?_,?_⟩
    ·gi_wp2;exact hw'
    apply ah;refine⟨rfl,?_⟩;refine aS rfl rfl (by kernel_rfl) (.inr rfl) ?_;apply ah;refine⟨λw' hw' K Q hK=>?_,?_⟩
    ·have G:=H1.same hw';have q:=hq.below hw';have q2:=q.cell 2;have q4:=q.cell 4;have f4:=G.c4;have f5:=G.dL hcc;simp at q2 q4;have f0:=G.c0;have f1:=G.c1;have f2:=G.c2;have f3:=G.c3;gi_wp2;exact hw'
    apply ah;refine⟨rfl,?_⟩
   refine aS rfl rfl (by kernel_rfl) (.inr rfl) ?_;apply ah;refine⟨λw' hw' K Q hK=>?_,?_⟩
   ·have G:=H1.same hw';have q:=hq.below hw';have q2:=q.cell 2;have q4:=q.cell 4;have f4:=G.c4;have f5:=G.dL hcc;simp at q2 q4;have f0:=G.c0;have f1:=G.c1;have f2:=G.c2;have f3:=G.c3
    gi_wp2_with (gi_at_call 144;refine(o7 G.bk hv hcc).mono ?_;rintro e w'' ⟨rfl,hb'⟩)
    exact hw'.trans (hb'.mono hw'.size)
   iterate 2
    apply ah;refine⟨rfl,?_⟩;refine aI rfl rfl (by decide) ?_;apply ah;refine⟨λT w' hw' K Q hK=>?_,?_⟩
    ·gi_wp2;exact hw'
   apply ah;refine⟨rfl,?_⟩;intro w2 hw2
   gi_wp2_with (gi_at_call 339;refine(hF (H1.same hw2)).mono ?_;rintro e w3 ⟨rfl,H3,hb3⟩)
   (try simp only[Exit.inBlock,Exit.then]);refine bodyPost_ret (results_none rfl _ _ _) rfl ?_
   exact⟨rfl,by rw[HJ.out];exact H3,(HB1.trans (hw2.mono H1.bk.hN)).trans hb3⟩
 ·have HJ:=Lib.hid (HI.out.trans (if_neg (by simp[hs])));clear HI;have hsb1:decide ((s.cases cc).state=0)=false:=by simp[hs]
  have hsb2:((s.cases cc).state==0)=false:=by simp[hs]
  have hsb3:((s.cases cc).state != 0)=true:=by simp[hs]
  refine bJ (λw'=>Below w1.heap.size w1 w') rfl mixed (by kernel_rfl) (λd=>⟨rfl,rfl,rfl,ak _,λ_ _=>rfl⟩) ?_;simp only[aG,aC,aF,Nat.reduceAdd,Nat.zero_add,List.range,List.range.loop]
  iterate 3
   refine aI rfl rfl (by decide) ?_;apply ah;refine⟨λT w' hw' K Q hK=>?_,?_⟩
   ·gi_wp2;exact hw'
   apply ah;refine⟨rfl,?_⟩
  iterate 2
   refine aS rfl rfl (by kernel_rfl) (.inr rfl) ?_;apply ah;refine⟨λw' hw' K Q hK=>?_,?_⟩
   ·have G:=H1.same hw';have q:=hq.below hw';have q2:=q.cell 2;have q4:=q.cell 4;have f4:=G.c4;have f5:=G.dL hcc;simp at q2 q4;have f0:=G.c0;have f1:=G.c1;have f2:=G.c2;have f3:=G.c3;gi_wp2;exact hw'
   apply ah;refine⟨rfl,?_⟩;refine aI rfl rfl (by decide) ?_;apply ah;refine⟨λT w' hw' K Q hK=>?_,?_⟩
   ·gi_wp2;exact hw'
   apply ah;refine⟨rfl,?_⟩
  refine aI rfl rfl (by decide) ?_;apply ah;refine⟨λT w' hw' K Q hK=>?_,?_⟩
  ·gi_wp2;exact hw'
  apply ah;refine⟨rfl,?_⟩;refine aS rfl rfl (by kernel_rfl) (.inr rfl) ?_;apply ah;refine⟨λw' hw' K Q hK=>?_,?_⟩
  ·have G:=H1.same hw';have q:=hq.below hw';have q2:=q.cell 2;have q4:=q.cell 4;have f4:=G.c4;have f5:=G.dL hcc;simp at q2 q4;have f0:=G.c0;have f1:=G.c1;have f2:=G.c2;have f3:=G.c3;gi_wp2;exact hw'
  iterate 2
   apply ah;refine⟨rfl,?_⟩;refine aI rfl rfl (by decide) ?_;apply ah;refine⟨λT w' hw' K Q hK=>?_,?_⟩
   ·gi_wp2;exact hw'
  apply ah;refine⟨rfl,?_⟩
  iterate 8
   refine cZ rfl rfl (by decide) (λw f hf=>by simp[Oper.about]at hf) rfl ?_
  refine cZ rfl rfl (by decide) (λw f hf=>by
   simp[Oper.about,resolve,Deferred.ofValue,Target.leads,Act.eval,go_sem]at hf;subst hf;rfl) rfl ?_
  refine cZ rfl rfl (by decide) (λw f hf=>by simp[Oper.about]at hf) rfl ?_;refine aI rfl rfl (by decide) ?_;apply ah;refine⟨λT w' hw' K Q hK=>?_,?_⟩
  ·gi_wp2;exact hw'
  apply ah;refine⟨rfl,?_⟩;intro w2 hw2
  gi_wp2_with (gi_at_call 339;refine(hF (H1.same hw2)).mono ?_;rintro e w3 ⟨rfl,H3,hb3⟩)
  (try simp only[Exit.inBlock,Exit.then]);refine bodyPost_ret (results_none rfl _ _ _) rfl ?_
  exact⟨rfl,by rw[HJ.out];exact H3,(HB1.trans (hw2.mono H1.bk.hN)).trans hb3⟩
end
section
set_option maxHeartbeats 1000000
set_option maxRecDepth 10000
open Go Go.RowKit
def St.init:St:={ cases:=λ_=>⟨0,0,0,0⟩,acc:=λ_=>0,tkn:=λ_=>0,pd:=λ_=>0,bV:=[] }
def St.Cm(s:St)(k:Nat)(x:Int):St:={ s with acc:=upd s.acc k (wrap64 (s.acc k-x)) }
def St.mvOk(b:Book)(i:Nat)(s:St):Prop:=
 ¬(s.acc 0=0∧s.acc 1=0∧s.acc 2=0)∧(s.cases (b.aV i).cas).state=0∧0≤wrap64 (s.acc (b.aV i).bg - (b.aV i).amount)
instance (b:Book) (i:Nat) (s:St):Decidable (St.mvOk b i s):=by unfold St.mvOk;exact inferInstance
def St.mv(b:Book)(i:Nat)(s:St):St:=
 if St.mvOk b i s then((s.Cm (b.aV i).bg (b.aV i).amount).addHeld (b.aV i).cas (b.aV i).amount).keep b (b.aV i).day
 else{ s with bV:=s.bV++[(i:Int)] }
def St.jH(b:Book)(d:Int)(i:Nat)(s:St):St:=
 if(b.aV i).day=d∧(b.aV i).kind≠2 then(if(b.aV i).kind=1 then s.Dk b i else s.inn b i)else s
def St.ins(b:Book)(d:Int)(s:St):St:=iter (St.jH b d) b.ps.length s
def St.mX(b:Book)(d:Int)(i:Nat)(s:St):St:=if(b.aV i).day=d∧(b.aV i).kind=2 then s.mv b i else s
def St.mvs(b:Book)(d:Int)(s:St):St:=iter (St.mX b d) b.ps.length s
def St.xq(b:Book)(s:St)(d:Int):St:=(((s.iY b d).ins b d).keep b d).mvs b d
def Dp(x:Int):List Int→List Int
 | []=>[x]
 |y::l=>if x<y then x::y::l else if x=y then y::l else y::Dp x l
def Book.dD(b:Book):List Int:=0::(b.ps.map (·.day)++b.cs.map λc=>c.due+c.fZ+1)
def Book.bP(b:Book):List Int:=b.dD.foldr Dp []
def Book.after(b:Book)(n:Int):St:=(b.bP.filter (λd=>decide (d≤n))).foldl (St.xq b) St.init
theorem AV{x y:Int}:∀{l:List Int},y∈Dp x l↔y=x∨y∈l
 | []=>by simp[Dp]
 |z::l=>by
  unfold Dp;split
  ·simp
  ·split
   ·rename_i h;subst h;simp
   ·simp only[List.mem_cons,AV (l:=l)];constructor
    ·rintro(h|h|h)
     ·exact .inr (.inl h)
     ·exact .inl h
     ·exact .inr (.inr h)
    ·rintro(h|h|h)
     ·exact .inr (.inl h)
     ·exact .inl h
     ·exact .inr (.inr h)
theorem yD{x:Int}:∀{l:List Int},l.Pairwise (·<·)→(Dp x l).Pairwise (·<·)
 | [],_=>by simp[Dp]
 |z::l,h=>by
  rw[List.pairwise_cons]at h;unfold Dp;split
  ·rename_i hx;refine List.pairwise_cons.2 ⟨λa ha=>?_,List.pairwise_cons.2 h⟩;rcases List.mem_cons.1 ha with rfl|ha
   ·exact hx
   ·have:=h.1 a ha;omega
  ·split
   ·exact List.pairwise_cons.2 h
   ·refine List.pairwise_cons.2 ⟨λa ha=>?_,yD h.2⟩;rcases AV.1 ha with rfl|ha
    ·omega
    ·exact h.1 a ha
theorem uT:∀(l:List Int),(l.foldr Dp []).Pairwise (·<·)∧∀y,y∈l.foldr Dp []↔y∈l
 | []=>by simp
 |x::l=>by
  obtain⟨h1,h2⟩:=uT l;exact⟨yD h1,λy=>by rw[List.foldr_cons,AV,h2,List.mem_cons]⟩
theorem Book.jJ(b:Book):b.bP.Pairwise (·<·):=(uT _).1
theorem Book.lH(b:Book){y:Int}:y∈b.bP↔y∈b.dD:=(uT _).2 y
theorem Ci:∀{l l':List Int},l.Pairwise (·<·)→l'.Pairwise (·<·)→(∀y,y∈l↔y∈l')→l=l'
 | [],[],_,_,_=>rfl
 | [],y::l',_,_,h=>by have:=(h y).2 (by simp);simp at this
 |x::l,[],_,_,h=>by have:=(h x).1 (by simp);simp at this
 |x::l,y::l',h1,h2,h=>by
  rw[List.pairwise_cons]at h1 h2;have hxy:x=y:=by
   have a:=(h x).1 (by simp);have c:=(h y).2 (by simp);rcases List.mem_cons.1 a with a|a
   ·exact a
   ·rcases List.mem_cons.1 c with c|c
    ·exact c.symm
    ·have:=h2.1 x a;have:=h1.1 y c;omega
  subst hxy;rw[Ci h1.2 h2.2 λz=>?_];constructor
  ·intro hz;rcases List.mem_cons.1 ((h z).1 (by simp[hz]))with rfl|hz'
   ·have:=h1.1 z hz;omega
   ·exact hz'
  ·intro hz;rcases List.mem_cons.1 ((h z).2 (by simp[hz]))with rfl|hz'
   ·have:=h2.1 z hz;omega
   ·exact hz'
theorem yu(n:Int):∀{l:List Int},l.Pairwise (·<·)→l.filter (λd=>decide (d≤n+1))=l.filter (λd=>decide (d≤n))++(if n+1∈l then[n+1]else[])
 | [],_=>by simp
 |x::l,h=>by
  rw[List.pairwise_cons]at h;have ih:=yu n h.2;by_cases h1:x≤n
  ·have:x≤n+1:=by omega
   have hne:n+1≠x:=by omega
   simp only[List.filter_cons,h1,this,decide_true,if_true,ih,List.mem_cons,hne,false_or,List.cons_append]
  ·have hnil:l.filter (λd=>decide (d≤n+1))=[]:=List.filter_eq_nil_iff.2 λa ha=>by have:=h.1 a ha;simp;omega
   have hnil2:l.filter (λd=>decide (d≤n))=[]:=List.filter_eq_nil_iff.2 λa ha=>by have:=h.1 a ha;simp;omega
   by_cases h2:x=n+1
   ·subst h2;simp[List.filter_cons,h1,hnil,hnil2]
   ·have h3:¬x≤n+1:=by omega
    have h4:¬(n+1=x∨n+1∈l):=by
     rintro(h|h')
     ·exact h2 h.symm
     ·have:=h.1 _ h';omega
    simp[List.filter_cons,h1,h3,hnil,hnil2,h4]
theorem Book.kU(b:Book)(n:Int):b.after (n+1)=if n+1∈b.bP then St.xq b (b.after n) (n+1)else b.after n:=by
 unfold Book.after;rw[yu n b.jJ,List.foldl_append];split<;>rfl
theorem Valid.OX{b:Book}(hv:Valid b){d:Int}(h:d∈b.bP):0≤d:=by
 rw[b.lH]at h;unfold Book.dD at h;rcases List.mem_cons.1 h with h|h
 ·omega
 rcases List.mem_append.1 h with h|h
 ·obtain⟨p,hp,rfl⟩:=List.mem_map.1 h;exact(hv.p p hp).2.1
 ·obtain⟨c,hc,rfl⟩:=List.mem_map.1 h;have:=hv.k c hc;omega
theorem Valid.zU{b:Book}(hv:Valid b):b.after (-1)=St.init:=by
 unfold Book.after;rw[List.filter_eq_nil_iff.2 λa ha=>by have:=hv.OX ha;simp;omega];rfl
theorem Book.Oq(b:Book):(0:Int)∈b.bP:=b.lH.2 (by simp[Book.dD])
end
section
set_option maxHeartbeats 1000000
set_option maxRecDepth 10000
open Go Go.RowKit
theorem infoOf3:(Tryz.prog.info? 3).isSome=true:=by kernel_rfl
theorem RD:Tryz.prog.cellsOf 3=1:=by kernel_rfl
theorem eql94(w:World)(a0 a1 a2 b0 b1 b2:Int):(binOp .eql 131 (.agg #[.int .i64 a0,.int .i64 a1,.int .i64 a2]) (.agg #[.int .i64 b0,.int .i64 b1,.int .i64 b2])).run Tryz.prog w=.ok (.bool (a0==b0&&(a1==b1&&a2==b2))) w:=by
 obtain⟨i,hi⟩:=Option.isSome_iff_exists.1 infoOf3;have e3:∀d a b,(Op.equalIn (d+1) 3 (.int .i64 a) (.int .i64 b)).run Tryz.prog w=.ok (a==b) w:=λd a b=>run_equalIn_int w d 3 .i64 .i64 a b Tryz.underlying3;have hp:∀(c0 c1 c2:Int) (j:Nat) (c:Int),(#[c0,c1,c2]:Array Int)[j]?=some c→(part 3 #[.int .i64 c0,.int .i64 c1,.int .i64 c2] j).run Tryz.prog w=.ok (.int .i64 c) w:=λc0 c1 c2 j c hc=>by
  match j,hc with
  |0,hc=>simp at hc;subst hc;simp[part,go_sem]
  |1,hc=>simp at hc;subst hc;simp[part,go_sem]
  |2,hc=>simp at hc;subst hc;simp[part,go_sem]
 rw[run_eql_struct];rw[show(10000:Nat)=9999+1 from rfl,run_equalIn_array w 9999 _ _ Tryz.underlying131 hi,RD];have pa0:=hp a0 a1 a2 0 a0 rfl;have pa1:=hp a0 a1 a2 1 a1 rfl;have pa2:=hp a0 a1 a2 2 a2 rfl;have pb0:=hp b0 b1 b2 0 b0 rfl;have pb1:=hp b0 b1 b2 1 b1 rfl;have pb2:=hp b0 b1 b2 2 b2 rfl;have e3':=e3 9998;simp only[Nat.reduceAdd]at e3';simp only[List.range,List.range.loop,Op.eqItems,Sem.run_bind,Nat.mul_one,pa0,pb0,Result.andThen_ok,e3'];cases h0:(a0==b0)
 ·simp
 ·simp only[Bool.not_true,Bool.false_eq_true,if_false,Sem.run_bind,pa1,pb1,Result.andThen_ok,e3'];cases h1:(a1==b1)
  ·simp
  ·simp only[Bool.not_true,Bool.false_eq_true,if_false,Sem.run_bind,pa2,pb2,Result.andThen_ok,e3'];cases h2:(a2==b2)<;>simp
end
section
set_option maxHeartbeats 1000000
set_option maxRecDepth 10000
open Go Go.RowKit Lift
theorem Blk.put{w:World}{B:Nat}{ty:TypeId}{cs:Array Value}(h:Blk w B ty cs)(j:Nat)(v:Value):Blk (w.setCell ⟨B,j,none⟩ v) B ty (cs.setIfInBounds j v):=gK h j v
theorem rC(f:Nat→Int){k:Nat}(hk:k<3):(#[Value.int .i64 (f 0),.int .i64 (f 1),.int .i64 (f 2)]:Array Value)[k]?=some (.int .i64 (f k)):=by
 match k,hk with
 |0,_=>rfl
 |1,_=>rfl
 |2,_=>rfl
theorem aJ.vM{N:Nat}{l:Lay}{b:Book}{t:Tl}{s:St}{w:World}(h:aJ N l b t s w){B:Nat}{ty:TypeId}{ds:Array Value}(hB:Blk w B ty ds)(h3:ty≠3)(h91:ty≠128)(h96:ty≠133)(hNB:N≤B)(hpin:∀p∈t.pins,p.1≠B)(j:Nat)(v:Value):aJ N l b t s (w.setCell ⟨B,j,none⟩ v):=by
 have hold:∀k,k≠B→(w.setCell ⟨B,j,none⟩ v).heap[k]?=w.heap[k]?:=λk hk=>Below.heap_setCell w _ _ k hk;obtain⟨cs,h1,h2⟩:=h.stand;obtain⟨vv,k3,h4,h5,h6⟩:=h.till;have hB':w.heap[B]?=some (.cells ds ty (0,0)):=hB;have nT:t.T≠B:=λe=>by rw[e,hB']at k3;cases k3;exact h96 rfl
 have nS:t.Sb≠B:=λe=>by rw[e,hB']at h1;cases h1;exact h91 rfl
 refine⟨h.bk.below ((Below.refl N w).setCell hNB _),h.NT,h.NS,h.ne,⟨vv,(hold _ nT).trans k3,?_,h5,h6⟩,h.pin.of (by simp) λp hp=>hold _ (hpin p hp),⟨cs,(hold _ nS).trans h1,h2⟩⟩;obtain⟨m1,m2⟩:=h4;refine⟨m1,m2.imp id ?_⟩;rintro⟨g,cap,cur,a1,a2,a3,a4⟩;have nG:g≠B:=λe=>by rw[e,hB']at a3;cases a3;exact h3 rfl
 exact⟨g,cap,cur,a1,a2,(hold _ nG).trans a3,a4⟩
theorem below_drewN(w:World)(n:Nat):Below w.heap.size w (w.drewN n):=⟨rfl,rfl,rfl,ak _,λ_ _=>rfl⟩
theorem Tryz.AA:(Tryz.prog.info? 3).map (λi=>(i.zero,i.size,i.bytes))=some (some (.int .i64 0),1,8):=by kernel_rfl
theorem aJ.FQ{N:Nat}{l:Lay}{b:Book}{t:Tl}{s:St}{w w':World}(h:aJ N l b t s w){vv v':Value}{x:Int}(hvv:w.cell? ⟨t.T,14,none⟩=some vv)(Kv:vv.ownBlock≠some t.T)(hvS:vv.ownBlock≠some t.Sb)(hvf:t.from vv)(hvN:∀k,vv.ownBlock=some k→N≤k)
  (hown:w'.ownsRow N 3 1 v' (s.bV.length+1) (s.bV.map (λx=>.int .i64 x)++[.int .i64 x])) (hg:w.grownBy w' vv.ownBlock) (hat:v'.ownBlock=vv.ownBlock∨v'.ownBlock=some w.heap.size) :
  aJ N l b t { s with bV:=s.bV++[x] } (w'.setCell ⟨t.T,14,none⟩ v')∧Below N w (w'.setCell ⟨t.T,14,none⟩ v'):=by
 have I7:=h.ltT;have Pm:=h.ltS;obtain⟨cs,h1,h2⟩:=h.stand;obtain⟨v0,k3,h4,h5,h6⟩:=h.till;have hB0:Below N w w':=(Below.refl N w).grown hg h.bk.hN hvN;have hT':w'.heap[t.T]?=some (.cells (oO l b t s v0) 133 (0,0)):=(hg.block t.T I7 (λe=>Kv e.symm)).trans k3;have hS':w'.heap[t.Sb]?=some (.cells cs 128 (0,0)):=(hg.block t.Sb Pm (λe=>hvS e.symm)).trans h1;have nT:v'.ownBlock≠some t.T:=by
  rcases hat with e|e
  ·rw[e];exact Kv
  ·rw[e];intro e2;have:=Option.some.inj e2;omega
 have nS:v'.ownBlock≠some t.Sb:=by
  rcases hat with e|e
  ·rw[e];exact hvS
  ·rw[e];intro e2;have:=Option.some.inj e2;omega
 have hold:∀k,k≠t.T→(w'.setCell ⟨t.T,14,none⟩ v').heap[k]?=w'.heap[k]?:=λk hk=>Below.heap_setCell w' _ _ k hk;refine⟨⟨h.bk.below (hB0.setCell h.NT _),h.NT,h.NS,h.ne,⟨v',?_,?_,nT,nS,?_⟩,h.pin.of (Nat.le_trans hg.size (by simp)) λp hp=>(hold _ (h.pin.at_ p hp).2.1).trans (hg.block _ (Array.getElem?_eq_some_iff.1 (h.pin.at_ p hp).1).1 (λe=>h.pin.free hvf hp e.symm)),⟨cs,(hold _ h.ne.symm).trans hS',h2⟩⟩,hB0.setCell h.NT _⟩
 ·rw[gK hT'];rfl
 ·have:({ s with bV:=s.bV++[x] }:St).bV.length=s.bV.length+1:=by simp
  rw[this,List.map_append];exact fE hown λg o hg' ho=>(hold g (λe=>nT (by rw[hg',e]))).trans ho
 ·rcases hat with e|e
  ·exact hvf.imp (λh=>e.trans h) (λ⟨k,h1,h2⟩=>⟨k,e.trans h1,h2⟩)
  ·exact .inr ⟨_,e,h.pin.lim⟩
theorem aJ.setAccs{N:Nat}{l:Lay}{b:Book}{t:Tl}{s:St}{w:World}(h:aJ N l b t s w){k:Nat}(hk:k<3)(x:Int) :
  aJ N l b t { s with acc:=upd s.acc k x } (((w.setCell ⟨t.T,5,none⟩ (.int .i64 (upd s.acc k x 0))).setCell ⟨t.T,6,none⟩ (.int .i64 (upd s.acc k x 1))).setCell ⟨t.T,7,none⟩ (.int .i64 (upd s.acc k x 2))):=by
 have:=((h.Cc (k:=0) (by omega) (upd s.acc k x 0)).Cc (k:=1) (by omega) (upd s.acc k x 1)).Cc (k:=2) (by omega) (upd s.acc k x 2);have e:upd (upd (upd s.acc 0 (upd s.acc k x 0)) 1 (upd s.acc k x 1)) 2 (upd s.acc k x 2)=upd s.acc k x:=by
  funext j
  unfold upd;by_cases h2:j=2
  ·subst h2;simp
  ·by_cases h1:j=1
   ·subst h1;simp
   ·by_cases h0:j=0
    ·subst h0;simp
    ·have hj:j≠k:=by omega
     simp[h2,h1,h0,hj]
 simp only[e]at this;exact this
theorem Qi(f:Nat→Int){k:Nat}(hk:k<3)(x:Int):(#[Value.int .i64 (f 0),.int .i64 (f 1),.int .i64 (f 2)]:Array Value).setIfInBounds k (.int .i64 x)=#[.int .i64 (upd f k x 0),.int .i64 (upd f k x 1),.int .i64 (upd f k x 2)]:=by
 match k,hk with
 |0,_=>rfl
 |1,_=>rfl
 |2,_=>rfl
set_option maxHeartbeats 16000000 in
set_option maxRecDepth 1000000 in
theorem move_in{N:Nat}{l:Lay}{b:Book}{t:Tl}{s:St}{w:World}(h:aJ N l b t s w)(hv:Valid b){i:Nat}(hi:i<b.ps.length)(hkd:(b.aV i).kind=2)(hvl:s.bV.length≤1000000) :
 CallsIn Fz 0 Tryz.prog 344 #[.pointer (some ⟨t.T,0,none⟩),.int .i64 i] w λe w'=>e=.returned (.tuple #[])∧aJ N l b t (s.mv b i) w'∧Below N w w':=by
 obtain⟨pb,po,hP⟩:=h.bk.pay hi;have hN:=h.bk.hN;have hpw:pb<w.heap.size:=aB hP.hp hN;have vp:=hv.p _ hP.mp;have p0:=hP.rp 0 _ rfl;have p1:=hP.rp 1 _ rfl;have p2:=hP.rp 2 _ rfl;have p3:=hP.rp 3 _ rfl;have p4:=hP.rp 4 _ rfl;have f3:=h.c3;rw[hP.ep]at f3;simp only[Nat.add_zero]at p0;have hnc:=hv.nc;have hnk:=hv.nk;have hk3:(b.aV i).bg<3:=by omega
 have hcc:(b.aV i).cas<b.cs.length:=vp.2.2.2.2.2.2.2 (by omega);have hK:∀{s:St} {w'},aJ N l b t s w'→CallsIn Fz 0 Tryz.prog 100 #[.pointer (some ⟨t.T,0,none⟩),.int .i64 (b.aV i).day] w' λe w''=>e=.returned (.tuple #[])∧aJ N l b t (s.keep b (b.aV i).day) w''∧Below N w' w'':=λH=>N7 H hv _;obtain⟨si,hsi⟩:∃si,si=s.mv b i:=⟨_,rfl⟩
 rw[← hsi];have hs1:(¬(s.acc 0=0∧s.acc 1=0∧s.acc 2=0)∧(s.cases (b.aV i).cas).state=0∧0≤wrap64 (s.acc (b.aV i).bg - (b.aV i).amount))→si=((s.Cm (b.aV i).bg (b.aV i).amount).addHeld (b.aV i).cas (b.aV i).amount).keep b (b.aV i).day:=λh=>hsi.trans (if_pos h);have hs2:¬(¬(s.acc 0=0∧s.acc 1=0∧s.acc 2=0)∧(s.cases (b.aV i).cas).state=0∧0≤wrap64 (s.acc (b.aV i).bg - (b.aV i).amount))→si={ s with bV:=s.bV++[(i:Int)] }:=λh=>hsi.trans (if_neg h);clear hsi;generalize b.aV i=p at *;obtain⟨kd,dy,k,am,cc⟩:=p;simp only at *;subst hkd;have HI1:=Lib.hid hs1;have HI2:=Lib.hid hs2;clear hs1 hs2;have I7:=h.ltT;have Pm:=h.ltS;have f5:=h.c5;have f6:=h.c6;have f7:=h.c7;gi_enter Tryz.func344,Tryz.ntmps344
 gi_wp2;have hq:=Blk.new w #[.int .i64 2,.int .i64 dy,.int .i64 k,.int .i64 am,.int .i64 cc] 93;have hb1:Below w.heap.size w (w.alloc (.cells #[.int .i64 2,.int .i64 dy,.int .i64 k,.int .i64 am,.int .i64 cc] 93)):=(Below.refl _ w).alloc (ak _) _;have hb2:Below w.heap.size w ((w.alloc (.cells #[.int .i64 2,.int .i64 dy,.int .i64 k,.int .i64 am,.int .i64 cc] 93)).alloc (.cells #[.int .i64 (s.acc 0),.int .i64 (s.acc 1),.int .i64 (s.acc 2)] 131)):=hb1.alloc (by simp) _;have hL:=Blk.new (w.alloc (.cells #[.int .i64 2,.int .i64 dy,.int .i64 k,.int .i64 am,.int .i64 cc] 93)) #[.int .i64 (s.acc 0),.int .i64 (s.acc 1),.int .i64 (s.acc 2)] 131;have hq2:Blk ((w.alloc (.cells #[.int .i64 2,.int .i64 dy,.int .i64 k,.int .i64 am,.int .i64 cc] 93)).alloc (.cells #[.int .i64 (s.acc 0),.int .i64 (s.acc 1),.int .i64 (s.acc 2)] 131)) w.heap.size 93 _:=hq.below ((Below.refl _ _).alloc (ak _) _);have H1:=h.same hb2;have HB1:=hb2.mono hN;rw[World.size_alloc]at hL;clear p0 p1 p2 p3 p4 f3 f5 f6 f7 hb1 hb2 hq;have hneT:t.T≠w.heap.size+1:=by omega
 have hneS:t.Sb≠w.heap.size+1:=by omega
 have NW:t.T≠w.heap.size:=by omega
 have hneS':t.Sb≠w.heap.size:=by omega
 have hNB:N≤w.heap.size:=hN;have hpins:∀p∈t.pins,p.1<w.heap.size:=λp hp=>by have:=(h.pin.at_ p hp).2.2.2.2;have:=h.pin.lim;omega
 generalize World.alloc _ _=w1 at H1 HB1 hq2 hL ⊢;generalize w.heap.size=B at hq2 hL hneT hneS NW hneS' hNB hpins ⊢;refine cu (λw'=>Below w1.heap.size w1 w') (λw'=>∃wx,Below w1.heap.size w1 wx∧w'=wx.setCell ⟨B+1,k,none⟩ (.int .i64 (wrap64 (s.acc k-am)))) 8 rfl mixed (by kernel_rfl) (λd=>⟨rfl,rfl,rfl,ak _,λ_ _=>rfl⟩) ?_;simp only[aG,aC,aF,Nat.reduceAdd,Nat.zero_add,List.range,List.range.loop]
 iterate 3
  refine aI rfl rfl (by decide) ?_;apply ah;refine⟨λT w' hw' K Q hK=>?_,?_⟩
  ·gi_wp2;exact hw'
  apply ah;refine⟨rfl,?_⟩;refine aS rfl rfl (by kernel_rfl) (.inl (by simp)) ?_;apply ah;refine⟨λw' hw' K Q hK=>?_,?_⟩
  ·have G:=H1.same hw';have q:=hq2.below hw';have q2:=q.cell 2;have q3:=q.cell 3;have qL:=hL.below hw';have qk:=(qL.cell k).trans (rC s.acc hk3);have qz:=qL.frozen k;simp at q2 q3;gi_wp2;exact hw'
  apply ah;refine⟨rfl,?_⟩
 iterate 2
  refine aI rfl rfl (by decide) ?_;apply ah;refine⟨λT w' hw' K Q hK=>?_,?_⟩
  ·gi_wp2;exact hw'
  apply ah;refine⟨rfl,?_⟩
 refine ig rfl rfl rfl ?_;apply ah;refine⟨λw' hw' K Q hK=>?_,?_⟩
 ·have G:=H1.same hw';have q:=hq2.below hw';have q2:=q.cell 2;have q3:=q.cell 3;have qL:=hL.below hw';have qk:=(qL.cell k).trans (rC s.acc hk3);have qz:=qL.frozen k;simp at q2 q3;gi_wp2;exact⟨w',hw',rfl⟩
 refine⟨undef,rfl,?_⟩;rintro _ ⟨w2,hw2,rfl⟩;have H2:=(H1.same hw2).vM (hL.below hw2) (by decide) (by decide) (by decide) (by omega) (λp hp e=>by have:=hpins p hp;omega) k (.int .i64 (wrap64 (s.acc k-am)));have HB2:=(HB1.trans (hw2.mono H1.bk.hN)).setCell (p:=⟨B+1,k,none⟩) (by simp only;omega) (.int .i64 (wrap64 (s.acc k-am)));have hq3:=(hq2.below hw2).set (g:=B+1) (j:=k) (by omega) (.int .i64 (wrap64 (s.acc k-am)));have hL3:=(hL.below hw2).put k (.int .i64 (wrap64 (s.acc k-am)));generalize w2.setCell _ _=w3 at H2 HB2 hq3 hL3 ⊢;gi_wp2;have f0:=H2.c4;have f1:=H2.dL hcc;have f5:=H2.c5;have f6:=H2.c6;have f7:=H2.c7;have q1:=hq3.cell 1;have q2:=hq3.cell 2;have q3:=hq3.cell 3;have q4:=hq3.cell 4;rw[Qi s.acc hk3]at hL3;have qk:=(hL3.cell k).trans (rC (upd s.acc k (wrap64 (s.acc k-am))) hk3);rw[upd_same]at qk;simp at q1 q2 q3 q4;have he:=eql94;by_cases hz:s.acc 0=0∧s.acc 1=0∧s.acc 2=0
 ·have hno:¬(¬(s.acc 0=0∧s.acc 1=0∧s.acc 2=0)∧(s.cases cc).state=0∧0≤wrap64 (s.acc k - am)):=λh=>h.1 hz;obtain⟨z0,z1,z2⟩:=hz;rw[z0]at f5;rw[z1]at f6;rw[z2]at f7;gi_big_quiet_th (fail)
  have HJ:=Lib.hid (HI2.out hno);clear HI1 HI2;have H3:=H2.same (below_drewN w3 nq);have HB3:=HB2.trans ((below_drewN w3 nq).mono H2.bk.hN);clear H2 HB2 hq3 hL3 f0 f1 f5 f6 f7 q1 q2 q3 q4 qk he hq2 hL;generalize w3.drewN nq=w4 at *;obtain⟨vv,hvv,hrow,Kv,hvS,hvf⟩:=H3.c14;obtain⟨i0,hi0,hz0,hz1,hz2⟩:=info_parts Tryz.AA;have hvN:∀k,vv.ownBlock=some k→N≤k:=λk e=>(hrow.lt k e).1;have hN4:=H3.bk.hN;have hal:Below w4.heap.size w4 (w4.alloc (.cells #[.int .i64 i] 3)):=(Below.refl _ w4).alloc (ak _) _;have HA:=H3.same hal;have HBA:=HB3.trans (hal.mono hN4);have I9:(w4.alloc (.cells #[.int .i64 i] 3)).cell? ⟨t.T,14,none⟩=some vv:=(hal.cell (p:=⟨t.T,14,none⟩) H3.ltT).trans hvv;have gA:=HA.eG 14;have Tc:=HA.ltT
  gi_wp2_with (gi_at_builtin;refine wpListIn_append_own_at _ rfl _ _ 28 rfl N 3 i0 (.int .i64 0) 1 8 Tryz.underlying28 hi0 hz0 hz1 hz2 rfl (by decide) _ _ _ rfl (hrow.alloc _) ⟨w4.heap.size,0,none⟩ 1 1 [.int .i64 i] rfl rfl (cell_one_new _ _ _) (by simp[Value.oneCell']) (by unfold maxLen;omega) (by omega) (by simp;omega) ?_;intro v' w5 hown' hgrow _ hat';obtain⟨g',cap',rfl⟩:=ownsRow_succ hown';have k14:=hgrow.cell I9 (λe=>Kv e.symm);have z14:=(World.frozen?_of_block (a:=⟨t.T,14,none⟩) (hgrow.block t.T Tc (λe=>Kv e.symm))).trans gA;clear hvv gA)
  have hfin:=HA.FQ I9 Kv hvS hvf hvN hown' hgrow hat'
  (try simp only[Exit.inBlock,Exit.then]);refine bodyPost_ret (results_none rfl _ _ _) rfl ?_
  exact⟨rfl,by rw[HJ.out];exact hfin.1,HBA.trans hfin.2⟩
 ·have hz':(s.acc 0==0&&(s.acc 1==0&&s.acc 2==0))=false:=by
   cases h:(s.acc 0==0&&(s.acc 1==0&&s.acc 2==0))with
   |false=>rfl
   |true=>simp at h;exact absurd h hz
  by_cases hs:(s.cases cc).state=0
  ·by_cases hn:wrap64 (s.acc k - am)<0
   ·have hno:¬(¬(s.acc 0=0∧s.acc 1=0∧s.acc 2=0)∧(s.cases cc).state=0∧0≤wrap64 (s.acc k - am)):=λh=>by have:=h.2.2;omega
    gi_big_quiet_th (fail)
    have HJ:=Lib.hid (HI2.out hno);clear HI1 HI2;have H3:=H2.same (below_drewN w3 nq);have HB3:=HB2.trans ((below_drewN w3 nq).mono H2.bk.hN);clear H2 HB2 hq3 hL3 f0 f1 f5 f6 f7 q1 q2 q3 q4 qk he hq2 hL;generalize w3.drewN nq=w4 at *;obtain⟨vv,hvv,hrow,Kv,hvS,hvf⟩:=H3.c14;obtain⟨i0,hi0,hz0,hz1,hz2⟩:=info_parts Tryz.AA;have hvN:∀k,vv.ownBlock=some k→N≤k:=λk e=>(hrow.lt k e).1;have hN4:=H3.bk.hN;have hal:Below w4.heap.size w4 (w4.alloc (.cells #[.int .i64 i] 3)):=(Below.refl _ w4).alloc (ak _) _;have HA:=H3.same hal;have HBA:=HB3.trans (hal.mono hN4);have I9:(w4.alloc (.cells #[.int .i64 i] 3)).cell? ⟨t.T,14,none⟩=some vv:=(hal.cell (p:=⟨t.T,14,none⟩) H3.ltT).trans hvv;have gA:=HA.eG 14;have Tc:=HA.ltT
    gi_wp2_with (gi_at_builtin;refine wpListIn_append_own_at _ rfl _ _ 28 rfl N 3 i0 (.int .i64 0) 1 8 Tryz.underlying28 hi0 hz0 hz1 hz2 rfl (by decide) _ _ _ rfl (hrow.alloc _) ⟨w4.heap.size,0,none⟩ 1 1 [.int .i64 i] rfl rfl (cell_one_new _ _ _) (by simp[Value.oneCell']) (by unfold maxLen;omega) (by omega) (by simp;omega) ?_;intro v' w5 hown' hgrow _ hat';obtain⟨g',cap',rfl⟩:=ownsRow_succ hown';have k14:=hgrow.cell I9 (λe=>Kv e.symm);have z14:=(World.frozen?_of_block (a:=⟨t.T,14,none⟩) (hgrow.block t.T Tc (λe=>Kv e.symm))).trans gA;clear hvv gA)
    have hfin:=HA.FQ I9 Kv hvS hvf hvN hown' hgrow hat'
    (try simp only[Exit.inBlock,Exit.then]);refine bodyPost_ret (results_none rfl _ _ _) rfl ?_
    exact⟨rfl,by rw[HJ.out];exact hfin.1,HBA.trans hfin.2⟩
   ·have HJ:=Lib.hid (HI1.out ⟨hz,hs,by omega⟩);clear HI1 HI2;gi_big_quiet_th (fail)
    have H3:=H2.same (below_drewN w3 nq);have HB3:=HB2.trans ((below_drewN w3 nq).mono H2.bk.hN);have hq4:=hq3.below (below_drewN w3 nq);have hL4:=hL3.below (below_drewN w3 nq);clear H2 HB2 hq3 hL3 f0 f1 f5 f6 f7 q1 q2 q3 q4 qk he hq2 hL;generalize w3.drewN nq=w4 at *;have l0:=hL4.cell 0;have l1:=hL4.cell 1;have l2:=hL4.cell 2;have g5:=H3.eG 5;have g6:=H3.eG 6;have g7:=H3.eG 7;have f5:=H3.c5;have f6:=H3.c6;have f7:=H3.c7;simp at l0 l1 l2;gi_wp2;have H4:=H3.setAccs hk3 (wrap64 (s.acc k-am));have HB4:=((HB3.setCell (p:=⟨t.T,5,none⟩) H3.NT (.int .i64 (upd s.acc k (wrap64 (s.acc k-am)) 0))).setCell (p:=⟨t.T,6,none⟩) H3.NT (.int .i64 (upd s.acc k (wrap64 (s.acc k-am)) 1))).setCell (p:=⟨t.T,7,none⟩) H3.NT (.int .i64 (upd s.acc k (wrap64 (s.acc k-am)) 2));have hq5:=((hq4.set (g:=t.T) (j:=5) NW (.int .i64 (upd s.acc k (wrap64 (s.acc k-am)) 0))).set (g:=t.T) (j:=6) NW (.int .i64 (upd s.acc k (wrap64 (s.acc k-am)) 1))).set (g:=t.T) (j:=7) NW (.int .i64 (upd s.acc k (wrap64 (s.acc k-am)) 2))
    change aJ N l b t (s.Cm k am) _ at H4
    clear l0 l1 l2 g5 g6 g7 f5 f6 f7;generalize ((w4.setCell _ _).setCell _ _).setCell _ _=w5 at H4 HB4 hq5 ⊢;obtain⟨s2,hs2⟩:∃s2,s2=s.Cm k am:=⟨_,rfl⟩
    rw[← hs2]at H4 HJ;clear hs2;refine cu (λw'=>Below w5.heap.size w5 w') (λw'=>∃wx,Below w5.heap.size w5 wx∧w'=wx.setCell ⟨t.Sb,cc * 4+1,none⟩ (.int .i64 (wrap64 ((s2.cases cc).held+am)))) 14 rfl mixed (by kernel_rfl) (λd=>⟨rfl,rfl,rfl,ak _,λ_ _=>rfl⟩) ?_;simp only[aG,aC,aF,Nat.reduceAdd,Nat.zero_add,List.range,List.range.loop]
    iterate 3
     refine aI rfl rfl (by decide) ?_;apply ah;refine⟨λT w' hw' K Q hK=>?_,?_⟩
     ·gi_wp2;exact hw'
     apply ah;refine⟨rfl,?_⟩
    iterate 2
     refine aS rfl rfl (by kernel_rfl) (.inl (by simp)) ?_;apply ah;refine⟨λw' hw' K Q hK=>?_,?_⟩
     ·have G:=H4.same hw';have q:=hq5.below hw';have q3:=q.cell 3;have q4:=q.cell 4;have f4:=G.c4;have f0:=G.jr hcc;have f1:=G.fV (cc * 4+1);simp at q3 q4;gi_wp2;exact hw'
     apply ah;refine⟨rfl,?_⟩;refine aI rfl rfl (by decide) ?_;apply ah;refine⟨λT w' hw' K Q hK=>?_,?_⟩
     ·gi_wp2;exact hw'
     apply ah;refine⟨rfl,?_⟩
    iterate 2
     refine aI rfl rfl (by decide) ?_;apply ah;refine⟨λT w' hw' K Q hK=>?_,?_⟩
     ·gi_wp2;exact hw'
     apply ah;refine⟨rfl,?_⟩;refine aS rfl rfl (by kernel_rfl) (.inl (by simp)) ?_;apply ah;refine⟨λw' hw' K Q hK=>?_,?_⟩
     ·have G:=H4.same hw';have q:=hq5.below hw';have q3:=q.cell 3;have q4:=q.cell 4;have f4:=G.c4;have f0:=G.jr hcc;have f1:=G.fV (cc * 4+1);simp at q3 q4;gi_wp2;exact hw'
     apply ah;refine⟨rfl,?_⟩
    iterate 3
     refine aI rfl rfl (by decide) ?_;apply ah;refine⟨λT w' hw' K Q hK=>?_,?_⟩
     ·gi_wp2;exact hw'
     apply ah;refine⟨rfl,?_⟩
    refine ig rfl rfl rfl ?_;apply ah;refine⟨λw' hw' K Q hK=>?_,?_⟩
    ·have G:=H4.same hw';have q:=hq5.below hw';have q3:=q.cell 3;have q4:=q.cell 4;have f4:=G.c4;have f0:=G.jr hcc;have f1:=G.fV (cc * 4+1);simp at q3 q4;gi_wp2;exact⟨w',hw',rfl⟩
    refine⟨undef,rfl,?_⟩;rintro _ ⟨w6,hw6,rfl⟩;have H5:=(H4.same hw6).iR hcc (wrap64 ((s2.cases cc).held+am));have HB5:=(HB4.trans (hw6.mono H4.bk.hN)).setCell (p:=⟨t.Sb,cc * 4+1,none⟩) H4.NS (.int .i64 (wrap64 ((s2.cases cc).held+am)));have hq6:=(hq5.below hw6).set (g:=t.Sb) (j:=cc * 4+1) hneS' (.int .i64 (wrap64 ((s2.cases cc).held+am)))
    change aJ N l b t (s2.addHeld cc am) _ at H5
    generalize w6.setCell _ _=w7 at H5 HB5 hq6 ⊢;have q1:=hq6.cell 1;simp at q1
    gi_wp2_with (gi_at_call 100;refine(hK H5).mono ?_;rintro e w8 ⟨rfl,H6,hb6⟩)
    go_end0;exact⟨rfl,by rw[HJ.out];exact H6,HB5.trans hb6⟩
  ·have hno:¬(¬(s.acc 0=0∧s.acc 1=0∧s.acc 2=0)∧(s.cases cc).state=0∧0≤wrap64 (s.acc k - am)):=λh=>hs h.2.1;have hsb1:decide ((s.cases cc).state=0)=false:=by simp[hs]
   have hsb2:((s.cases cc).state==0)=false:=by simp[hs]
   have hsb3:((s.cases cc).state != 0)=true:=by simp[hs]
   gi_big_quiet_th (fail)
   have HJ:=Lib.hid (HI2.out hno);clear HI1 HI2;have H3:=H2.same (below_drewN w3 nq);have HB3:=HB2.trans ((below_drewN w3 nq).mono H2.bk.hN);clear H2 HB2 hq3 hL3 f0 f1 f5 f6 f7 q1 q2 q3 q4 qk he hq2 hL;generalize w3.drewN nq=w4 at *;obtain⟨vv,hvv,hrow,Kv,hvS,hvf⟩:=H3.c14;obtain⟨i0,hi0,hz0,hz1,hz2⟩:=info_parts Tryz.AA;have hvN:∀k,vv.ownBlock=some k→N≤k:=λk e=>(hrow.lt k e).1;have hN4:=H3.bk.hN;have hal:Below w4.heap.size w4 (w4.alloc (.cells #[.int .i64 i] 3)):=(Below.refl _ w4).alloc (ak _) _;have HA:=H3.same hal;have HBA:=HB3.trans (hal.mono hN4);have I9:(w4.alloc (.cells #[.int .i64 i] 3)).cell? ⟨t.T,14,none⟩=some vv:=(hal.cell (p:=⟨t.T,14,none⟩) H3.ltT).trans hvv;have gA:=HA.eG 14;have Tc:=HA.ltT
   gi_wp2_with (gi_at_builtin;refine wpListIn_append_own_at _ rfl _ _ 28 rfl N 3 i0 (.int .i64 0) 1 8 Tryz.underlying28 hi0 hz0 hz1 hz2 rfl (by decide) _ _ _ rfl (hrow.alloc _) ⟨w4.heap.size,0,none⟩ 1 1 [.int .i64 i] rfl rfl (cell_one_new _ _ _) (by simp[Value.oneCell']) (by unfold maxLen;omega) (by omega) (by simp;omega) ?_;intro v' w5 hown' hgrow _ hat';obtain⟨g',cap',rfl⟩:=ownsRow_succ hown';have k14:=hgrow.cell I9 (λe=>Kv e.symm);have z14:=(World.frozen?_of_block (a:=⟨t.T,14,none⟩) (hgrow.block t.T Tc (λe=>Kv e.symm))).trans gA;clear hvv gA)
   have hfin:=HA.FQ I9 Kv hvS hvf hvN hown' hgrow hat'
   (try simp only[Exit.inBlock,Exit.then]);refine bodyPost_ret (results_none rfl _ _ _) rfl ?_
   exact⟨rfl,by rw[HJ.out];exact hfin.1,HBA.trans hfin.2⟩
end
