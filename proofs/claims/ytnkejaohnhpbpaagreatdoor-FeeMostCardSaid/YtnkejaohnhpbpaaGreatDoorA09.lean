/- Money that comes in for a case, inside the fence. -/
import Derived.Test.YtnkejaohnhpbpaaGreatDoorA08
set_option linter.all false
section
namespace Go.Proofs.YtnkejaohnhpbpaaGreatDoor
open Go Go.RowKit Lift
def St.addHeld (s:St) (c:Nat) (x:Int):St:=s.setHeld c (wrap64 ((s.cases c).held + x))
def St.inn (b:Book) (i:Nat) (s:St):St:=
 if (s.cases (b.payAt i).cas).state = 0 ∧ (b.payAt i).coin = b.coin (b.payAt i).cas then (s.addPd (b.payAt i).coin (b.payAt i).amount).addHeld (b.payAt i).cas (b.payAt i).amount else s.fund b i
set_option maxHeartbeats 2000000 in
theorem in_in {N:Nat} {l:Lay} {b:Book} {t:Tl} {s:St} {w:World} (h:TillAt N l b t s w) (hv:Valid b) {i:Nat} (hi:i < b.ps.length) (hkd:(b.payAt i).kind ≠ 1) :
 CallsIn Fz 0 Tryz.prog 206 #[.pointer (some ⟨t.T,0,none⟩),.int .i64 i] w fun e w' => e = .returned (.tuple #[]) ∧ TillAt N l b t (s.inn b i) w' ∧ Below N w w':=by
 obtain ⟨pb,po,hP⟩:=h.bk.pay hi;have hN:=h.bk.hN;have hpw:pb < w.heap.size:=Nat.lt_of_lt_of_le hP.hp hN;have vp:=hv.p _ hP.mp;have p0:=hP.rp 0 _ rfl;have p1:=hP.rp 1 _ rfl;have p2:=hP.rp 2 _ rfl;have p3:=hP.rp 3 _ rfl;have p4:=hP.rp 4 _ rfl;have f3:=h.c3;rw [hP.ep] at f3;simp only [Nat.add_zero] at p0;have hnc:=hv.nc;have hnk:=hv.nk;have hk3:(b.payAt i).coin < 3:=by omega
 have hcc:(b.payAt i).cas < b.cs.length:=vp.2.2.2.2.2.2.2 hkd;obtain ⟨hq1,hq3⟩:=hv.coin hcc;have hF:∀ {w'},TillAt N l b t s w' → CallsIn Fz 0 Tryz.prog 203 #[.pointer (some ⟨t.T,0,none⟩),.int .i64 i] w' fun e w'' => e = .returned (.tuple #[]) ∧ TillAt N l b t (s.fund b i) w'' ∧ Below N w' w'':=fun H => fund_in H hv hi;obtain ⟨si,hsi⟩:∃ si,si = s.inn b i:=⟨_,rfl⟩
 rw [← hsi];unfold St.inn at hsi;generalize s.fund b i = sf at *;generalize b.payAt i = p at *;obtain ⟨kd,dy,k,am,cc⟩:=p;simp only at *;have HI:=Lib.hid hsi;clear hsi;have hltT:=h.ltT;have hltS:=h.ltS;gi_enter Tryz.func206,Tryz.ntmps206
 gi_wp2;have hq:=Blk.new w #[.int .i64 kd,.int .i64 dy,.int .i64 k,.int .i64 am,.int .i64 cc] 56;have hb1:Below w.heap.size w (w.alloc (.cells #[.int .i64 kd,.int .i64 dy,.int .i64 k,.int .i64 am,.int .i64 cc] 56)):=(Below.refl _ w).alloc (Nat.le_refl _) _;have H1:=h.same hb1;have HB1:=hb1.mono hN;clear p0 p1 p2 p3 p4 f3 hb1;have hne:t.T ≠ w.heap.size:=by omega
 have hneS:t.Sb ≠ w.heap.size:=by omega
 generalize w.alloc _ = w1 at H1 HB1 hq ⊢;generalize w.heap.size = B at hq hne hneS ⊢;by_cases hs:(s.cases cc).state = 0
 ·by_cases hkc:k = b.coin cc
  ·subst hkc;have HJ:=Lib.hid (HI.out.trans (if_pos ⟨hs,rfl⟩));clear HI;refine wpIn_region_reads (fun w' => Below w1.heap.size w1 w') rfl mixed (by kernel_rfl) (fun d => ⟨rfl,rfl,rfl,Nat.le_refl _,fun _ _ => rfl⟩) ?_;simp only [List.size_toArray,List.length_cons,List.length_nil,Nat.reduceAdd,Nat.zero_add,List.range,List.range.loop]
   iterate 3
    refine det_pure rfl rfl (by decide) ?_;apply Exists.intro;refine ⟨fun T w' hw' K Q hK => ?_,?_⟩
    ·gi_wp2;exact hw'
    apply Exists.intro;refine ⟨rfl,?_⟩
   iterate 2
    refine det_pre rfl rfl (by kernel_rfl) (.inr rfl) ?_;apply Exists.intro;refine ⟨fun w' hw' K Q hK => ?_,?_⟩
    ·have G:=H1.same hw';have q:=hq.below hw';have q2:=q.cell 2;have q4:=q.cell 4;have f4:=G.c4;have f5:=G.sState hcc;simp at q2 q4;have f0:=G.c0;have f1:=G.c1;have f2:=G.c2;have f3:=G.c3;gi_wp2;exact hw'
    apply Exists.intro;refine ⟨rfl,?_⟩;refine det_pure rfl rfl (by decide) ?_;apply Exists.intro;refine ⟨fun T w' hw' K Q hK => ?_,?_⟩
    ·gi_wp2;exact hw'
    apply Exists.intro;refine ⟨rfl,?_⟩
   iterate 2
    refine det_pure rfl rfl (by decide) ?_;apply Exists.intro;refine ⟨fun T w' hw' K Q hK => ?_,?_⟩
    ·gi_wp2;exact hw'
    apply Exists.intro;refine ⟨rfl,?_⟩;refine det_pre rfl rfl (by kernel_rfl) (.inr rfl) ?_;apply Exists.intro;refine ⟨fun w' hw' K Q hK => ?_,?_⟩
    ·have G:=H1.same hw';have q:=hq.below hw';have q2:=q.cell 2;have q4:=q.cell 4;have f4:=G.c4;have f5:=G.sState hcc;simp at q2 q4;have f0:=G.c0;have f1:=G.c1;have f2:=G.c2;have f3:=G.c3;gi_wp2;exact hw'
    iterate 2
     apply Exists.intro;refine ⟨rfl,?_⟩;refine det_pure rfl rfl (by decide) ?_;apply Exists.intro;refine ⟨fun T w' hw' K Q hK => ?_,?_⟩
     ·gi_wp2;exact hw'
    apply Exists.intro;refine ⟨rfl,?_⟩
   iterate 2
    refine det_pure rfl rfl (by decide) ?_;apply Exists.intro;refine ⟨fun T w' hw' K Q hK => ?_,?_⟩
    ·gi_wp2;exact hw'
    apply Exists.intro;refine ⟨rfl,?_⟩;refine det_pre rfl rfl (by kernel_rfl) (.inr rfl) ?_;apply Exists.intro;refine ⟨fun w' hw' K Q hK => ?_,?_⟩
    ·have G:=H1.same hw';have q:=hq.below hw';have q2:=q.cell 2;have q4:=q.cell 4;have f4:=G.c4;have f5:=G.sState hcc;simp at q2 q4;have f0:=G.c0;have f1:=G.c1;have f2:=G.c2;have f3:=G.c3;gi_wp2;exact hw'
    apply Exists.intro;refine ⟨rfl,?_⟩
   refine det_pre rfl rfl (by kernel_rfl) (.inr rfl) ?_;apply Exists.intro;refine ⟨fun w' hw' K Q hK => ?_,?_⟩
   ·have G:=H1.same hw';have q:=hq.below hw';have q2:=q.cell 2;have q4:=q.cell 4;have f4:=G.c4;have f5:=G.sState hcc;simp at q2 q4;have f0:=G.c0;have f1:=G.c1;have f2:=G.c2;have f3:=G.c3
    gi_wp2_with (gi_at_call 88;refine (coin_in G.bk hv hcc).mono ?_;rintro e w'' ⟨rfl,hb'⟩)
    exact hw'.trans (hb'.mono hw'.size)
   iterate 2
    apply Exists.intro;refine ⟨rfl,?_⟩;refine det_pure rfl rfl (by decide) ?_;apply Exists.intro;refine ⟨fun T w' hw' K Q hK => ?_,?_⟩
    ·gi_wp2;exact hw'
   apply Exists.intro;refine ⟨rfl,?_⟩;intro w2 hw2;have H1':=H1.same hw2;have hq':=hq.below hw2;have HB1':=HB1.trans (hw2.mono H1.bk.hN);gi_wp2;refine wpIn_region_writes (fun w' => Below w2.heap.size w2 w') (fun w' => ∃ wx,Below w2.heap.size w2 wx ∧ w' = wx.setCell ⟨t.T,11 + b.coin cc,none⟩ (.int .i64 (wrap64 (s.pd (b.coin cc) + am)))) 13 rfl mixed (by kernel_rfl) (fun d => ⟨rfl,rfl,rfl,Nat.le_refl _,fun _ _ => rfl⟩) ?_;simp only [List.size_toArray,List.length_cons,List.length_nil,Nat.reduceAdd,Nat.zero_add,List.range,List.range.loop]
   iterate 2
    iterate 2
     refine det_pure rfl rfl (by decide) ?_;apply Exists.intro;refine ⟨fun T w' hw' K Q hK => ?_,?_⟩
     ·gi_wp2;exact hw'
     apply Exists.intro;refine ⟨rfl,?_⟩
    refine det_pre rfl rfl (by kernel_rfl) (.inl (by simp)) ?_;apply Exists.intro;refine ⟨fun w' hw' K Q hK => ?_,?_⟩
    ·have G:=H1'.same hw';have q:=hq'.below hw';have q2:=q.cell 2;have q3:=q.cell 3;have f0:=G.cPd hq3;have f1:=G.frozenT (11 + b.coin cc);simp at q2 q3;gi_wp2;exact hw'
    apply Exists.intro;refine ⟨rfl,?_⟩;refine det_pure rfl rfl (by decide) ?_;apply Exists.intro;refine ⟨fun T w' hw' K Q hK => ?_,?_⟩
    ·gi_wp2;exact hw'
    apply Exists.intro;refine ⟨rfl,?_⟩
   refine det_pre rfl rfl (by kernel_rfl) (.inl (by simp)) ?_;apply Exists.intro;refine ⟨fun w' hw' K Q hK => ?_,?_⟩
   ·have G:=H1'.same hw';have q:=hq'.below hw';have q2:=q.cell 2;have q3:=q.cell 3;have f0:=G.cPd hq3;have f1:=G.frozenT (11 + b.coin cc);simp at q2 q3;gi_wp2;exact hw'
   iterate 4
    apply Exists.intro;refine ⟨rfl,?_⟩;refine det_pure rfl rfl (by decide) ?_;apply Exists.intro;refine ⟨fun T w' hw' K Q hK => ?_,?_⟩
    ·gi_wp2;exact hw'
   apply Exists.intro;refine ⟨rfl,?_⟩;refine det_write rfl rfl rfl ?_;apply Exists.intro;refine ⟨fun w' hw' K Q hK => ?_,?_⟩
   ·have G:=H1'.same hw';have q:=hq'.below hw';have q2:=q.cell 2;have q3:=q.cell 3;have f0:=G.cPd hq3;have f1:=G.frozenT (11 + b.coin cc);simp at q2 q3;gi_wp2;exact ⟨w',hw',rfl⟩
   refine ⟨undef,rfl,?_⟩;rintro _ ⟨w3,hw3,rfl⟩;have H2:=(H1'.same hw3).setPd hq3 (wrap64 (s.pd (b.coin cc) + am));have HB2:=(HB1'.trans (hw3.mono H1'.bk.hN)).setCell (p:=⟨t.T,11 + b.coin cc,none⟩) H1'.NT (.int .i64 (wrap64 (s.pd (b.coin cc) + am)));have hq2:=(hq'.below hw3).set (j:=11 + b.coin cc) hne (.int .i64 (wrap64 (s.pd (b.coin cc) + am)))
   change TillAt N l b t (s.addPd (b.coin cc) am) _ at H2
   generalize w3.setCell _ _ = w4 at H2 HB2 hq2 ⊢;obtain ⟨s2,hs2⟩:∃ s2,s2 = s.addPd (b.coin cc) am:=⟨_,rfl⟩
   rw [← hs2] at H2;have HS:=Lib.hid hs2;clear hs2;gi_wp2;refine wpIn_region_writes (fun w' => Below w4.heap.size w4 w') (fun w' => ∃ wx,Below w4.heap.size w4 wx ∧ w' = wx.setCell ⟨t.Sb,cc * 4 + 1,none⟩ (.int .i64 (wrap64 ((s2.cases cc).held + am)))) 14 rfl mixed (by kernel_rfl) (fun d => ⟨rfl,rfl,rfl,Nat.le_refl _,fun _ _ => rfl⟩) ?_;simp only [List.size_toArray,List.length_cons,List.length_nil,Nat.reduceAdd,Nat.zero_add,List.range,List.range.loop]
   iterate 3
    refine det_pure rfl rfl (by decide) ?_;apply Exists.intro;refine ⟨fun T w' hw' K Q hK => ?_,?_⟩
    ·gi_wp2;exact hw'
    apply Exists.intro;refine ⟨rfl,?_⟩
   iterate 2
    refine det_pre rfl rfl (by kernel_rfl) (.inl (by simp)) ?_;apply Exists.intro;refine ⟨fun w' hw' K Q hK => ?_,?_⟩
    ·have G:=H2.same hw';have q:=hq2.below hw';have q3:=q.cell 3;have q4:=q.cell 4;have f4:=G.c4;have f0:=G.sHeld hcc;have f1:=G.frozenS (cc * 4 + 1);simp at q3 q4;gi_wp2;exact hw'
    apply Exists.intro;refine ⟨rfl,?_⟩;refine det_pure rfl rfl (by decide) ?_;apply Exists.intro;refine ⟨fun T w' hw' K Q hK => ?_,?_⟩
    ·gi_wp2;exact hw'
    apply Exists.intro;refine ⟨rfl,?_⟩
   iterate 2
    refine det_pure rfl rfl (by decide) ?_;apply Exists.intro;refine ⟨fun T w' hw' K Q hK => ?_,?_⟩
    ·gi_wp2;exact hw'
    apply Exists.intro;refine ⟨rfl,?_⟩;refine det_pre rfl rfl (by kernel_rfl) (.inl (by simp)) ?_;apply Exists.intro;refine ⟨fun w' hw' K Q hK => ?_,?_⟩
    ·have G:=H2.same hw';have q:=hq2.below hw';have q3:=q.cell 3;have q4:=q.cell 4;have f4:=G.c4;have f0:=G.sHeld hcc;have f1:=G.frozenS (cc * 4 + 1);simp at q3 q4;gi_wp2;exact hw'
    apply Exists.intro;refine ⟨rfl,?_⟩
   iterate 3
    refine det_pure rfl rfl (by decide) ?_;apply Exists.intro;refine ⟨fun T w' hw' K Q hK => ?_,?_⟩
    ·gi_wp2;exact hw'
    apply Exists.intro;refine ⟨rfl,?_⟩
   refine det_write rfl rfl rfl ?_;apply Exists.intro;refine ⟨fun w' hw' K Q hK => ?_,?_⟩
   ·have G:=H2.same hw';have q:=hq2.below hw';have q3:=q.cell 3;have q4:=q.cell 4;have f4:=G.c4;have f0:=G.sHeld hcc;have f1:=G.frozenS (cc * 4 + 1);simp at q3 q4;gi_wp2;exact ⟨w',hw',rfl⟩
   refine ⟨undef,rfl,?_⟩;rintro _ ⟨w5,hw5,rfl⟩;have H3:=(H2.same hw5).setHeld hcc (wrap64 ((s2.cases cc).held + am));have HB3:=(HB2.trans (hw5.mono H2.bk.hN)).setCell (p:=⟨t.Sb,cc * 4 + 1,none⟩) H2.NS (.int .i64 (wrap64 ((s2.cases cc).held + am)));gi_wp2;go_end0;have e:=HS.out;subst e;exact ⟨rfl,by rw [HJ.out];exact H3,HB3⟩
  ·have HJ:=Lib.hid (HI.out.trans (if_neg (by simp [hkc])));clear HI;refine wpIn_region_reads (fun w' => Below w1.heap.size w1 w') rfl mixed (by kernel_rfl) (fun d => ⟨rfl,rfl,rfl,Nat.le_refl _,fun _ _ => rfl⟩) ?_;simp only [List.size_toArray,List.length_cons,List.length_nil,Nat.reduceAdd,Nat.zero_add,List.range,List.range.loop]
   iterate 3
    refine det_pure rfl rfl (by decide) ?_;apply Exists.intro;refine ⟨fun T w' hw' K Q hK => ?_,?_⟩
    ·gi_wp2;exact hw'
    apply Exists.intro;refine ⟨rfl,?_⟩
   iterate 2
    refine det_pre rfl rfl (by kernel_rfl) (.inr rfl) ?_;apply Exists.intro;refine ⟨fun w' hw' K Q hK => ?_,?_⟩
    ·have G:=H1.same hw';have q:=hq.below hw';have q2:=q.cell 2;have q4:=q.cell 4;have f4:=G.c4;have f5:=G.sState hcc;simp at q2 q4;have f0:=G.c0;have f1:=G.c1;have f2:=G.c2;have f3:=G.c3;gi_wp2;exact hw'
    apply Exists.intro;refine ⟨rfl,?_⟩;refine det_pure rfl rfl (by decide) ?_;apply Exists.intro;refine ⟨fun T w' hw' K Q hK => ?_,?_⟩
    ·gi_wp2;exact hw'
    apply Exists.intro;refine ⟨rfl,?_⟩
   iterate 2
    refine det_pure rfl rfl (by decide) ?_;apply Exists.intro;refine ⟨fun T w' hw' K Q hK => ?_,?_⟩
    ·gi_wp2;exact hw'
    apply Exists.intro;refine ⟨rfl,?_⟩;refine det_pre rfl rfl (by kernel_rfl) (.inr rfl) ?_;apply Exists.intro;refine ⟨fun w' hw' K Q hK => ?_,?_⟩
    ·have G:=H1.same hw';have q:=hq.below hw';have q2:=q.cell 2;have q4:=q.cell 4;have f4:=G.c4;have f5:=G.sState hcc;simp at q2 q4;have f0:=G.c0;have f1:=G.c1;have f2:=G.c2;have f3:=G.c3;gi_wp2;exact hw'
    iterate 2
     apply Exists.intro;refine ⟨rfl,?_⟩;refine det_pure rfl rfl (by decide) ?_;apply Exists.intro;refine ⟨fun T w' hw' K Q hK => ?_,?_⟩
     ·gi_wp2;exact hw'
    apply Exists.intro;refine ⟨rfl,?_⟩
   iterate 2
    refine det_pure rfl rfl (by decide) ?_;apply Exists.intro;refine ⟨fun T w' hw' K Q hK => ?_,?_⟩
    ·gi_wp2;exact hw'
    apply Exists.intro;refine ⟨rfl,?_⟩;refine det_pre rfl rfl (by kernel_rfl) (.inr rfl) ?_;apply Exists.intro;refine ⟨fun w' hw' K Q hK => ?_,?_⟩
    ·have G:=H1.same hw';have q:=hq.below hw';have q2:=q.cell 2;have q4:=q.cell 4;have f4:=G.c4;have f5:=G.sState hcc;simp at q2 q4;have f0:=G.c0;have f1:=G.c1;have f2:=G.c2;have f3:=G.c3;gi_wp2;exact hw'
    apply Exists.intro;refine ⟨rfl,?_⟩
   refine det_pre rfl rfl (by kernel_rfl) (.inr rfl) ?_;apply Exists.intro;refine ⟨fun w' hw' K Q hK => ?_,?_⟩
   ·have G:=H1.same hw';have q:=hq.below hw';have q2:=q.cell 2;have q4:=q.cell 4;have f4:=G.c4;have f5:=G.sState hcc;simp at q2 q4;have f0:=G.c0;have f1:=G.c1;have f2:=G.c2;have f3:=G.c3
    gi_wp2_with (gi_at_call 88;refine (coin_in G.bk hv hcc).mono ?_;rintro e w'' ⟨rfl,hb'⟩)
    exact hw'.trans (hb'.mono hw'.size)
   iterate 2
    apply Exists.intro;refine ⟨rfl,?_⟩;refine det_pure rfl rfl (by decide) ?_;apply Exists.intro;refine ⟨fun T w' hw' K Q hK => ?_,?_⟩
    ·gi_wp2;exact hw'
   apply Exists.intro;refine ⟨rfl,?_⟩;intro w2 hw2
   gi_wp2_with (gi_at_call 203;refine (hF (H1.same hw2)).mono ?_;rintro e w3 ⟨rfl,H3,hb3⟩)
   (try simp only [Exit.inBlock,Exit.then]);refine bodyPost_ret (results_none rfl _ _ _) rfl ?_
   exact ⟨rfl,by rw [HJ.out];exact H3,(HB1.trans (hw2.mono H1.bk.hN)).trans hb3⟩
 ·have HJ:=Lib.hid (HI.out.trans (if_neg (by simp [hs])));clear HI;have hsb1:decide ((s.cases cc).state = 0) = false:=by simp [hs]
  have hsb2:((s.cases cc).state == 0) = false:=by simp [hs]
  have hsb3:((s.cases cc).state != 0) = true:=by simp [hs]
  refine wpIn_region_reads (fun w' => Below w1.heap.size w1 w') rfl mixed (by kernel_rfl) (fun d => ⟨rfl,rfl,rfl,Nat.le_refl _,fun _ _ => rfl⟩) ?_;simp only [List.size_toArray,List.length_cons,List.length_nil,Nat.reduceAdd,Nat.zero_add,List.range,List.range.loop]
  iterate 3
   refine det_pure rfl rfl (by decide) ?_;apply Exists.intro;refine ⟨fun T w' hw' K Q hK => ?_,?_⟩
   ·gi_wp2;exact hw'
   apply Exists.intro;refine ⟨rfl,?_⟩
  iterate 2
   refine det_pre rfl rfl (by kernel_rfl) (.inr rfl) ?_;apply Exists.intro;refine ⟨fun w' hw' K Q hK => ?_,?_⟩
   ·have G:=H1.same hw';have q:=hq.below hw';have q2:=q.cell 2;have q4:=q.cell 4;have f4:=G.c4;have f5:=G.sState hcc;simp at q2 q4;have f0:=G.c0;have f1:=G.c1;have f2:=G.c2;have f3:=G.c3;gi_wp2;exact hw'
   apply Exists.intro;refine ⟨rfl,?_⟩;refine det_pure rfl rfl (by decide) ?_;apply Exists.intro;refine ⟨fun T w' hw' K Q hK => ?_,?_⟩
   ·gi_wp2;exact hw'
   apply Exists.intro;refine ⟨rfl,?_⟩
  refine det_pure rfl rfl (by decide) ?_;apply Exists.intro;refine ⟨fun T w' hw' K Q hK => ?_,?_⟩
  ·gi_wp2;exact hw'
  apply Exists.intro;refine ⟨rfl,?_⟩;refine det_pre rfl rfl (by kernel_rfl) (.inr rfl) ?_;apply Exists.intro;refine ⟨fun w' hw' K Q hK => ?_,?_⟩
  ·have G:=H1.same hw';have q:=hq.below hw';have q2:=q.cell 2;have q4:=q.cell 4;have f4:=G.c4;have f5:=G.sState hcc;simp at q2 q4;have f0:=G.c0;have f1:=G.c1;have f2:=G.c2;have f3:=G.c3;gi_wp2;exact hw'
  iterate 2
   apply Exists.intro;refine ⟨rfl,?_⟩;refine det_pure rfl rfl (by decide) ?_;apply Exists.intro;refine ⟨fun T w' hw' K Q hK => ?_,?_⟩
   ·gi_wp2;exact hw'
  apply Exists.intro;refine ⟨rfl,?_⟩
  iterate 8
   refine det_skip_undef rfl rfl (by decide) (fun w f hf => by simp [Oper.about] at hf) rfl ?_
  refine det_skip_undef rfl rfl (by decide) (fun w f hf => by
   simp [Oper.about,resolve,Deferred.ofValue,Target.leads,Act.eval,go_sem] at hf;subst hf;rfl) rfl ?_
  refine det_skip_undef rfl rfl (by decide) (fun w f hf => by simp [Oper.about] at hf) rfl ?_;refine det_pure rfl rfl (by decide) ?_;apply Exists.intro;refine ⟨fun T w' hw' K Q hK => ?_,?_⟩
  ·gi_wp2;exact hw'
  apply Exists.intro;refine ⟨rfl,?_⟩;intro w2 hw2
  gi_wp2_with (gi_at_call 203;refine (hF (H1.same hw2)).mono ?_;rintro e w3 ⟨rfl,H3,hb3⟩)
  (try simp only [Exit.inBlock,Exit.then]);refine bodyPost_ret (results_none rfl _ _ _) rfl ?_
  exact ⟨rfl,by rw [HJ.out];exact H3,(HB1.trans (hw2.mono H1.bk.hN)).trans hb3⟩
end Go.Proofs.YtnkejaohnhpbpaaGreatDoor
end
section
namespace Go.Proofs.YtnkejaohnhpbpaaGreatDoor
open Go Go.RowKit
def St.init:St:={ cases:=fun _ => ⟨0,0,0,0⟩,acc:=fun _ => 0,tkn:=fun _ => 0,pd:=fun _ => 0,voids:=[] }
def St.subAcc (s:St) (k:Nat) (x:Int):St:={ s with acc:=upd s.acc k (wrap64 (s.acc k - x)) }
def St.mvOk (b:Book) (i:Nat) (s:St):Prop:=
 ¬ (s.acc 0 = 0 ∧ s.acc 1 = 0 ∧ s.acc 2 = 0) ∧ (s.cases (b.payAt i).cas).state = 0 ∧ 0 ≤ wrap64 (s.acc (b.payAt i).coin - (b.payAt i).amount)
instance (b:Book) (i:Nat) (s:St):Decidable (St.mvOk b i s):=by unfold St.mvOk;exact inferInstance
def St.mv (b:Book) (i:Nat) (s:St):St:=
 if St.mvOk b i s then ((s.subAcc (b.payAt i).coin (b.payAt i).amount).addHeld (b.payAt i).cas (b.payAt i).amount).keep b (b.payAt i).day
 else { s with voids:=s.voids ++ [(i:Int)] }
def St.ins1 (b:Book) (d:Int) (i:Nat) (s:St):St:=
 if (b.payAt i).day = d ∧ (b.payAt i).kind ≠ 2 then (if (b.payAt i).kind = 1 then s.fund b i else s.inn b i) else s
def St.ins (b:Book) (d:Int) (s:St):St:=iter (St.ins1 b d) b.ps.length s
def St.mvs1 (b:Book) (d:Int) (i:Nat) (s:St):St:=if (b.payAt i).day = d ∧ (b.payAt i).kind = 2 then s.mv b i else s
def St.mvs (b:Book) (d:Int) (s:St):St:=iter (St.mvs1 b d) b.ps.length s
def St.day1 (b:Book) (s:St) (d:Int):St:=(((s.lapse b d).ins b d).keep b d).mvs b d
def insU (x:Int):List Int → List Int
 | [] => [x]
 | y :: l => if x < y then x :: y :: l else if x = y then y :: l else y :: insU x l
def Book.dayList (b:Book):List Int:=0 :: (b.ps.map (·.day) ++ b.cs.map fun c => c.due + c.grace + 1)
def Book.evdays (b:Book):List Int:=b.dayList.foldr insU []
def Book.after (b:Book) (n:Int):St:=(b.evdays.filter (fun d => decide (d ≤ n))).foldl (St.day1 b) St.init
theorem mem_insU {x y:Int}:∀ {l:List Int},y ∈ insU x l ↔ y = x ∨ y ∈ l
 | [] => by simp [insU]
 | z :: l => by
  unfold insU;split
  ·simp
  ·split
   ·rename_i h;subst h;simp
   ·simp only [List.mem_cons,mem_insU (l:=l)];constructor
    ·rintro (h | h | h)
     ·exact .inr (.inl h)
     ·exact .inl h
     ·exact .inr (.inr h)
    ·rintro (h | h | h)
     ·exact .inr (.inl h)
     ·exact .inl h
     ·exact .inr (.inr h)
theorem insU_sorted {x:Int}:∀ {l:List Int},l.Pairwise (· < ·) → (insU x l).Pairwise (· < ·)
 | [],_ => by simp [insU]
 | z :: l,h => by
  rw [List.pairwise_cons] at h;unfold insU;split
  ·rename_i hx;refine List.pairwise_cons.2 ⟨fun a ha => ?_,List.pairwise_cons.2 h⟩;rcases List.mem_cons.1 ha with rfl | ha
   ·exact hx
   ·have:=h.1 a ha;omega
  ·split
   ·exact List.pairwise_cons.2 h
   ·refine List.pairwise_cons.2 ⟨fun a ha => ?_,insU_sorted h.2⟩;rcases mem_insU.1 ha with rfl | ha
    ·omega
    ·exact h.1 a ha
theorem foldr_insU:∀ (l:List Int),(l.foldr insU []).Pairwise (· < ·) ∧ ∀ y,y ∈ l.foldr insU [] ↔ y ∈ l
 | [] => by simp
 | x :: l => by
  obtain ⟨h1,h2⟩:=foldr_insU l;exact ⟨insU_sorted h1,fun y => by rw [List.foldr_cons,mem_insU,h2,List.mem_cons]⟩
theorem Book.evdays_sorted (b:Book):b.evdays.Pairwise (· < ·):=(foldr_insU _).1
theorem Book.mem_evdays (b:Book) {y:Int}:y ∈ b.evdays ↔ y ∈ b.dayList:=(foldr_insU _).2 y
theorem sorted_ext:∀ {l l':List Int},l.Pairwise (· < ·) → l'.Pairwise (· < ·) → (∀ y,y ∈ l ↔ y ∈ l') → l = l'
 | [],[],_,_,_ => rfl
 | [],y :: l',_,_,h => by have:=(h y).2 (by simp);simp at this
 | x :: l,[],_,_,h => by have:=(h x).1 (by simp);simp at this
 | x :: l,y :: l',h1,h2,h => by
  rw [List.pairwise_cons] at h1 h2;have hxy:x = y:=by
   have a:=(h x).1 (by simp);have c:=(h y).2 (by simp);rcases List.mem_cons.1 a with a | a
   ·exact a
   ·rcases List.mem_cons.1 c with c | c
    ·exact c.symm
    ·have:=h2.1 x a;have:=h1.1 y c;omega
  subst hxy;rw [sorted_ext h1.2 h2.2 fun z => ?_];constructor
  ·intro hz;rcases List.mem_cons.1 ((h z).1 (by simp [hz])) with rfl | hz'
   ·have:=h1.1 z hz;omega
   ·exact hz'
  ·intro hz;rcases List.mem_cons.1 ((h z).2 (by simp [hz])) with rfl | hz'
   ·have:=h2.1 z hz;omega
   ·exact hz'
theorem filter_succ (n:Int):∀ {l:List Int},l.Pairwise (· < ·) → l.filter (fun d => decide (d ≤ n + 1)) = l.filter (fun d => decide (d ≤ n)) ++ (if n + 1 ∈ l then [n + 1] else [])
 | [],_ => by simp
 | x :: l,h => by
  rw [List.pairwise_cons] at h;have ih:=filter_succ n h.2;by_cases h1:x ≤ n
  ·have:x ≤ n + 1:=by omega
   have hne:n + 1 ≠ x:=by omega
   simp only [List.filter_cons,h1,this,decide_true,if_true,ih,List.mem_cons,hne,false_or,List.cons_append]
  ·have hnil:l.filter (fun d => decide (d ≤ n + 1)) = []:=List.filter_eq_nil_iff.2 fun a ha => by have:=h.1 a ha;simp;omega
   have hnil2:l.filter (fun d => decide (d ≤ n)) = []:=List.filter_eq_nil_iff.2 fun a ha => by have:=h.1 a ha;simp;omega
   by_cases h2:x = n + 1
   ·subst h2;simp [List.filter_cons,h1,hnil,hnil2]
   ·have h3:¬ x ≤ n + 1:=by omega
    have h4:¬ (n + 1 = x ∨ n + 1 ∈ l):=by
     rintro (h | h')
     ·exact h2 h.symm
     ·have:=h.1 _ h';omega
    simp [List.filter_cons,h1,h3,hnil,hnil2,h4]
theorem Book.after_succ (b:Book) (n:Int):b.after (n + 1) = if n + 1 ∈ b.evdays then St.day1 b (b.after n) (n + 1) else b.after n:=by
 unfold Book.after;rw [filter_succ n b.evdays_sorted,List.foldl_append];split <;> rfl
theorem Valid.ev_nonneg {b:Book} (hv:Valid b) {d:Int} (h:d ∈ b.evdays):0 ≤ d:=by
 rw [b.mem_evdays] at h;unfold Book.dayList at h;rcases List.mem_cons.1 h with h | h
 ·omega
 rcases List.mem_append.1 h with h | h
 ·obtain ⟨p,hp,rfl⟩:=List.mem_map.1 h;exact (hv.p p hp).2.1
 ·obtain ⟨c,hc,rfl⟩:=List.mem_map.1 h;have:=hv.k c hc;omega
theorem Valid.after_zero {b:Book} (hv:Valid b):b.after (-1) = St.init:=by
 unfold Book.after;rw [List.filter_eq_nil_iff.2 fun a ha => by have:=hv.ev_nonneg ha;simp;omega];rfl
theorem Book.zero_ev (b:Book):(0:Int) ∈ b.evdays:=b.mem_evdays.2 (by simp [Book.dayList])
end Go.Proofs.YtnkejaohnhpbpaaGreatDoor
end
