/- FeeBalances, beside leavers. PRINTED BY A PROGRAM. -/
import Derived.Test.YtnkejaohnhpbpaaGreatDoorA32
import Derived.Test.YtnkejaohnhpbpaaGreatDoorA36
import Derived.Test.YtnkejaohnhpbpaaGreatDoorA69
import Derived.Test.YtnkejaohnhpbpaaGreatDoorA80
set_option linter.all false
namespace Go.Proofs.YtnkejaohnhpbpaaGreatDoor
open Go Go.Conc Go.RowKit Lift
set_option maxHeartbeats 16000000 in
set_option maxRecDepth 1000000 in
theorem law4[Keep]{w:World}{l:Lay}{b:aN}(hbk:bV w.heap.size l b w)(hcap:b.coins.length≤l.cc)(hkd:bT w)(hlim:Keep.lim≤w.heap.size){c day:Int} :
  Raw Tryz.prog (qU Tryz.prog 4 Tryz.f4 λv w1 S1=>v=.bool true∧fD w.heap.size w (λ_=>False) w1 S1) (G (Frame.enter Tryz.prog 4 #[.agg (l.bY b),.int .i64 c,.int .i64 day] .normal) []) w (λ_=>False):=by
 refine I9 fit (by simp) Tryz.func4 rfl ?_;generalize (λ_=>False:Blks)=S;simp only[Tryz.ntmps4,aF,aC,aH,Nat.reduceAdd,Nat.reduceSub,Array.replicate_succ,Array.replicate_zero,List.push_toArray,List.append_toArray,List.nil_append,List.cons_append];refine gu λwa hs=>?_;gi_wp2;have E:kZ w S w.heap.size l b wa.heap.size (wa.alloc (.cells (l.bY b) 27)) S:=by
  have hsz:wa.heap.size=w.heap.size:=by rw[hs.heap]
  have hg:Grow w.heap.size w (wa.alloc (.cells (l.bY b) 27)):=hs.grow ((Below.refl w.heap.size wa).alloc (by omega) _);exact⟨hg.s,hbk.grow hg,Blk.new _ _ _,by omega,hkd.grow hg hkd.lt⟩
 clear hs hbk hkd;generalize wa.alloc _=W at *;generalize wa.heap.size=B at *;refine jd fit ?_;refine Gu E λwb E=>?_;have g0:=E.bx.cell 0;have g1:=E.bx.cell 1;have g2:=E.bx.cell 2;have g3:=E.bx.cell 3;simp at g0 g1 g2 g3;have ltB:=E.bx.lt;have hcall:=JQ E.bk
 gi_wp2_with (gi_at_call 16;with_reducible refine hcall.mono ?_;rintro e w2 ⟨⟨r,rfl,hr⟩,hb2⟩;replace E:=E.below hb2;clear hb2)
 clear g0 g1 g2 g3 ltB;clear hcall;cases r with
 |true=>
  refine Ah fit (t:=true) rfl ?_;simp only[if_true];refine jd fit (mJ fit ?_);simp only[aF,aC,aH,Nat.reduceAdd,List.range,List.range.loop];refine lU rfl rfl rfl Tryz.func17 (by kernel_rfl) MV (vals:=#[]) (by simp) (Oz E.kd (Nat.le_trans hlim E.g.size)) ?_;rintro u w5 S5 ⟨rfl,hg5⟩;replace E:=E.grow hg5;clear hg5;refine bF rfl rfl λwr hs=>?_;replace E:=E.same hs;clear hs;gi_wp2;refine lV fit ?_;refine Ej fit ?_;exact⟨rfl,.bool true,λτ d=>by rw[results_tmp rfl];rfl,rfl,E.g⟩
 |false=>
  refine Ah fit (t:=false) rfl ?_;simp only[Bool.false_eq_true,if_false];refine Gx fit ?_;have hs:b.Small:=hr rfl;clear hr;have k26:=λ{w':World} {S:Blks} (h:bV w.heap.size l b w') (hk:bT w') (hl:Keep.lim≤w'.heap.size)=>Gy (S:=S) h hs hk hl c day;have k27:=λ{w':World} (h:bV w.heap.size l b w')=>BalR_in h hcap hs c day;have k28:=λ{w':World} (h:bV w.heap.size l b w') (hk:bT w')=>JW h hs hk;have k29:=λ{w':World} (h:bV w.heap.size l b w')=>JV h hcap hs;have hvl:b.vR.length<1000000:=by
   by_cases hf:b.eX=0
   ·rw[OV hf];exact Nat.lt_of_le_of_lt (pI _ _) (by have:=hs.2.2.2;omega)
   ·rw[OU hf];exact Nat.succ_pos _
  generalize b.bA c day=ba at k26 k27;obtain⟨x1,x2,x3,x4,x5⟩:=ba;dsimp only at k26 k27;generalize b.vR=V at k28 k29 hvl;generalize b.eX=fl at k28 k29;refine jd fit ?_;refine mJ fit ?_;simp only[aF,aC,aH,Nat.reduceAdd,List.range,List.range.loop];refine bF rfl rfl λwr hs=>?_;replace E:=E.same hs;clear hs;have g0:=E.bx.cell 0;have g1:=E.bx.cell 1;have g2:=E.bx.cell 2;have g3:=E.bx.cell 3;simp at g0 g1 g2 g3;have ltB:=E.bx.lt;gi_wp2;clear g0 g1 g2 g3 ltB
  iterate 2
   refine bF rfl rfl λwr hs=>?_;replace E:=E.same hs;clear hs;gi_wp2
  refine lU rfl rfl rfl Tryz.func26 (by kernel_rfl) GY (vals:=#[.agg (l.bY b),.int .i64 c,.int .i64 day]) (by simp[Act.eval]) (k26 E.bk E.kd (Nat.le_trans hlim E.g.size)) ?_;rintro u w5 S5 ⟨rfl,hg5⟩;replace E:=E.grow hg5;clear hg5;have G:=Grow.refl w5.heap.size w5;refine bF rfl rfl λwr1 hs=>?_;replace G:=hs.pre G;clear hs;gi_wp2;refine bF rfl rfl λwr2 hs=>?_;replace G:=hs.pre G;clear hs;gi_wp2;refine bF rfl rfl λwr3 hs=>?_;replace G:=hs.pre G;clear hs;gi_wp2;refine bF rfl rfl λwc hs=>?_;replace G:=hs.pre G;clear hs;gi_wp2;have hz:Blk (wc.alloc (.cells fJ 41)) wc.heap.size 41 fJ:=Blk.new wc fJ 41;have lo:=G.size;replace G:=G.trans ((Grow.of ((Below.refl _ wc).alloc (ay _) (.cells fJ 41))).mono G.size);refine bF rfl rfl λwd hs=>?_;replace hz:=hs.blk hz;replace G:=hs.pre G;clear hs;generalize wc.heap.size=nB at *;have z0:=hz.cell 0;have z1:=hz.cell 1;have z2:=hz.cell 2;have z3:=hz.cell 3;have y0:=hz.frozen 0;have y1:=hz.frozen 1;have y2:=hz.frozen 2;have y3:=hz.frozen 3;simp[fJ]at z0 z1 z2 z3;gi_wp2;have hX:=(((hz.put 0 (.int .i64 x1)).put 1 (.int .i64 x2)).put 2 (.int .i64 x3)).put 3 (.int .i64 x4);simp only[fJ,aj,au,ak]at hX;replace G:=G.trans (Grow.of (((((Below.refl _ wd).setCell (p:=⟨nB,0,none⟩) lo (.int .i64 x1)).setCell (p:=⟨nB,1,none⟩) lo (.int .i64 x2)).setCell (p:=⟨nB,2,none⟩) lo (.int .i64 x3)).setCell (p:=⟨nB,3,none⟩) lo (.int .i64 x4)));clear z0 z1 z2 z3 y0 y1 y2 y3 hz;refine bF rfl rfl λwe hs=>?_;replace hX:=hs.blk hX;replace G:=hs.pre G;clear hs;gi_wp2;refine lV fit ?_;replace E:=E.grow G.s;clear G lo;refine gu λwr hs=>?_;replace E:=E.same hs;replace hX:=hs.blk hX;clear hs;have g0:=E.bx.cell 0;have g1:=E.bx.cell 1;have g2:=E.bx.cell 2;have g3:=E.bx.cell 3;simp at g0 g1 g2 g3;have ltB:=E.bx.lt;have hcall:=k27 E.bk
  gi_wp2_with (gi_at_call 27;with_reducible refine hcall.mono ?_;rintro e w4 ⟨rfl,hb4⟩)
  have hY:=Blk.new w4 #[.int .i64 x1,.int .i64 x2,.int .i64 x3,.int .i64 x4] 41;have hbY:=(Below.refl w4.heap.size w4).alloc (ay _) (.cells #[.int .i64 x1,.int .i64 x2,.int .i64 x3,.int .i64 x4] 41);replace hX:=(hX.below hb4).below hbY;replace E:=(E.below hb4).below hbY;clear hb4 hbY hcall g0 g1 g2 g3 ltB;generalize w4.alloc _=wy at *;generalize w4.heap.size=nYy at *;refine jd fit ?_;refine gu λwr hs=>?_;replace E:=E.same hs;replace hX:=hs.blk hX;replace hY:=hs.blk hY;clear hs;have p0:=hX.cell 0;have p1:=hX.cell 1;have p2:=hX.cell 2;have p3:=hX.cell 3;simp at p0 p1 p2 p3;have ltX:=hX.lt;have q0:=hY.cell 0;have q1:=hY.cell 1;have q2:=hY.cell 2;have q3:=hY.cell 3;simp at q0 q1 q2 q3;have ltY:=hY.lt;have he:=neq41;gi_wp2;clear p0 p1 p2 p3 ltX q0 q1 q2 q3 ltY he hX hY;refine Ah fit (t:=false) rfl ?_;simp only[Bool.false_eq_true,if_false];refine Gx fit ?_;refine Gu E λwr E=>?_;have g0:=E.bx.cell 0;have g1:=E.bx.cell 1;have g2:=E.bx.cell 2;have g3:=E.bx.cell 3;simp at g0 g1 g2 g3;have ltB:=E.bx.lt;have hcall:=k28 E.bk E.kd
  gi_wp2_with (gi_at_call 28;with_reducible refine hcall.mono ?_;rintro e w4 ⟨v1,rfl,ho1,hb4⟩)
  have hv1:=lX (xs:=V) ho1 rfl;replace E:=E.below hb4;clear hb4 ho1 hcall g0 g1 g2 g3 ltB;refine gu λwr hs=>?_;replace E:=E.same hs;replace hv1:=hv1.grow (hs.g _);clear hs;have g0:=E.bx.cell 0;have g1:=E.bx.cell 1;have g2:=E.bx.cell 2;have g3:=E.bx.cell 3;simp at g0 g1 g2 g3;have ltB:=E.bx.lt;have hcall:=k29 E.bk
  gi_wp2_with (gi_at_call 29;with_reducible refine hcall.mono ?_;rintro e w5 ⟨v2,rfl,ho2,hb4⟩)
  have hv2:=lX (xs:=V) ho2 rfl;replace E:=E.below hb4;replace hv1:=hv1.below hb4;clear hb4 ho2 hcall g0 g1 g2 g3 ltB;refine jd fit (mJ fit ?_);simp only[aF,aC,aH,Nat.reduceAdd,List.range,List.range.loop]
  iterate 2
   refine bF rfl rfl λwr hs=>?_;replace E:=E.same hs;replace hv1:=hv1.grow (hs.g _);replace hv2:=hv2.grow (hs.g _);clear hs;gi_wp2
  refine bF rfl rfl λwr hs=>?_;replace E:=E.same hs;replace hv1:=hv1.grow (hs.g _);replace hv2:=hv2.grow (hs.g _);clear hs;have hcall:=JG V V v1 v2 wr hv1 hv2 hvl hvl;rw[decide_eq_true rfl]at hcall
  gi_wp2_with (gi_at_call 30;with_reducible refine hcall.mono ?_;rintro e w6 ⟨rfl,hb4⟩)
  replace E:=E.below hb4;clear hb4 hcall hv1 hv2
  iterate 6
   refine bF rfl rfl λwr hs=>?_;replace E:=E.same hs;clear hs;gi_wp2
  refine lU rfl rfl rfl Tryz.func17 (by kernel_rfl) MV (vals:=#[]) (by simp) (Oz E.kd (Nat.le_trans hlim E.g.size)) ?_;rintro u w5 S5 ⟨rfl,hg5⟩;replace E:=E.grow hg5;clear hg5
  iterate 2
   refine bF rfl rfl λwr hs=>?_;replace E:=E.same hs;clear hs;gi_wp2
  refine lV fit ?_;refine Ej fit ?_;exact⟨rfl,.bool true,λτ d=>by rw[results_tmp rfl];rfl,rfl,E.g⟩
end Go.Proofs.YtnkejaohnhpbpaaGreatDoor
