/- paid, beside leavers. PRINTED BY A PROGRAM (v4.py). -/
import Derived.Test.YtccjdkghgbbliaaGreatDoorA16
import Derived.Test.YtccjdkghgbbliaaGreatDoorA35
set_option linter.all false
namespace Go.Proofs.YtccjdkghgbbliaaGreatDoor
section
set_option maxHeartbeats 1000000
set_option maxRecDepth 10000
open Go Go.RowKit Lift
structure zO (w0:World) (S0:Blks) (M:Nat) (l:Lay) (B:Nat) (v0 v1 v2 v3:Value) (w:World) (S:Blks):Prop where
 g:fK w0.heap.size w0 S0 w S
 bk:dZ M l bf w
 bx:Blk w B 27 #[v0,v1,v2,v3]
 lo:w0.heap.size≤B
 kd:bK w
section
variable {w0 w w':World} {S0 S S':Blks} {M B:Nat} {l:Lay} {v0 v1 v2 v3:Value}
theorem zO.grow(h:zO w0 S0 M l B v0 v1 v2 v3 w S)(hg:fK w.heap.size w S w' S'):zO w0 S0 M l B v0 v1 v2 v3 w' S':=
 ⟨h.g.trans (hg.mono h.g.size),h.bk.grow hg.toGrow,h.bx.grow hg.toGrow h.bx.lt,h.lo,h.kd.grow hg.toGrow h.kd.lt⟩
theorem zO.same(h:zO w0 S0 M l B v0 v1 v2 v3 w S)(hs:iE w w'):zO w0 S0 M l B v0 v1 v2 v3 w' S:=h.grow (hs.g _).s
theorem zO.below(h:zO w0 S0 M l B v0 v1 v2 v3 w S)(hb:Below w.heap.size w w'):zO w0 S0 M l B v0 v1 v2 v3 w' S:=h.grow (Grow.of hb).s
end
theorem eY.grow{w w':World}{v:Value}{xs:List Int}(h:eY w v xs)(hg:Grow w.heap.size w w'):eY w' v xs:=by
 obtain⟨base,off,cap,rfl,h2⟩:=h;refine⟨base,off,cap,rfl,λi hi=>?_⟩;obtain⟨B,h3,h4,h5⟩:=h2 i hi;refine⟨B,h3,aB h4 hg.size,?_⟩;unfold World.cell? at h5 ⊢;rw[hg.block B h4];exact h5
theorem xR{w:World}{B:Nat}{cs:Array Value}{xs:List Int}{cap:Nat}(h:Blk w B 3 cs)(hc:∀i,i<xs.length→cs[i]?=some (.int .i64 (xs.getD i 0))):eY w (.slice (some ⟨B,0,none⟩) xs.length cap) xs:=
 ⟨_,0,cap,rfl,λi hi=>⟨B,rfl,h.lt,by rw[Nat.zero_add];rw[h.cell i];exact hc i hi⟩⟩
theorem seq1(w:World)(a:Int):eY (w.alloc (.cells #[.int .i64 a] 3)) (.slice (some ⟨w.heap.size,0,none⟩) 1 1) [a]:=
 xR (xs:=[a]) (Blk.new w _ 3) λi hi=>by match i,hi with|0,_=>rfl
theorem seq2(w:World)(a b:Int):eY (w.alloc (.cells #[.int .i64 a,.int .i64 b] 3)) (.slice (some ⟨w.heap.size,0,none⟩) 2 2) [a,b]:=
 xR (xs:=[a,b]) (Blk.new w _ 3) λi hi=>by match i,hi with|0,_=>rfl|1,_=>rfl
theorem seq3(w:World)(a b c:Int):eY (w.alloc (.cells #[.int .i64 a,.int .i64 b,.int .i64 c] 3)) (.slice (some ⟨w.heap.size,0,none⟩) 3 3) [a,b,c]:=
 xR (xs:=[a,b,c]) (Blk.new w _ 3) λi hi=>by match i,hi with|0,_=>rfl|1,_=>rfl|2,_=>rfl
theorem He{xs:List Int}{va vb:Value}{w:World}(h1:eY w va xs)(h2:eY w vb xs)(hn:xs.length<1000000):CallsIn Fz 0 Tryz.prog 37 #[va,vb] w λe w'=>e=.returned (.bool true)∧Below w.heap.size w w':=by
 have h:=same_in xs xs va vb w h1 h2 hn hn;rw[decide_eq_true rfl]at h;exact h
theorem gZ{w0 w:World}(h:Below w0.heap.size w0 w)(o:Obj):Below w0.heap.size w0 (w.alloc o):=h.alloc h.size o
variable [Keep]
theorem wX{w0 w:World}{S0 S:Blks}{M B:Nat}{l:Lay}{v0 v1 v2 v3:Value}{x y:Code}{Q:Qr}{a:Act}(E:zO w0 S0 M l B v0 v1 v2 v3 w S)
  (h:∀wr,zO w0 S0 M l B v0 v1 v2 v3 wr S→x.wpIn Fz 0 Tryz.prog (λe a' w''=>yS (λa w S=>wpR Tryz.prog Inside y Q a w S) Q e a' w'' S) a wr):wpR Tryz.prog Inside (.seq x y) Q a w S:=
 fQ λwr hs=>h wr (E.same hs)
set_option maxHeartbeats 64000000 in
set_option maxRecDepth 1000000 in
theorem MO{w:World}{S:Blks}(hkd:bK w)(hlim:Keep.lim≤w.heap.size):CallsR Tryz.prog Inside 11 #[] w S λv w' S'=>v=.bool true∧fK w.heap.size w S w' S':=by
 have hkd0:=hkd.lt;refine tV fit (by simp) Tryz.func11 rfl ?_;simp only[Tryz.ntmps11,aG,aC,aF,Nat.reduceAdd,Nat.reduceSub,Array.replicate_succ,Array.replicate_zero,List.push_toArray,List.append_toArray,List.nil_append,List.cons_append];refine fQ λwa hs=>?_;gi_wp2;have E0:fK w.heap.size w S wa S:=(hs.g _).s;have hk0:bK wa:=hkd.grow (hs.g w.heap.size) hkd0;clear hs;refine fQ λwb hs=>?_;have E0:=hs.preS E0;have hk0:=hk0.grow (hs.g wa.heap.size) hk0.lt;clear hs
 gi_wp2_with (gi_at_call 31;refine(Ld _).mono ?_;rintro e w3 ⟨l,rfl,hbk,hb3⟩;have hV:l.val bf=.agg #[.slice l.cb 2 l.cc,.slice l.tb 2 l.tc,.slice l.kb 3 l.kc,.slice l.pb 6 l.pc]:=rfl;rw[hV])
 refine wX (w0:=w) (S0:=S) (M:=w3.heap.size) (l:=l) (B:=w3.heap.size) (v0:=.slice l.cb 2 l.cc) (v1:=.slice l.tb 2 l.tc) (v2:=.slice l.kb 3 l.kc) (v3:=.slice l.pb 6 l.pc) ?e0 λwr E=>?k0
 case e0=>
  have hsz:w.heap.size≤w3.heap.size:=Nat.le_trans E0.size hb3.size;have ha:=(Below.refl w3.heap.size w3).alloc (ak _) (.cells #[.slice l.cb 2 l.cc,.slice l.tb 2 l.tc,.slice l.kb 3 l.kc,.slice l.pb 6 l.pc] 27);have hg:=Grow.of (hb3.trans (ha.mono hb3.size));exact⟨E0.trans (hg.s.mono E0.size),hbk.grow (Grow.of ha),Blk.new _ _ _,hsz,hk0.grow hg hk0.lt⟩
 have g0:=E.bx.cell 0;have g1:=E.bx.cell 1;have g2:=E.bx.cell 2;have g3:=E.bx.cell 3;simp at g0 g1 g2 g3;have hcall:=exFee11 E.bk hV
 gi_wp2_with (gi_at_call 23;refine hcall.mono ?_;rintro e w4 ⟨rfl,hb4⟩)
 replace E:=E.below hb4;clear hb4 g0 g1 g2 g3 hcall;refine wX E λwr E=>?_;have g0:=E.bx.cell 0;have g1:=E.bx.cell 1;have g2:=E.bx.cell 2;have g3:=E.bx.cell 3;simp at g0 g1 g2 g3;have hcall:=exFee16 E.bk hV
 gi_wp2_with (gi_at_call 23;refine hcall.mono ?_;rintro e w4 ⟨rfl,hb4⟩)
 replace E:=E.below hb4;clear hb4 g0 g1 g2 g3 hcall;refine wX E λwr E=>?_;have g0:=E.bx.cell 0;have g1:=E.bx.cell 1;have g2:=E.bx.cell 2;have g3:=E.bx.cell 3;simp at g0 g1 g2 g3;have hcall:=RU E.bk E.kd hV
 gi_wp2_with (gi_at_call 32;refine hcall.mono ?_;rintro e w4 ⟨rfl,hb4⟩)
 replace E:=E.below hb4;clear hb4 g0 g1 g2 g3 hcall;refine wX E λwr E=>?_;have g0:=E.bx.cell 0;have g1:=E.bx.cell 1;have g2:=E.bx.cell 2;have g3:=E.bx.cell 3;simp at g0 g1 g2 g3;have hcall:=RX E.bk E.kd hV
 gi_wp2_with (gi_at_call 32;refine hcall.mono ?_;rintro e w4 ⟨⟨held9,rfl⟩,hb4⟩)
 replace E:=E.below hb4;clear hb4 g0 g1 g2 g3 hcall;refine wX E λwr E=>?_;have g0:=E.bx.cell 0;have g1:=E.bx.cell 1;have g2:=E.bx.cell 2;have g3:=E.bx.cell 3;simp at g0 g1 g2 g3;have hcall:=exKept E.bk E.kd hV
 gi_wp2_with (gi_at_call 15;refine hcall.mono ?_;rintro e w4 ⟨rfl,hb4⟩)
 replace E:=E.below hb4;clear hb4 g0 g1 g2 g3 hcall;refine iC fit (mP fit ?_);simp only[aG,aC,aF,Nat.reduceAdd,List.range,List.range.loop];refine bZ rfl rfl λwr hs=>?_;replace E:=E.same hs;clear hs;have g0:=E.bx.cell 0;have g1:=E.bx.cell 1;have g2:=E.bx.cell 2;have g3:=E.bx.cell 3;simp at g0 g1 g2 g3;gi_wp2;clear g0 g1 g2 g3;refine lK rfl rfl rfl Tryz.func33 (by kernel_rfl) Rt (vals:=#[.agg #[.slice l.cb 2 l.cc,.slice l.tb 2 l.tc,.slice l.kb 3 l.kc,.slice l.pb 6 l.pc],.int .i64 0,.int .i64 8]) (by simp[Act.eval]) (exBal8 E.bk E.kd hV (Nat.le_trans hlim E.g.size)) ?_;rintro u w5 S5 ⟨rfl,hg5⟩;replace E:=E.grow hg5;clear hg5;have G:=Grow.refl w5.heap.size w5;refine bZ rfl rfl λwr1 hs=>?_;replace G:=hs.pre G;clear hs;gi_wp2;refine bZ rfl rfl λwr2 hs=>?_;replace G:=hs.pre G;clear hs;gi_wp2;refine bZ rfl rfl λwr3 hs=>?_;replace G:=hs.pre G;clear hs;gi_wp2;refine bZ rfl rfl λwc hs=>?_;replace G:=hs.pre G;clear hs;gi_wp2;have hz:Blk (wc.alloc (.cells iw 105)) wc.heap.size 105 iw:=Blk.new wc iw 105;have lo:=G.size;replace G:=G.trans ((Grow.of ((Below.refl _ wc).alloc (ak _) (.cells iw 105))).mono G.size);refine bZ rfl rfl λwd hs=>?_;replace hz:=hs.blk hz;replace G:=hs.pre G;clear hs;generalize wc.heap.size=nB at *;have z0:=hz.cell 0;have z1:=hz.cell 1;have z2:=hz.cell 2;have z3:=hz.cell 3;have y0:=hz.frozen 0;have y1:=hz.frozen 1;have y2:=hz.frozen 2;have y3:=hz.frozen 3;simp[iw]at z0 z1 z2 z3;gi_wp2;have hX:=(((hz.put 0 (.int .i64 40)).put 1 (.int .i64 150)).put 2 (.int .i64 0)).put 3 (.int .i64 190);simp only[iw,aj,ay,au]at hX;replace G:=G.trans (Grow.of (((((Below.refl _ wd).setCell (p:=⟨nB,0,none⟩) lo (.int .i64 40)).setCell (p:=⟨nB,1,none⟩) lo (.int .i64 150)).setCell (p:=⟨nB,2,none⟩) lo (.int .i64 0)).setCell (p:=⟨nB,3,none⟩) lo (.int .i64 190)));clear z0 z1 z2 z3 y0 y1 y2 y3 hz;refine bZ rfl rfl λwe hs=>?_;replace hX:=hs.blk hX;replace G:=hs.pre G;clear hs;gi_wp2;refine lM fit ?_;replace E:=E.grow G.s;clear G;refine iC fit (mP fit ?_);simp only[aG,aC,aF,Nat.reduceAdd,List.range,List.range.loop];refine bZ rfl rfl λwr hs=>?_;replace E:=E.same hs;replace hX:=hX.grow (hs.g _) hX.lt;clear hs;have g0:=E.bx.cell 0;have g1:=E.bx.cell 1;have g2:=E.bx.cell 2;have g3:=E.bx.cell 3;simp at g0 g1 g2 g3;gi_wp2;clear g0 g1 g2 g3;refine lK rfl rfl rfl Tryz.func33 (by kernel_rfl) Rt (vals:=#[.agg #[.slice l.cb 2 l.cc,.slice l.tb 2 l.tc,.slice l.kb 3 l.kc,.slice l.pb 6 l.pc],.int .i64 0,.int .i64 12]) (by simp[Act.eval]) (exBal12 E.bk E.kd hV (Nat.le_trans hlim E.g.size)) ?_;rintro u w5 S5 ⟨rfl,hg5⟩;replace E:=E.grow hg5;replace hX:=hX.grow hg5.toGrow hX.lt;clear hg5;have G:=Grow.refl w5.heap.size w5;refine bZ rfl rfl λwr1 hs=>?_;replace G:=hs.pre G;clear hs;gi_wp2;refine bZ rfl rfl λwr2 hs=>?_;replace G:=hs.pre G;clear hs;gi_wp2;refine bZ rfl rfl λwr3 hs=>?_;replace G:=hs.pre G;clear hs;gi_wp2;refine bZ rfl rfl λwc hs=>?_;replace G:=hs.pre G;clear hs;gi_wp2;have hz:Blk (wc.alloc (.cells iw 105)) wc.heap.size 105 iw:=Blk.new wc iw 105;have lo:=G.size;replace G:=G.trans ((Grow.of ((Below.refl _ wc).alloc (ak _) (.cells iw 105))).mono G.size);refine bZ rfl rfl λwd hs=>?_;replace hz:=hs.blk hz;replace G:=hs.pre G;clear hs;generalize wc.heap.size=nB at *;have z0:=hz.cell 0;have z1:=hz.cell 1;have z2:=hz.cell 2;have z3:=hz.cell 3;have y0:=hz.frozen 0;have y1:=hz.frozen 1;have y2:=hz.frozen 2;have y3:=hz.frozen 3;simp[iw]at z0 z1 z2 z3;gi_wp2;have hY:=(((hz.put 0 (.int .i64 35)).put 1 (.int .i64 0)).put 2 (.int .i64 160)).put 3 (.int .i64 195);simp only[iw,aj,ay,au]at hY;replace G:=G.trans (Grow.of (((((Below.refl _ wd).setCell (p:=⟨nB,0,none⟩) lo (.int .i64 35)).setCell (p:=⟨nB,1,none⟩) lo (.int .i64 0)).setCell (p:=⟨nB,2,none⟩) lo (.int .i64 160)).setCell (p:=⟨nB,3,none⟩) lo (.int .i64 195)));clear z0 z1 z2 z3 y0 y1 y2 y3 hz;refine bZ rfl rfl λwe hs=>?_;replace hY:=hs.blk hY;replace G:=hs.pre G;clear hs;gi_wp2;refine lM fit ?_;replace E:=E.grow G.s;replace hX:=hX.grow G hX.lt;clear G;refine fQ λwr hs=>?_;replace E:=E.same hs;replace hX:=hs.blk hX;replace hY:=hs.blk hY;clear hs;have g0:=E.bx.cell 0;have g1:=E.bx.cell 1;have g2:=E.bx.cell 2;have g3:=E.bx.cell 3;simp at g0 g1 g2 g3;have hcall:=exVoids E.bk E.kd hV
 gi_wp2_with (gi_at_call 34;refine hcall.mono ?_;rintro e w4 ⟨⟨vv,rfl,qv⟩,hb4⟩)
 replace E:=E.below hb4;replace hX:=hX.below hb4;replace hY:=hY.below hb4;clear hb4 g0 g1 g2 g3 hcall;refine fQ λwr hs=>?_;replace E:=E.same hs;replace hX:=hs.blk hX;replace hY:=hs.blk hY;replace qv:=qv.grow (hs.g _);clear hs;have g0:=E.bx.cell 0;have g1:=E.bx.cell 1;have g2:=E.bx.cell 2;have g3:=E.bx.cell 3;simp at g0 g1 g2 g3;have hcall:=exPlan5 E.bk E.kd hV
 gi_wp2_with (gi_at_call 35;refine hcall.mono ?_;rintro e w4 ⟨⟨vc5,vp5,rfl,Qj,Qk⟩,hb4⟩)
 replace E:=E.below hb4;replace hX:=hX.below hb4;replace hY:=hY.below hb4;replace qv:=qv.below hb4;clear hb4 g0 g1 g2 g3 hcall;refine fQ λwr hs=>?_;replace E:=E.same hs;replace hX:=hs.blk hX;replace hY:=hs.blk hY;replace qv:=qv.grow (hs.g _);replace Qj:=Qj.grow (hs.g _);replace Qk:=Qk.grow (hs.g _);clear hs;have g0:=E.bx.cell 0;have g1:=E.bx.cell 1;have g2:=E.bx.cell 2;have g3:=E.bx.cell 3;simp at g0 g1 g2 g3;have hcall:=exPlan8 E.bk E.kd hV
 gi_wp2_with (gi_at_call 35;refine hcall.mono ?_;rintro e w4 ⟨⟨vc8,vp8,rfl,q8c,q8p⟩,hb4⟩)
 replace E:=E.below hb4;replace hX:=hX.below hb4;replace hY:=hY.below hb4;replace qv:=qv.below hb4;replace Qj:=Qj.below hb4;replace Qk:=Qk.below hb4;clear hb4 g0 g1 g2 g3 hcall;refine fQ λwr hs=>?_;replace E:=E.same hs;replace hX:=hs.blk hX;replace hY:=hs.blk hY;replace qv:=qv.grow (hs.g _);replace Qj:=Qj.grow (hs.g _);replace Qk:=Qk.grow (hs.g _);replace q8c:=q8c.grow (hs.g _);replace q8p:=q8p.grow (hs.g _);clear hs;have g0:=E.bx.cell 0;have g1:=E.bx.cell 1;have g2:=E.bx.cell 2;have g3:=E.bx.cell 3;simp at g0 g1 g2 g3;have b1:Below wr.heap.size wr (wr.alloc (.cells #[.int .i64 0] 3)):=(Below.refl _ wr).alloc (ak _) _;have b2:Below (wr.alloc (.cells #[.int .i64 0] 3)).heap.size (wr.alloc (.cells #[.int .i64 0] 3)) ((wr.alloc (.cells #[.int .i64 0] 3)).alloc (.cells #[.int .i64 0,.int .i64 1,.int .i64 2] 3)):=(Below.refl _ _).alloc (ak _) _;have b12:=b1.trans (b2.mono b1.size);have s3:=seq3 (wr.alloc (.cells #[.int .i64 0] 3)) 0 1 2;rw[World.size_alloc]at s3;have hcall:=RS (E.below b12).bk (E.below b12).kd hV ((seq1 wr 0).below b2) s3;replace E:=E.below b12;replace hX:=hX.below b12;replace hY:=hY.below b12;replace qv:=qv.below b12;replace Qj:=Qj.below b12;replace Qk:=Qk.below b12;replace q8c:=q8c.below b12;replace q8p:=q8p.below b12;clear s3 b1 b2 b12
 gi_wp2_with (gi_at_call 36;refine hcall.mono ?_;rintro e w4 ⟨rfl,hb4⟩)
 replace E:=E.below hb4;replace hX:=hX.below hb4;replace hY:=hY.below hb4;replace qv:=qv.below hb4;replace Qj:=Qj.below hb4;replace Qk:=Qk.below hb4;replace q8c:=q8c.below hb4;replace q8p:=q8p.below hb4;clear hb4 hcall g0 g1 g2 g3;refine QG λwr hs=>?_;replace E:=E.same hs;replace hX:=hs.blk hX;replace hY:=hs.blk hY;replace qv:=qv.grow (hs.g _);replace Qj:=Qj.grow (hs.g _);replace Qk:=Qk.grow (hs.g _);replace q8c:=q8c.grow (hs.g _);replace q8p:=q8p.grow (hs.g _);clear hs;obtain⟨b5,o5,c5,rfl,-⟩:=Qj;have HB:=Below.refl wr.heap.size wr;have he:=eql41;have x0:=hX.cell 0;have x1:=hX.cell 1;have x2:=hX.cell 2;have x3:=hX.cell 3;have y0:=hY.cell 0;have y1:=hY.cell 1;have y2:=hY.cell 2;have y3:=hY.cell 3;simp at x0 x1 x2 x3 y0 y1 y2 y3
 gi_wp2_with (first|(gi_at_call 37;with_reducible refine(He (xs:=[4]) (qv.below (gZ HB _)) (seq1 _ 4) (by decide)).mono ?_;rintro e w5 ⟨rfl,hb5⟩;replace HB:=(gZ HB _).trans (hb5.mono (gZ HB _).size))|(gi_at_call 37;with_reducible refine(He (xs:=[0,1]) (Qk.below (gZ HB _)) (seq2 _ 0 1) (by decide)).mono ?_;rintro e w5 ⟨rfl,hb5⟩;replace HB:=(gZ HB _).trans (hb5.mono (gZ HB _).size))|(gi_at_call 37;with_reducible refine(He (xs:=[0]) (q8c.below (gZ HB _)) (seq1 _ 0) (by decide)).mono ?_;rintro e w5 ⟨rfl,hb5⟩;replace HB:=(gZ HB _).trans (hb5.mono (gZ HB _).size))|(gi_at_call 37;with_reducible refine(He (xs:=[0,1,2]) (q8p.below (gZ HB _)) (seq3 _ 0 1 2) (by decide)).mono ?_;rintro e w5 ⟨rfl,hb5⟩;replace HB:=(gZ HB _).trans (hb5.mono (gZ HB _).size)))
 refine⟨rfl,.bool true,λτ d=>?_,rfl,(E.below HB).g⟩;rw[results_tmp rfl];rfl
end
section
set_option maxHeartbeats 1000000
set_option maxRecDepth 10000
open Go Go.RowKit Lift
theorem bD.grow{N:Nat}{base:Option Addr}{size:Nat}{rows:List (List Value)}{w w':World}(h:bD N base size rows w)(hN:N≤w.heap.size)(hg:Grow w.heap.size w w'):bD N base size rows w':=λi r hr=>by
 obtain⟨b,o,h1,h2,h3⟩:=h i r hr;refine⟨b,o,h1,h2,λj v hv=>?_⟩;have:=h3 j v hv;unfold World.cell? at this ⊢;rw[hg.block b (aB h2 hN)];exact this
theorem bQ.grow{N:Nat}{l:Lay}{b:aO}{w w':World}(h:bQ N l b w)(hg:Grow w.heap.size w w'):bQ N l b w':=
 ⟨Nat.le_trans h.hN hg.size,h.cs.grow h.hN hg,h.ts.grow h.hN hg,h.ks.grow h.hN hg,h.ps.grow h.hN hg⟩
structure jO (w0:World) (S0:Blks) (M:Nat) (l:Lay) (b:aO) (B:Nat) (w:World) (S:Blks):Prop where
 g:fK w0.heap.size w0 S0 w S
 bk:bQ M l b w
 bx:Blk w B 27 (l.bn b)
 lo:w0.heap.size≤B
 kd:bK w
section
variable {w0 w w':World} {S0 S S':Blks} {M B:Nat} {l:Lay} {b:aO}
theorem jO.grow(h:jO w0 S0 M l b B w S)(hg:fK w.heap.size w S w' S'):jO w0 S0 M l b B w' S':=
 ⟨h.g.trans (hg.mono h.g.size),h.bk.grow hg.toGrow,h.bx.grow hg.toGrow h.bx.lt,h.lo,h.kd.grow hg.toGrow h.kd.lt⟩
theorem jO.same(h:jO w0 S0 M l b B w S)(hs:iE w w'):jO w0 S0 M l b B w' S:=h.grow (hs.g _).s
theorem jO.below(h:jO w0 S0 M l b B w S)(hb:Below w.heap.size w w'):jO w0 S0 M l b B w' S:=h.grow (Grow.of hb).s
end
theorem KH:Tryz.f11.body=some (Tryz.f11.body.getD .skip):=rfl
variable [Keep]
end
