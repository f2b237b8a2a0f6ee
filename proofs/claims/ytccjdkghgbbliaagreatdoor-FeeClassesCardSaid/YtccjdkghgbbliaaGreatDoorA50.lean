/- FeeClasses, beside leavers. PRINTED BY A PROGRAM (law5.py). -/
import Derived.Test.YtccjdkghgbbliaaGreatDoorA48
set_option linter.all false
namespace Go.Proofs.YtccjdkghgbbliaaGreatDoor
section
set_option maxHeartbeats 1000000
set_option maxRecDepth 10000
open Go Go.Conc Go.RowKit Lift
set_option maxHeartbeats 256000000 in
set_option maxRecDepth 1000000 in
theorem law5[Keep]{w:World}{l:Lay}{b:aJ}{t:aZ}{c ed bi da:Int}{pa:Option Addr}{pn pc:Nat}(c0:0≤c)(c1:c≤255)(ed0:0≤ed)(ed1:ed≤255)(bi0:0≤bi)(bi1:bi≤255)(da0:0≤da)(da1:da≤65535)(hbk:bW w.heap.size l b w)(hcap:b.aN.length≤l.cc)(hta:bI w.heap.size t w)(hpk:iq w.heap.size pa pn w)(hkd:bU w)(hlim:Keep.lim≤w.heap.size) :
  Raw Tryz.prog (rX Tryz.prog 5 Tryz.f5 λv w1 S1=>v=.bool true∧dN w.heap.size w (λ_=>False) w1 S1) (G (Frame.enter Tryz.prog 5 #[.agg (l.bP b),.agg t.arr,.int .u8 c,.int .u8 ed,.int .u8 bi,.int .u16 da,.slice pa pn pc] .normal) []) w (λ_=>False):=by
 refine ML fit (by simp) Tryz.func5 rfl ?_;generalize (λ_=>False:Blks)=S;simp only[Tryz.ntmps5,aF,aC,aG,Nat.reduceAdd,Nat.reduceSub,Array.replicate_succ,Array.replicate_zero,List.push_toArray,List.append_toArray,List.nil_append,List.cons_append];have h0w:=hkd.lt;refine fJ λwa hs=>?_;gi_wp2;have hsz:wa.heap.size=w.heap.size:=by rw[hs.heap]
 have hba:Below wa.heap.size wa ((wa.alloc (.cells (l.bP b) 27)).alloc (.cells t.arr 68)):=((Below.refl _ wa).alloc (ak _) _).alloc (by simp) _;have hg:Grow w.heap.size w ((wa.alloc (.cells (l.bP b) 27)).alloc (.cells t.arr 68)):=hs.grow (hba.mono (by omega))
 have E:iy w S w.heap.size l b wa.heap.size ((wa.alloc (.cells (l.bP b) 27)).alloc (.cells t.arr 68)) S:=
  ⟨hg.s,hbk.grow hg,(Blk.new wa (l.bP b) 27).below ((Below.refl _ _).alloc (ak _) _),by omega,hkd.grow hg hkd.lt⟩
 have F:wV w.heap.size t (wa.heap.size+1) pa pn ((wa.alloc (.cells (l.bP b) 27)).alloc (.cells t.arr 68)):=
  ⟨hta.grow hg,by have:=Blk.new (wa.alloc (.cells (l.bP b) 27)) t.arr 68;simpa using this,hpk.grow (ak _) hg⟩
 clear hs hbk hkd hta hpk hg hba hsz;generalize (wa.alloc (.cells (l.bP b) 27)).alloc (.cells t.arr 68)=W at *;generalize wa.heap.size=B at *;refine iw fit ?_;refine rM E F λwb _ E F=>?_;have g0:=E.bx.cell 0;have g1:=E.bx.cell 1;have g2:=E.bx.cell 2;have g3:=E.bx.cell 3;simp at g0 g1 g2 g3;have jL:=E.bx.lt
 gi_wp2_with (first
  |(gi_at_call 8;refine(ask_in E.bk hcap).mono ?_;rintro e w2 ⟨⟨r,rfl,hr⟩,hb2⟩;replace E:=E.below hb2;replace F:=F.below hb2;clear g0 g1 g2 g3 jL hb2;have g0:=E.bx.cell 0;have g1:=E.bx.cell 1;have g2:=E.bx.cell 2;have g3:=E.bx.cell 3;simp at g0 g1 g2 g3;have jL:=E.bx.lt;rcases r with _|_)
  |(gi_at_call 9;refine(TD E.bk (hr (by trivial)).1.np).mono ?_;rintro e w3 ⟨⟨q,rfl,hq⟩,hb3⟩;replace E:=E.below hb3;replace F:=F.below hb3;clear g0 g1 g2 g3 jL hb3;have x0:=F.bx.cell 0;have x1:=F.bx.cell 1;have x2:=F.bx.cell 2;simp at x0 x1 x2;have Jf:=F.bx.lt;rcases q with _|_)
  |(gi_at_call 18;refine(FitT_in F.at_).mono ?_;rintro e w4 ⟨⟨z,rfl,hz⟩,hb4⟩;clear x0 x1 x2 Jf;replace E:=E.below hb4;replace F:=F.below hb4;clear hb4;rcases z with _|_))
 all_goals try
  (refine CO fit (t:=true) rfl ?_
   simp only[if_true];refine iw fit (pY fit ?_);simp only[aF,aC,aG,Nat.reduceAdd,List.range,List.range.loop];refine pK rfl rfl rfl Tryz.func11 (by kernel_rfl) QY (vals:=#[]) (by simp) (TW E.kd (Nat.le_trans hlim E.g.size)) ?_;rintro u w5 S5 ⟨rfl,hg5⟩;replace E:=E.grow hg5;clear hg5;refine bD rfl rfl λwr hs=>?_;replace E:=E.same hs;clear hs;gi_wp2;refine oG fit ?_;refine G7 fit ?_;exact⟨rfl,.bool true,λτ d=>by rw[results_tmp rfl];rfl,rfl,E.g⟩)
 obtain⟨hR,hpos⟩:=hr (by trivial);obtain⟨-,hO⟩:=hz (by trivial);have hst:=hq (by trivial);clear hr hz hq;refine CO fit (t:=false) rfl ?_;simp only[Bool.false_eq_true,if_false];refine J7 fit ?_;obtain⟨k,ek⟩:∃k:Nat,c % (b.cs.length:Int)=k:=⟨(c % (b.cs.length:Int)).toNat,by have:=Int.emod_nonneg c (show(b.cs.length:Int)≠0 by omega);omega⟩
 have hk:k<b.cs.length:=by have:=Int.emod_lt_of_pos c (show(0:Int)<b.cs.length by omega);omega
 have hO1:=hO.n1;obtain⟨e,ee⟩:∃e:Nat,ed % (t.gW.length:Int)=e:=⟨(ed % (t.gW.length:Int)).toNat,by have:=Int.emod_nonneg ed (show(t.gW.length:Int)≠0 by omega);omega⟩
 have hel:e<t.gW.length:=by have:=Int.emod_lt_of_pos ed (show(0:Int)<t.gW.length by omega);omega
 obtain⟨n,en⟩:∃n:Nat,da % 10000=n:=⟨(da % 10000).toNat,by omega⟩
 have hn:n<10000:=by omega
 have hz':¬((b.cs.length:Int)=0):=by omega
 have hz2:¬((t.gW.length:Int)=0):=by omega
 have hz3:¬b.cs=[]:=λq=>by rw[q]at hk;simp at hk
 have hz4:¬t.gW=[]:=λq=>by rw[q]at hel;simp at hel
 have EK:=Lib.hid ek;have EE:=Lib.hid ee;have EN:=Lib.hid en;clear ek ee en;refine rM E F λwr _ E F=>?_;gi_wp2;refine aT (λw'=>Below wr.heap.size wr w') rfl mixed (by kernel_rfl) (λd=>⟨rfl,rfl,rfl,ak _,λ_ _=>rfl⟩) ?_;simp only[aF,aC,aG,Nat.reduceAdd,Nat.zero_add,List.range,List.range.loop]
 iterate 18
  (refine aQ rfl rfl (by kernel_rfl) (.inr rfl) ?_
   apply ah;refine⟨λw' hw' K Q hK=>?_,?_⟩
   ·have qB:=E.bx.below hw';have g2:=qB.cell 2;have qX:=F.bx.below hw';have x0:=qX.cell 0;simp at g2 x0;have lb:=qB.lt;have lx:=qX.lt;gi_wp2
    try exact hw'
   apply ah;refine⟨rfl,?_⟩)
 intro wq hwq;replace E:=E.below hwq;replace F:=F.below hwq;clear hwq;simp only[EK.out,EE.out,EN.out];clear EK EE EN hz' hz2 hz3 hz4;refine rM E F λwr _ E F=>?_;have x0:=F.bx.cell 0;have x1:=F.bx.cell 1;have x2:=F.bx.cell 2;simp at x0 x1 x2;have Jf:=F.bx.lt
 gi_wp2_with (gi_at_call 19;refine(DY F.at_ hO hel ⟨bi0,bi1⟩).mono ?_;rintro r w4 ⟨⟨v,xs,rfl,hx1,hx2,hx3,hx4⟩,hb4⟩)
 have h8:=(hO.ed e hel).n;have hX:=LD hx2 hx3;have hxs:=lN hx1 rfl;have hx8:xs.length≤8:=by omega
 obtain⟨vb,vc,rfl⟩:=um hx1;replace E:=E.below hb4;replace F:=F.below hb4;clear x0 x1 x2 Jf;clear hb4 hx1 hx2 hx3 hx4
 (try simp only[CG])
 refine iw fit ?_;refine ni fit mixed (by kernel_rfl) (W5 w S l b B t (B+1) pa pn (t.dI e).items.length (.slice vb xs.length vc) xs) [70,71,63,72,19] (λD x w S τ d h=>⟨h.E.same ⟨rfl,rfl,rfl⟩,h.F.same ⟨rfl,rfl,rfl⟩,h.s.grow ((⟨rfl,rfl,rfl⟩:eX w (bH w τ d)).g _),λq=>(h.c q).grow ((⟨rfl,rfl,rfl⟩:eX w (bH w τ d)).g _),λq=>(h.r q).grow ((⟨rfl,rfl,rfl⟩:eX w (bH w τ d)).g _),λq=>(h.m q).grow ((⟨rfl,rfl,rfl⟩:eX w (bH w τ d)).g _),λq=>(h.y q).grow ((⟨rfl,rfl,rfl⟩:eX w (bH w τ d)).g _),λq=>(h.z q).grow ((⟨rfl,rfl,rfl⟩:eX w (bH w τ d)).g _)⟩) (x₀:=λ_=>undef) (λg hg=>by simp only[List.mem_cons,List.not_mem_nil,or_false]at hg;rcases hg with rfl|rfl|rfl|rfl|rfl<;>rfl) ⟨E,F,hxs,λq=>Bool.noConfusion q,λq=>Bool.noConfusion q,λq=>Bool.noConfusion q,λq=>Bool.noConfusion q,λq=>Bool.noConfusion q⟩ ?_;simp only[aF,aC,aG,Nat.reduceAdd,Nat.zero_add,List.range,List.range.loop]
 iterate 6
  (refine iI (u0:=λ_=>undef) rfl (λ_=>rfl) (λg hg=>by simp only[List.mem_cons,List.not_mem_nil,or_false]at hg;rcases hg with rfl|rfl|rfl|rfl|rfl<;>decide) (λg hg=>by simp only[List.mem_cons,List.not_mem_nil,or_false]at hg;rcases hg with rfl|rfl|rfl|rfl|rfl<;>rfl) ?_
   apply ah;refine⟨λD x w' S' hm hW K Q hK=>?_,?_⟩
   ·have F:=hW.F;have x0:=F.bx.cell 0;have x1:=F.bx.cell 1;have x2:=F.bx.cell 2;simp at x0 x1 x2;have Jf:=F.bx.lt;simp only[Lift.Act.bQ,Act.put,List.foldl_cons,List.foldl_nil,aj,ay,au];gi_wp2;exact hW.step (by decide) (dN.refl _ _ _)
   apply ah;refine⟨λx=>?_,?_⟩
   ·simp only[Lift.Act.bQ,Act.put,List.foldl_cons,List.foldl_nil,aj,ay,au];rfl)
 refine iJ (u0:=undef) 70 (by simp) rfl (λ_=>rfl) rfl rfl (λD x w' S' hm hW K Q hK=>?_) ?_
 ·have hc:=Cuts_in (c:=pc) hW.F.at_ hO hel hW.F.pk;simp only[Lift.Act.bQ,Act.put,List.foldl_cons,List.foldl_nil,aj,ay,au]at hK ⊢
  gi_wp2_with (gi_at_call 21;refine hc.mono ?_;rintro r w3 ⟨⟨u,rows,rfl,r1,r2,r3⟩,hb⟩)
  have hrw:=EG (Ik rows) r1 (by simp);obtain⟨cb,cc,hv,hrr⟩:=hrw;exact hW.mk_c hb ⟨cb,cc,rows,by rw[hv];simp,hrr,r2,λp hp=>let ⟨ys,y1,y2,y3,y4,_⟩:=r3 p hp;⟨ys,lN y1 rfl,LD y2 y3,by omega⟩⟩
 refine iJ (u0:=undef) 71 (by simp) rfl (λ_=>rfl) rfl rfl (λD x w' S' hm hW K Q hK=>?_) ?_
 ·obtain⟨cb,cc,rows,hu,hr1,hr2,hr3⟩:=hW.c (hm.2.1 6 (by kernel_rfl));have hc:=Cut_in hW.F.at_ hO hel hW.s hx8 hX (cc:=cc) hr1 (ak _) hr2 hr3;rw[← hu]at hc;clear hu hr1 hr3;simp only[Lift.Act.bQ,Act.put,List.foldl_cons,List.foldl_nil,aj,ay,au]at hK ⊢
  gi_wp2_with (gi_at_call 20;refine hc.mono ?_;rintro r w3 ⟨⟨v2,zs,rfl,z1,z2⟩,hb⟩)
  exact hW.mk_r hb ⟨_,rfl,zs,z1,z2⟩
 refine iJ (u0:=undef) 63 (by simp) rfl (λ_=>rfl) rfl rfl (λD x w' S' hm hW K Q hK=>?_) ?_
 ·have hl:=hW.r (hm.2.1 7 (by kernel_rfl));simp only[Lift.Act.bQ,Act.put,List.foldl_cons,List.foldl_nil,aj,ay,au]at hK ⊢;gi_wp2;exact hW.mk_m (Below.refl _ _) hl
 refine iJ (u0:=undef) 72 (by simp) rfl (λ_=>rfl) rfl rfl (λD x w' S' hm hW K Q hK=>?_) ?_
 ·obtain⟨v2,hu,hz⟩:=hW.m (hm.2.1 8 (by kernel_rfl));simp only[Lift.Act.bQ,Act.put,List.foldl_cons,List.foldl_nil,aj,ay,au]at hK ⊢;rw[hu];gi_wp2;rw[← hu];refine hK _ _ ?_;exact hW.mk_y (Below.refl _ _) hz
 iterate 1
  (refine iI (u0:=λ_=>undef) rfl (λ_=>rfl) (λg hg=>by simp only[List.mem_cons,List.not_mem_nil,or_false]at hg;rcases hg with rfl|rfl|rfl|rfl|rfl<;>decide) (λg hg=>by simp only[List.mem_cons,List.not_mem_nil,or_false]at hg;rcases hg with rfl|rfl|rfl|rfl|rfl<;>rfl) ?_
   apply ah;refine⟨λD x w' S' hm hW K Q hK=>?_,?_⟩
   ·obtain⟨v2,hu,hz⟩:=hW.m (hm.2.1 8 (by kernel_rfl));simp only[Lift.Act.bQ,Act.put,List.foldl_cons,List.foldl_nil,aj,ay,au];rw[hu];gi_wp2;rw[← hu];refine hK _ ?_;exact hW.step (by decide) (dN.refl _ _ _)
   apply ah;refine⟨λx=>?_,?_⟩
   ·simp only[Lift.Act.bQ,Act.put,List.foldl_cons,List.foldl_nil,aj,ay,au];rfl)
 refine iJ (u0:=undef) 19 (by simp) rfl (λ_=>rfl) rfl rfl (λD x w' S' hm hW K Q hK=>?_) ?_
 ·have hl:=hW.y (hm.2.1 9 (by kernel_rfl));simp only[Lift.Act.bQ,Act.put,List.foldl_cons,List.foldl_nil,aj,ay,au]at hK ⊢;gi_wp2;exact hW.mk_z (Below.refl _ _) hl
 iterate 1
  (refine iI (u0:=λ_=>undef) rfl (λ_=>rfl) (λg hg=>by simp only[List.mem_cons,List.not_mem_nil,or_false]at hg;rcases hg with rfl|rfl|rfl|rfl|rfl<;>decide) (λg hg=>by simp only[List.mem_cons,List.not_mem_nil,or_false]at hg;rcases hg with rfl|rfl|rfl|rfl|rfl<;>rfl) ?_
   apply ah;refine⟨λD x w' S' hm hW K Q hK=>?_,?_⟩
   ·simp only[Lift.Act.bQ,Act.put,List.foldl_cons,List.foldl_nil,aj,ay,au];gi_wp2;exact hW.step (by decide) (dN.refl _ _ _)
   apply ah;refine⟨λx=>?_,?_⟩
   ·simp only[Lift.Act.bQ,Act.put,List.foldl_cons,List.foldl_nil,aj,ay,au];rfl)
 rintro x w5 S5 hW;obtain⟨zs,hzs,hsub⟩:=hW.z rfl;simp only[Lift.Act.bQ,Act.put,List.foldl_cons,List.foldl_nil,aj,ay,au];generalize x 70=y70;generalize x 71=y71;generalize x 63=y63;generalize x 72=y72;generalize x 19=y19 at hzs;have E:=hW.E;have F:=hW.F;have hxs5:=hW.s;clear hW hxs;have hz8:zs.length≤8:=Nat.le_trans hsub.length_le hx8;have hXz:Lst (t.dI e).items.length zs:=by
  have hp:xs.Pairwise (·<·):=List.pairwise_iff_getElem.2 λi j hi hj hij=>hX.asc hi hj hij;refine LD (hp.sublist hsub) λx hx=>?_;obtain⟨j,hj,rfl⟩:=List.mem_iff_getElem.1 (hsub.subset hx);have:=hX.lo j hj;rwa[List.getD_eq_getElem?_getD,List.getElem?_eq_getElem hj]at this
 obtain⟨zb,zo,zc,rfl,hzq⟩:=hzs;have hzs:cZ w5 (.slice zb zs.length zc) zs:=⟨zb,zo,zc,rfl,hzq⟩
 clear hzq;refine rM E F λwr hsw E F=>?_;replace hxs5:=hxs5.grow (hsw.g _);replace hzs:=hzs.grow (hsw.g _);clear hsw;have hc1:=zK F.at_ hO hel hxs5 hx8 hX;have x0:=F.bx.cell 0;have x1:=F.bx.cell 1;have x2:=F.bx.cell 2;simp at x0 x1 x2;have Jf:=F.bx.lt
 gi_wp2_with (gi_at_call 22;refine hc1.mono ?_;rintro r w6 ⟨⟨ab,ac,rfl⟩,hb6⟩)
 replace E:=E.below hb6;replace F:=F.below hb6;replace hzs:=hzs.below hb6;clear x0 x1 x2 Jf;clear hb6 hc1 hxs5;refine rM E F λwr hsw E F=>?_;replace hzs:=hzs.grow (hsw.g _);clear hsw;have hc2:=zK F.at_ hO hel hzs hz8 hXz;have x0:=F.bx.cell 0;have x1:=F.bx.cell 1;have x2:=F.bx.cell 2;simp at x0 x1 x2;have Jf:=F.bx.lt
 gi_wp2_with (gi_at_call 22;refine hc2.mono ?_;rintro r w7 ⟨⟨sb,sc,rfl⟩,hb7⟩)
 replace E:=E.below hb7;clear x0 x1 x2 Jf;clear hb7 hc2 hzs F;have hle:=clsN_le (f:=t.cls e) (l:=zs) (m:=xs) hsub.subset;have hm8:=Nat.le_trans (Oz (t.cls e) xs) hx8;generalize (KF (t.cls e) zs).length=c2 at *;generalize (KF (t.cls e) xs).length=c1 at *;have q8:¬((c1:Int)<c2):=by omega
 refine iw fit ?_;refine UK E λwr E=>?_;gi_wp2;refine CO fit (t:=false) rfl ?_;simp only[Bool.false_eq_true,if_false];refine J7 fit ?_;have hkk:(k:Int)<b.cs.length:=by omega
 obtain⟨du,hdu⟩:∃du,(b.aP k).due=du:=⟨_,rfl⟩
 have hkr:(b.cs.map fZ.row)[k]?=some (b.aP k).row:=by rw[List.getElem?_map,List.getElem?_eq_getElem hk,dS hk];rfl
 have hRk:=hR.k (b.aP k) (by rw[dS hk];exact List.getElem_mem _);have hdu2:0≤du∧du≤9999:=by rw[← hdu];exact hRk.2.2.1
 obtain⟨kb,ko,e1,ltk0,-⟩:=E.bk.ks k _ hkr;have hrow:∀{w':World} {S':Blks},iy w S w.heap.size l b B w' S'→kb<w'.heap.size∧w'.cell? ⟨kb,ko+k * 6+3,none⟩=some (.int .i64 du):=λE=>by
  obtain⟨kb',ko',e1',e2,e3⟩:=E.bk.ks k _ hkr;rw[e1]at e1';cases e1';have:=e3 3 _ rfl;exact⟨aA e2 E.bk.hN,by rw[this,← hdu]⟩
 have HDU:=Lib.hid hdu;have E1:=Lib.hid e1;clear hdu e1 ltk0;clear hkr hRk;have SL:=λ{w':World} {S':Blks} (E:iy w S w.heap.size l b B w' S') (cl:Int)=>Qq E.bk hR hk cl du;have hBm:=E.bx.lt;refine iw fit ?_;refine ni fit mixed (by kernel_rfl) (W10 w S l b B wr.heap.size (b.wit k c1 du) (b.wit k c2 du)) [115,126,25,26] (λD x w S τ d h=>h.same ⟨rfl,rfl,rfl⟩) (x₀:=λ_=>undef) (λg hg=>by simp only[List.mem_cons,List.not_mem_nil,or_false]at hg;rcases hg with rfl|rfl|rfl|rfl<;>rfl) ⟨E,ak _,λq=>Bool.noConfusion q,λq=>Bool.noConfusion q,λq=>Bool.noConfusion q,λq=>Bool.noConfusion q,λq=>Bool.noConfusion q⟩ ?_;simp only[aF,aC,aG,Nat.reduceAdd,Nat.zero_add,List.range,List.range.loop]
 iterate 7
  (refine iI (u0:=λ_=>undef) rfl (λ_=>rfl) (λg hg=>by simp only[List.mem_cons,List.not_mem_nil,or_false]at hg;rcases hg with rfl|rfl|rfl|rfl<;>decide) (λg hg=>by simp only[List.mem_cons,List.not_mem_nil,or_false]at hg;rcases hg with rfl|rfl|rfl|rfl<;>rfl) ?_
   apply ah;refine⟨λD x w' S' hm hW K Q hK=>?_,?_⟩
   ·have E:=hW.E;have g0:=E.bx.cell 0;have g1:=E.bx.cell 1;have g2:=E.bx.cell 2;have g3:=E.bx.cell 3;simp at g0 g1 g2 g3;have jL:=E.bx.lt;obtain⟨ltk,k3⟩:=hrow E;simp only[Lift.Act.bQ,Act.put,List.foldl_cons,List.foldl_nil,aj,ay,au];gi_wp2;exact hW.step (by decide) (dN.refl _ _ _)
   apply ah;refine⟨λx=>?_,?_⟩
   ·simp only[Lift.Act.bQ,Act.put,List.foldl_cons,List.foldl_nil,aj,ay,au];rfl)
 iterate 1
  (refine iI (u0:=λ_=>undef) rfl (λ_=>rfl) (λg hg=>by simp only[List.mem_cons,List.not_mem_nil,or_false]at hg;rcases hg with rfl|rfl|rfl|rfl<;>decide) (λg hg=>by simp only[List.mem_cons,List.not_mem_nil,or_false]at hg;rcases hg with rfl|rfl|rfl|rfl<;>rfl) ?_
   apply ah;refine⟨λD x w' S' hm hW K Q hK=>?_,?_⟩
   ·have E:=hW.E;have g0:=E.bx.cell 0;have g1:=E.bx.cell 1;have g2:=E.bx.cell 2;have g3:=E.bx.cell 3;simp at g0 g1 g2 g3;have jL:=E.bx.lt;obtain⟨ltk,k3⟩:=hrow E;simp only[Lift.Act.bQ,Act.put,List.foldl_cons,List.foldl_nil,aj,ay,au];have HK:=Lib.hid hK;clear hK;rw[E1.out];gi_wp2;rw[← E1.out];refine HK.out _ ?_;exact hW.step (by decide) (dN.refl _ _ _)
   apply ah;refine⟨λx=>?_,?_⟩
   ·simp only[Lift.Act.bQ,Act.put,List.foldl_cons,List.foldl_nil,aj,ay,au];rfl)
 iterate 2
  (refine iI (u0:=λ_=>undef) rfl (λ_=>rfl) (λg hg=>by simp only[List.mem_cons,List.not_mem_nil,or_false]at hg;rcases hg with rfl|rfl|rfl|rfl<;>decide) (λg hg=>by simp only[List.mem_cons,List.not_mem_nil,or_false]at hg;rcases hg with rfl|rfl|rfl|rfl<;>rfl) ?_
   apply ah;refine⟨λD x w' S' hm hW K Q hK=>?_,?_⟩
   ·have E:=hW.E;have g0:=E.bx.cell 0;have g1:=E.bx.cell 1;have g2:=E.bx.cell 2;have g3:=E.bx.cell 3;simp at g0 g1 g2 g3;have jL:=E.bx.lt;obtain⟨ltk,k3⟩:=hrow E;simp only[Lift.Act.bQ,Act.put,List.foldl_cons,List.foldl_nil,aj,ay,au];gi_wp2;exact hW.step (by decide) (dN.refl _ _ _)
   apply ah;refine⟨λx=>?_,?_⟩
   ·simp only[Lift.Act.bQ,Act.put,List.foldl_cons,List.foldl_nil,aj,ay,au];rfl)
 refine iJ (u0:=undef) 115 (by simp) rfl (λ_=>rfl) rfl rfl (λD x w' S' hm hW K Q hK=>?_) ?_
 ·have hc:=SL hW.E ((c1:Nat):Int);simp only[Lift.Act.bQ,Act.put,List.foldl_cons,List.foldl_nil,aj,ay,au]at hK ⊢
  gi_wp2_with (gi_at_call 14;refine hc.mono ?_;rintro r w3 ⟨⟨u,rfl,hu⟩,hb⟩)
  exact hW.one hb hu
 iterate 7
  (refine iI (u0:=λ_=>undef) rfl (λ_=>rfl) (λg hg=>by simp only[List.mem_cons,List.not_mem_nil,or_false]at hg;rcases hg with rfl|rfl|rfl|rfl<;>decide) (λg hg=>by simp only[List.mem_cons,List.not_mem_nil,or_false]at hg;rcases hg with rfl|rfl|rfl|rfl<;>rfl) ?_
   apply ah;refine⟨λD x w' S' hm hW K Q hK=>?_,?_⟩
   ·have E:=hW.E;have g0:=E.bx.cell 0;have g1:=E.bx.cell 1;have g2:=E.bx.cell 2;have g3:=E.bx.cell 3;simp at g0 g1 g2 g3;have jL:=E.bx.lt;obtain⟨ltk,k3⟩:=hrow E;simp only[Lift.Act.bQ,Act.put,List.foldl_cons,List.foldl_nil,aj,ay,au];gi_wp2;exact hW.step (by decide) (dN.refl _ _ _)
   apply ah;refine⟨λx=>?_,?_⟩
   ·simp only[Lift.Act.bQ,Act.put,List.foldl_cons,List.foldl_nil,aj,ay,au];rfl)
 iterate 1
  (refine iI (u0:=λ_=>undef) rfl (λ_=>rfl) (λg hg=>by simp only[List.mem_cons,List.not_mem_nil,or_false]at hg;rcases hg with rfl|rfl|rfl|rfl<;>decide) (λg hg=>by simp only[List.mem_cons,List.not_mem_nil,or_false]at hg;rcases hg with rfl|rfl|rfl|rfl<;>rfl) ?_
   apply ah;refine⟨λD x w' S' hm hW K Q hK=>?_,?_⟩
   ·have E:=hW.E;have g0:=E.bx.cell 0;have g1:=E.bx.cell 1;have g2:=E.bx.cell 2;have g3:=E.bx.cell 3;simp at g0 g1 g2 g3;have jL:=E.bx.lt;obtain⟨ltk,k3⟩:=hrow E;simp only[Lift.Act.bQ,Act.put,List.foldl_cons,List.foldl_nil,aj,ay,au];have HK:=Lib.hid hK;clear hK;rw[E1.out];gi_wp2;rw[← E1.out];refine HK.out _ ?_;exact hW.step (by decide) (dN.refl _ _ _)
   apply ah;refine⟨λx=>?_,?_⟩
   ·simp only[Lift.Act.bQ,Act.put,List.foldl_cons,List.foldl_nil,aj,ay,au];rfl)
 iterate 2
  (refine iI (u0:=λ_=>undef) rfl (λ_=>rfl) (λg hg=>by simp only[List.mem_cons,List.not_mem_nil,or_false]at hg;rcases hg with rfl|rfl|rfl|rfl<;>decide) (λg hg=>by simp only[List.mem_cons,List.not_mem_nil,or_false]at hg;rcases hg with rfl|rfl|rfl|rfl<;>rfl) ?_
   apply ah;refine⟨λD x w' S' hm hW K Q hK=>?_,?_⟩
   ·have E:=hW.E;have g0:=E.bx.cell 0;have g1:=E.bx.cell 1;have g2:=E.bx.cell 2;have g3:=E.bx.cell 3;simp at g0 g1 g2 g3;have jL:=E.bx.lt;obtain⟨ltk,k3⟩:=hrow E;simp only[Lift.Act.bQ,Act.put,List.foldl_cons,List.foldl_nil,aj,ay,au];gi_wp2;exact hW.step (by decide) (dN.refl _ _ _)
   apply ah;refine⟨λx=>?_,?_⟩
   ·simp only[Lift.Act.bQ,Act.put,List.foldl_cons,List.foldl_nil,aj,ay,au];rfl)
 refine iJ (u0:=undef) 126 (by simp) rfl (λ_=>rfl) rfl rfl (λD x w' S' hm hW K Q hK=>?_) ?_
 ·have hc:=SL hW.E ((c2:Nat):Int);simp only[Lift.Act.bQ,Act.put,List.foldl_cons,List.foldl_nil,aj,ay,au]at hK ⊢
  gi_wp2_with (gi_at_call 14;refine hc.mono ?_;rintro r w3 ⟨⟨u,rfl,hu⟩,hb⟩)
  exact hW.two hb hu
 refine iJ (u0:=undef) 25 (by simp) rfl (λ_=>rfl) rfl rfl (λD x w' S' hm hW K Q hK=>?_) ?_
 ·simp only[Lift.Act.bQ,Act.put,List.foldl_cons,List.foldl_nil,aj,ay,au]at hK ⊢;gi_wp2;exact hW.box1 (hm.2.2 24 (by kernel_rfl))
 refine iJ (u0:=undef) 26 (by simp) rfl (λ_=>rfl) rfl rfl (λD x w' S' hm hW K Q hK=>?_) ?_
 ·simp only[Lift.Act.bQ,Act.put,List.foldl_cons,List.foldl_nil,aj,ay,au]at hK ⊢;gi_wp2;exact hW.box2 (hm.2.2 25 (by kernel_rfl))
 refine x9 rfl (λ_=>rfl) rfl (λD x w' S' hm hW K Q hK=>?_) ?_
 ·obtain⟨p,C0,C1,C2,C3,hp,hmp,hbp,-⟩:=hW.p1 (hm.2.1 22 (by kernel_rfl));have hk2:=hW.a1 (hm.2.1 10 (by kernel_rfl));obtain⟨gg,gc,cur,hu,hu2⟩:=id hk2;have p0:=hbp.cell 0;have p1:=hbp.cell 1;have p2:=hbp.cell 2;have p3:=hbp.cell 3;have f0:=hbp.frozen 0;have f1:=hbp.frozen 1;have f2:=hbp.frozen 2;have f3:=hbp.frozen 3;have ltp:=hbp.lt;simp at p0 p1 p2 p3;have hfin:=hW.put1 h0w hBm (hm.2.1 22 (by kernel_rfl)) hp hbp hmp (by rw[← hu];exact hk2);simp only[Lift.Act.bQ,Act.put,List.foldl_cons,List.foldl_nil,aj,ay,au]at hK ⊢;rw[hp,hu];rw[hp,hu]at hK;clear hu hp hk2 hu2;gi_wp2;exact hfin
 refine x9 rfl (λ_=>rfl) rfl (λD x w' S' hm hW K Q hK=>?_) ?_
 ·obtain⟨p,C0,C1,C2,C3,hp,hmp,hbp,-⟩:=hW.p2 (hm.2.1 23 (by kernel_rfl));have hk2:=hW.a2 (hm.2.1 21 (by kernel_rfl));obtain⟨gg,gc,cur,hu,hu2⟩:=id hk2;have p0:=hbp.cell 0;have p1:=hbp.cell 1;have p2:=hbp.cell 2;have p3:=hbp.cell 3;have f0:=hbp.frozen 0;have f1:=hbp.frozen 1;have f2:=hbp.frozen 2;have f3:=hbp.frozen 3;have ltp:=hbp.lt;simp at p0 p1 p2 p3;have hfin:=hW.put2 h0w hBm (hm.2.1 23 (by kernel_rfl)) hp hbp hmp (by rw[← hu];exact hk2);simp only[Lift.Act.bQ,Act.put,List.foldl_cons,List.foldl_nil,aj,ay,au]at hK ⊢;rw[hp,hu];rw[hp,hu]at hK;clear hu hp hk2 hu2;gi_wp2;exact hfin
 rintro x w8 S8 hW;obtain⟨p1,A0,A1,A2,A3,hp1,-,hb1,hw1⟩:=hW.p1 rfl;obtain⟨p2,C0,C1,C2,C3,hp2,-,hb2,hw2⟩:=hW.p2 rfl;replace hw1:=hw1 rfl;replace hw2:=hw2 rfl;simp only[Lift.Act.bQ,Act.put,List.foldl_cons,List.foldl_nil,aj,ay,au];rw[hp1,hp2];generalize x 115=y115;generalize x 126=y126;have E:=hW.E;have hv1:=hw1.in_ E.bk;have hv2:=hw2.in_ E.bk;clear hW hp1 hp2 SL hrow hw1 hw2;have hd1:(0:Int)≤n∧(n:Int)≤9999:=by omega
 have q1:(0:Int)≤c1∧(c1:Int)≤45:=by omega
 have q2:(0:Int)≤c2∧(c2:Int)≤45:=by omega
 have hcc:(c2:Int)≤c1:=by omega
 have hR1:=kT hR hst hk q1 hdu2;have hR2:=kT hR hst hk q2 hdu2;have hfe:=wit_fee (du:=du) hR hk hcc (n:Int);have fe1:=λ{w'} (h:qy l (b.wit k c1 du) (.agg #[A0,A1,A2,A3]) w')=>h.fee hR1 (k:=k) (by rw[vH];exact hk) hd1.1 hd1.2;have fe2:=λ{w'} (h:qy l (b.wit k c2 du) (.agg #[C0,C1,C2,C3]) w')=>h.fee hR2 (k:=k) (by rw[vH];exact hk) hd1.1 hd1.2;generalize ((b.wit k c1 du).to.fee k n).1=f1 at hfe fe1;generalize ((b.wit k c1 du).to.fee k n).2=a1 at hfe fe1;generalize ((b.wit k c2 du).to.fee k n).1=f2 at hfe fe2;generalize ((b.wit k c2 du).to.fee k n).2=a2 at hfe fe2;obtain⟨hfe,rfl⟩:=hfe;refine fJ λwr hs=>?_;replace E:=E.same hs;replace hb1:=hb1.grow (hs.g _) hb1.lt;replace hb2:=hb2.grow (hs.g _) hb2.lt;replace hv1:=hv1.grow (hs.g _);replace hv2:=hv2.grow (hs.g _);clear hs;have hf:=fe1 hv1;have z0:=hb1.cell 0;have z1:=hb1.cell 1;have z2:=hb1.cell 2;have z3:=hb1.cell 3;simp at z0 z1 z2 z3;have ltz:=hb1.lt
 gi_wp2_with (gi_at_call 23;refine hf.mono ?_;rintro r w9 ⟨rfl,hbb⟩)
 replace E:=E.below hbb;replace hb1:=hb1.below hbb;replace hb2:=hb2.below hbb;replace hv1:=hv1.grow (Grow.of hbb);replace hv2:=hv2.grow (Grow.of hbb);clear hbb z0 z1 z2 z3 ltz hf;refine fJ λwr hs=>?_;replace E:=E.same hs;replace hb1:=hb1.grow (hs.g _) hb1.lt;replace hb2:=hb2.grow (hs.g _) hb2.lt;replace hv1:=hv1.grow (hs.g _);replace hv2:=hv2.grow (hs.g _);clear hs;have hf:=fe2 hv2;have z0:=hb2.cell 0;have z1:=hb2.cell 1;have z2:=hb2.cell 2;have z3:=hb2.cell 3;simp at z0 z1 z2 z3;have ltz:=hb2.lt
 gi_wp2_with (gi_at_call 23;refine hf.mono ?_;rintro r w10 ⟨rfl,hbb⟩)
 replace E:=E.below hbb;replace hb1:=hb1.below hbb;replace hb2:=hb2.below hbb;replace hv1:=hv1.grow (Grow.of hbb);replace hv2:=hv2.grow (Grow.of hbb);clear hbb z0 z1 z2 z3 ltz hf fe1 fe2;refine iw fit (pY fit ?_);simp only[aF,aC,aG,Nat.reduceAdd,List.range,List.range.loop]
 iterate 17
  refine bD rfl rfl λwr hs=>?_;replace E:=E.same hs;replace hb1:=hb1.grow (hs.g _) hb1.lt;replace hb2:=hb2.grow (hs.g _) hb2.lt;replace hv1:=hv1.grow (hs.g _);replace hv2:=hv2.grow (hs.g _);clear hs;gi_wp2
 refine bD rfl rfl λwr hs=>?_;replace E:=E.same hs;replace hb1:=hb1.grow (hs.g _) hb1.lt;replace hb2:=hb2.grow (hs.g _) hb2.lt;replace hv1:=hv1.grow (hs.g _);replace hv2:=hv2.grow (hs.g _);clear hs;have z0:=hb1.cell 0;have z1:=hb1.cell 1;have z2:=hb1.cell 2;have z3:=hb1.cell 3;simp at z0 z1 z2 z3;have ltz:=hb1.lt;gi_wp2;clear z0 z1 z2 z3 ltz;refine bD rfl rfl λwr hs=>?_;replace E:=E.same hs;replace hb1:=hb1.grow (hs.g _) hb1.lt;replace hb2:=hb2.grow (hs.g _) hb2.lt;replace hv1:=hv1.grow (hs.g _);replace hv2:=hv2.grow (hs.g _);clear hs;have z0:=hb2.cell 0;have z1:=hb2.cell 1;have z2:=hb2.cell 2;have z3:=hb2.cell 3;simp at z0 z1 z2 z3;have ltz:=hb2.lt;gi_wp2;clear z0 z1 z2 z3 ltz;refine bD rfl rfl λwr hs=>?_;replace E:=E.same hs;replace hb1:=hb1.grow (hs.g _) hb1.lt;replace hb2:=hb2.grow (hs.g _) hb2.lt;replace hv1:=hv1.grow (hs.g _);replace hv2:=hv2.grow (hs.g _);clear hs;have hl:=hv1.lasts hv2 E.kd hR hst hk q1 q2 hdu2 hdu2 hcc (Int.le_refl _)
 gi_wp2_with (gi_at_call 13;refine hl.mono ?_;rintro e w3 ⟨rfl,hbb⟩)
 replace E:=E.below hbb;clear hl hb1 hb2 hv1 hv2 hbb
 iterate 2
  refine bD rfl rfl λwr hs=>?_;replace E:=E.same hs;clear hs;gi_wp2
 refine pK rfl rfl rfl Tryz.func11 (by kernel_rfl) QY (vals:=#[]) (by simp) (TW E.kd (Nat.le_trans hlim E.g.size)) ?_;rintro u w5 S5 ⟨rfl,hg5⟩;replace E:=E.grow hg5;clear hg5
 iterate 2
  refine bD rfl rfl λwr hs=>?_;replace E:=E.same hs;clear hs;gi_wp2
 refine oG fit ?_;refine G7 fit ?_;exact⟨rfl,.bool true,λτ d=>by rw[results_tmp rfl];rfl,rfl,E.g⟩
end
