/- FeeTerms, beside leavers. PRINTED BY A PROGRAM (law3.py). -/
import Derived.Test.YtccjdkghgbbliaaGreatDoorA42
import Derived.Test.YtccjdkghgbbliaaGreatDoorA44
set_option linter.all false
namespace Go.Proofs.YtccjdkghgbbliaaGreatDoor
section
set_option maxHeartbeats 1000000
set_option maxRecDepth 10000
open Go Go.Conc Go.RowKit Lift
structure uS (N:Nat) (f:bM) (X:Nat) (w:World):Prop where
 at_:fP N f w
 bx:Blk w X 37 f.arr
 ln:iR w
theorem fF.grow{N:Nat}{f:bM}{w w':World}(h:fF N f w)(hg:Grow w.heap.size w w'):fF N f w':=⟨Nat.le_trans h.hN hg.size,h.ls.grow h.hN hg,h.ss.grow h.hN hg⟩
theorem fP.grow{N:Nat}{f:bM}{w w':World}(h:fP N f w)(hg:Grow w.heap.size w w'):fP N f w':=
 ⟨h.cal.grow hg,h.rs.grow h.cal.hN hg,λa ha=>let q:=h.at_ a ha;⟨q.ps.grow h.cal.hN hg,q.cs.grow h.cal.hN hg,λc hc=>⟨(q.cl c hc).is.grow h.cal.hN hg⟩,q.ds.grow h.cal.hN hg⟩⟩
theorem iR.grow{w w':World}(h:iR w)(hg:Grow w.heap.size w w'):iR w':=λj hj=>by
 have:=h j hj;unfold World.cell? at this ⊢;rw[hg.block 1 h.lt];exact this
theorem uS.grow{N X:Nat}{f:bM}{w w':World}(h:uS N f X w)(hg:Grow w.heap.size w w'):uS N f X w':=⟨h.at_.grow hg,h.bx.grow hg h.bx.lt,h.ln.grow hg⟩
theorem uS.same{N X:Nat}{f:bM}{w w':World}(h:uS N f X w)(hs:gU w w'):uS N f X w':=h.grow (hs.g _)
theorem uS.below{N X:Nat}{f:bM}{w w':World}(h:uS N f X w)(hb:Below w.heap.size w w'):uS N f X w':=h.grow (Grow.of hb)
theorem jP[Keep]{w0 w:World}{S0 S:Blks}{M B N X:Nat}{l:Lay}{b:aN}{f:bM}{x y:Code}{Q:Qr}{a:Act}(E:jU w0 S0 M l b B w S)(F:uS N f X w)
  (h:∀wr,jU w0 S0 M l b B wr S→uS N f X wr→x.wpIn Fz 0 Tryz.prog (λe a' w''=>Ei (λa w S=>wpR Tryz.prog Inside y Q a w S) Q e a' w'' S) a wr):wpR Tryz.prog Inside (.seq x y) Q a w S:=
 iK λwr hs=>h wr (E.same hs) (F.same hs)
def W11(w0:World)(S0:Blks)(N:Nat)(l:Lay)(b:aN)(B k:Nat)(c1 d1 c2 d2:Int)(i1 i2 g1 g2:Nat):Wmr:=λD x w S=>jU w0 S0 N l b B w S∧(D i1=true→xC l (b.wit k c1 d1) (x g1) w)∧(D i2=true→xC l (b.wit k c2 d2) (x g2) w)
section
variable {w0 w w':World} {S0 S S':Blks} {N B k i1 i2 g1 g2 i:Nat} {l:Lay} {b:aN} {c1 d1 c2 d2:Int} {D:Nat→Bool} {x:Tmp→Value} {u:Value}
theorem uU{j:Nat}(h:i≠j):bI D i j=D j:=by simp[bI,Ne.symm h]
theorem W11.step(h:W11 w0 S0 N l b B k c1 d1 c2 d2 i1 i2 g1 g2 D x w S)(hi1:i≠i1)(hi2:i≠i2)(hg:dS w.heap.size w S w' S'):W11 w0 S0 N l b B k c1 d1 c2 d2 i1 i2 g1 g2 (bI D i) x w' S':=by
 refine⟨h.1.grow hg,λq=>?_,λq=>?_⟩
 ·rw[uU hi1]at q;exact(h.2.1 q).grow hg.toGrow
 ·rw[uU hi2]at q;exact(h.2.2 q).grow hg.toGrow
theorem W11.one(h:W11 w0 S0 N l b B k c1 d1 c2 d2 i1 i2 g1 g2 D x w S)(hi:i1≠i2)(hgg:g1≠g2)(hb:Below w.heap.size w w')(hu:xC l (b.wit k c1 d1) u w'):W11 w0 S0 N l b B k c1 d1 c2 d2 i1 i2 g1 g2 (bI D i1) (uP x g1 u) w' S:=by
 refine⟨h.1.below hb,λq=>?_,λq=>?_⟩
 ·unfold uP;rw[if_pos rfl];exact hu
 ·rw[uU hi]at q;unfold uP;rw[if_neg (Ne.symm hgg)];exact(h.2.2 q).grow (Grow.of hb)
theorem W11.two(h:W11 w0 S0 N l b B k c1 d1 c2 d2 i1 i2 g1 g2 D x w S)(hi:i1≠i2)(hgg:g1≠g2)(hb:Below w.heap.size w w')(hu:xC l (b.wit k c2 d2) u w'):W11 w0 S0 N l b B k c1 d1 c2 d2 i1 i2 g1 g2 (bI D i2) (uP x g2 u) w' S:=by
 refine⟨h.1.below hb,λq=>?_,λq=>?_⟩
 ·rw[uU (Ne.symm hi)]at q;unfold uP;rw[if_neg hgg];exact(h.2.1 q).grow (Grow.of hb)
 ·unfold uP;rw[if_pos rfl];exact hu
theorem W11.lasts(h:W11 w0 S0 N l b B k c1 d1 c2 d2 i1 i2 g1 g2 D x w S)(q1:D i1=true)(q2:D i2=true)(hR:b.Right)(hst:∀p∈b.ps,p.kind≠2)(hk:k<b.cs.length)(h1:0≤c1∧c1≤45)(h2:0≤c2∧c2≤45)(hd1:0≤d1∧d1≤9999)(hd2:0≤d2∧d2≤9999)(hc:c2≤c1)(hd:d1≤d2) :
  CallsIn Fz 0 Tryz.prog 13 #[x g1,x g2] w λe w'=>e=.returned (.bool true)∧Below w.heap.size w w':=by
 obtain⟨ga,ca,e1,hb1⟩:=h.2.1 q1;obtain⟨gb,cb,e2,hb2⟩:=h.2.2 q2;have hR1:=rW hR hst hk h1 hd1;have hR2:=rW hR hst hk h2 hd2;have:=RF (hb1.to hR1) (hb2.to hR2) hR1.full hR2.full h.1.kd (by simp[aN.to,LU]) (Pq hR hst hk h1 h2 hd1 hd2 hc hd);rw[aN.TA,aN.TA]at this;rw[e1,e2];exact this
end
set_option maxHeartbeats 256000000 in
set_option maxRecDepth 1000000 in
theorem law3[Keep]{w:World}{l:Lay}{b:aN}{f:bM}(hbk:bQ w.heap.size l b w)(hcap:b.aK.length≤l.cc)(hfl:fP w.heap.size f w)(hkd:bJ w)(hln:iR w)(hlim:Keep.lim≤w.heap.size){c st la co mo un:Int}(c0:0≤c)(c1:c≤255)(st0:0≤st)(st1:st≤65535)(la0:0≤la)(la1:la≤65535)(co0:0≤co)(co1:co≤255)(mo0:0≤mo)(mo1:mo≤255)(un0:0≤un)(un1:un≤255) :
  Raw Tryz.prog (rC Tryz.prog 3 Tryz.f3 λv w1 S1=>v=.bool true∧dS w.heap.size w (λ_=>False) w1 S1) (G (Frame.enter Tryz.prog 3 #[.agg (l.bG b),.agg f.arr,.int .u8 c,.int .u16 st,.int .u16 la,.int .u8 co,.int .u8 mo,.int .u8 un] .normal) []) w (λ_=>False):=by
 refine Lj fit (by simp) Tryz.func3 rfl ?_;generalize (λ_=>False:Blks)=S;simp only[Tryz.ntmps3,aF,aC,aG,Nat.reduceAdd,Nat.reduceSub,Array.replicate_succ,Array.replicate_zero,List.push_toArray,List.append_toArray,List.nil_append,List.cons_append];refine iK λwa hs=>?_;gi_wp2;have hsz:wa.heap.size=w.heap.size:=by rw[hs.heap]
 have hba:Below wa.heap.size wa ((wa.alloc (.cells (l.bG b) 27)).alloc (.cells f.arr 37)):=((Below.refl _ wa).alloc (aj _) _).alloc (by simp) _;have hg:Grow w.heap.size w ((wa.alloc (.cells (l.bG b) 27)).alloc (.cells f.arr 37)):=hs.grow (hba.mono (by omega))
 have E:jU w S w.heap.size l b wa.heap.size ((wa.alloc (.cells (l.bG b) 27)).alloc (.cells f.arr 37)) S:=
  ⟨hg.s,hbk.grow hg,(Blk.new wa (l.bG b) 27).below ((Below.refl _ _).alloc (aj _) _),by omega,hkd.grow hg hkd.lt⟩
 have F:uS w.heap.size f (wa.heap.size+1) ((wa.alloc (.cells (l.bG b) 27)).alloc (.cells f.arr 37)):=
  ⟨hfl.grow hg,by have:=Blk.new (wa.alloc (.cells (l.bG b) 27)) f.arr 37;simpa using this,hln.grow hg⟩
 clear hs hbk hkd hfl hln hg hba hsz;generalize (wa.alloc (.cells (l.bG b) 27)).alloc (.cells f.arr 37)=W at *;generalize wa.heap.size=B at *;refine gX fit ?_;refine jP E F λwb E F=>?_;have g0:=E.bx.cell 0;have g1:=E.bx.cell 1;have g2:=E.bx.cell 2;have g3:=E.bx.cell 3;simp at g0 g1 g2 g3;have ltB:=E.bx.lt
 gi_wp2_with (first
  |(gi_at_call 8;refine(ask_in E.bk hcap).mono ?_;rintro e w2 ⟨⟨r,rfl,hr⟩,hb2⟩;replace E:=E.below hb2;replace F:=F.below hb2;clear g0 g1 g2 g3 ltB hb2;have g0:=E.bx.cell 0;have g1:=E.bx.cell 1;have g2:=E.bx.cell 2;have g3:=E.bx.cell 3;simp at g0 g1 g2 g3;have ltB:=E.bx.lt;rcases r with _|_)
  |(gi_at_call 9;refine(RV E.bk (hr (by trivial)).1.np).mono ?_;rintro e w3 ⟨⟨q,rfl,hq⟩,hb3⟩;replace E:=E.below hb3;replace F:=F.below hb3;clear g0 g1 g2 g3 ltB hb3;have x0:=F.bx.cell 0;have x1:=F.bx.cell 1;have x2:=F.bx.cell 2;have x3:=F.bx.cell 3;have x4:=F.bx.cell 4;have x5:=F.bx.cell 5;have x6:=F.bx.cell 6;have x7:=F.bx.cell 7;have x8:=F.bx.cell 8;have x9:=F.bx.cell 9;have x10:=F.bx.cell 10;have x11:=F.bx.cell 11;have x12:=F.bx.cell 12;have x13:=F.bx.cell 13;have x14:=F.bx.cell 14;simp at x0 x1 x2 x3 x4 x5 x6 x7 x8 x9 x10 x11 x12 x13 x14;have ltX:=F.bx.lt;rcases q with _|_)
  |(gi_at_call 10;refine(FitF_in F.at_).mono ?_;rintro e w4 ⟨⟨z,rfl,hz⟩,hb4⟩;clear x0 x1 x2 x3 x4 x5 x6 x7 x8 x9 x10 x11 x12 x13 x14 ltX;replace E:=E.below hb4;replace F:=F.below hb4;clear hb4;rcases z with _|_))
 all_goals try
  (refine qN fit (t:=true) rfl ?_
   simp only[if_true];refine gX fit (o9 fit ?_);simp only[aF,aC,aG,Nat.reduceAdd,List.range,List.range.loop];refine oU rfl rfl rfl Tryz.func11 (by kernel_rfl) Jy (vals:=#[]) (by simp) (Lc E.kd (Nat.le_trans hlim E.g.size)) ?_;rintro u w5 S5 ⟨rfl,hg5⟩;replace E:=E.grow hg5;clear hg5;refine dA rfl rfl λwr hs=>?_;replace E:=E.same hs;clear hs;gi_wp2;refine nR fit ?_;refine zh fit ?_;exact⟨rfl,.bool true,λτ d=>by rw[results_tmp rfl];rfl,rfl,E.g⟩)
 obtain⟨hR,hpos⟩:=hr (by trivial);obtain⟨hT,hok⟩:=hz (by trivial);have hst:=hq (by trivial);clear hr hz hq;refine qN fit (t:=false) rfl ?_;simp only[Bool.false_eq_true,if_false];refine BH fit ?_;obtain⟨k,ek⟩:∃k:Nat,c % (b.cs.length:Int)=k:=⟨(c % (b.cs.length:Int)).toNat,by have:=Int.emod_nonneg c (show(b.cs.length:Int)≠0 by omega);omega⟩
 have hk:k<b.cs.length:=by have:=Int.emod_lt_of_pos c (show(0:Int)<b.cs.length by omega);omega
 obtain⟨u,eu⟩:∃u:Nat,un % 3=u:=⟨(un % 3).toNat,by omega⟩
 obtain⟨d,ed⟩:∃d:Nat,st % 3000=d:=⟨(st % 3000).toNat,by omega⟩
 obtain⟨e,ee⟩:∃e:Nat,la % 300=e:=⟨(la % 300).toNat,by omega⟩
 obtain⟨n,en⟩:∃n:Nat,co % 60=n:=⟨(co % 60).toNat,by omega⟩
 obtain⟨m,em⟩:∃m:Nat,mo % 10=m:=⟨(mo % 10).toNat,by omega⟩
 have hz':¬((b.cs.length:Int)=0):=by omega
 refine jP E F λwr E F=>?_;have g0:=E.bx.cell 0;have g1:=E.bx.cell 1;have g2:=E.bx.cell 2;have g3:=E.bx.cell 3;simp at g0 g1 g2 g3;have ltB:=E.bx.lt;gi_wp2;clear g0 g1 g2 g3 ltB;simp only[ek,ed];have hls:=hT.ls;have hu:u<3:=by omega
 have hd:d<3000:=by omega
 have he:e<300:=by omega
 have hn:n<60:=by omega
 have hm:m<10:=by omega
 replace hok:=hok.1;clear ek ed eu hz';have hcall:=λw' (hF:uS w.heap.size f (B+1) w')=>L8 hF.at_.cal hok hF.ln (by omega) u d n (by omega) (by omega) (by omega);have J5:=λw' (hF:uS w.heap.size f (B+1) w')=>L8 hF.at_.cal hok hF.ln (by omega) u (d+e) (n+m) (by omega) (by omega) (by omega);have hmono:zN f.ig u d n≤zN f.ig u (d+e) (n+m):=JJ (by omega) (by omega);obtain⟨one,h1⟩:∃one,zN f.ig u d n=one:=⟨_,rfl⟩
 obtain⟨two,h2⟩:∃two,zN f.ig u (d+e) (n+m)=two:=⟨_,rfl⟩
 rw[h1,h2]at hmono;simp only[h1,← en]at hcall;simp only[h2,Int.natCast_add,← en,← em,← ee]at J5;clear h1 h2 en em ee;refine jP E F λwr E F=>?_;have x0:=F.bx.cell 0;have x1:=F.bx.cell 1;simp at x0 x1;have ltX:=F.bx.lt
 gi_wp2_with (gi_at_call 12;refine(hcall _ F).mono ?_;rintro e w4 ⟨rfl,hb4⟩)
 replace E:=E.below hb4;replace F:=F.below hb4;clear x0 x1 ltX hb4 hcall;refine jP E F λwr E F=>?_;have x0:=F.bx.cell 0;have x1:=F.bx.cell 1;simp at x0 x1;have ltX:=F.bx.lt
 gi_wp2_with (gi_at_call 12;refine(J5 _ F).mono ?_;rintro e w4 ⟨rfl,hb4⟩)
 replace E:=E.below hb4;replace F:=F.below hb4;clear x0 x1 ltX hb4 J5;have q1:¬((one:Int)<0):=by omega
 have q2:¬((two:Int)<one):=by omega
 refine gX fit ?_;refine jP E F λwr E F=>?_;gi_wp2;refine qN fit (t:=false) rfl ?_;simp only[Bool.false_eq_true,if_false];refine BH fit ?_;clear q1 q2;refine gX fit ?_;by_cases hbig:(9999:Int)<two
 ·refine jP E F λwr E F=>?_;gi_wp2;refine qN fit (t:=true) rfl ?_;simp only[if_true];refine gX fit (o9 fit ?_);simp only[aF,aC,aG,Nat.reduceAdd,List.range,List.range.loop];refine oU rfl rfl rfl Tryz.func11 (by kernel_rfl) Jy (vals:=#[]) (by simp) (Lc E.kd (Nat.le_trans hlim E.g.size)) ?_;rintro u w5 S5 ⟨rfl,hg5⟩;replace E:=E.grow hg5;clear hg5;refine dA rfl rfl λwr hs=>?_;replace E:=E.same hs;clear hs;gi_wp2;refine nR fit ?_;refine zh fit ?_;exact⟨rfl,.bool true,λτ d=>by rw[results_tmp rfl];rfl,rfl,E.g⟩
 ·refine jP E F λwr E F=>?_;gi_wp2;refine qN fit (t:=false) rfl ?_;simp only[Bool.false_eq_true,if_false];refine BH fit ?_;have hkr:(b.cs.map gu.row)[k]?=some (b.aP k).row:=by rw[List.getElem?_map,List.getElem?_eq_getElem hk,dN hk];rfl
  refine jP E F λwr E F=>?_;obtain⟨kb,ko,e1,e2,e3⟩:=E.bk.ks k _ hkr;have k2:=e3 2 _ rfl;have ltk:=aA e2 E.bk.hN;have g0:=E.bx.cell 0;have g1:=E.bx.cell 1;have g2:=E.bx.cell 2;have g3:=E.bx.cell 3;simp at g0 g1 g2 g3;have ltB:=E.bx.lt;rw[e1]at g2;have E1:=Lib.hid e1;clear e1 e3 e2;obtain⟨cl,hcl⟩:∃cl,(b.aP k).classes=cl:=⟨_,rfl⟩
  rw[hcl]at k2;have HC:=Lib.hid hcl;clear hcl;have hkk:(k:Int)<b.cs.length:=by omega
  gi_wp2;clear g0 g1 g2 g3 ltB;have hR':=hR.k (b.aP k) (by rw[dN hk];exact List.getElem_mem _);have hcl:0≤cl∧cl≤45:=by rw[← HC.out];exact hR'.2.1
  have hone:(0:Int)≤one∧(one:Int)≤9999:=by omega
  have htwo:(0:Int)≤two∧(two:Int)≤9999:=by omega
  have h12:(one:Int)≤two:=by omega
  simp only[Ei];refine gX fit ?_;refine wF fit mixed (by kernel_rfl) (W11 w S w.heap.size l b B k cl one cl two 4 9 110 115) [110,115] (λD x w S τ d h=>⟨h.1.same ⟨rfl,rfl,rfl⟩,λq=>(h.2.1 q).grow ((⟨rfl,rfl,rfl⟩:gU w (bD w τ d)).g _),λq=>(h.2.2 q).grow ((⟨rfl,rfl,rfl⟩:gU w (bD w τ d)).g _)⟩) (x₀:=λ_=>undef) (λg hg=>by simp only[List.mem_cons,List.not_mem_nil,or_false]at hg;rcases hg with rfl|rfl<;>rfl) ⟨E,λq=>Bool.noConfusion q,λq=>Bool.noConfusion q⟩ ?_;simp only[aF,aC,aG,Nat.reduceAdd,Nat.zero_add,List.range,List.range.loop]
  iterate 4
   (refine nC (u0:=λ_=>undef) rfl (λ_=>rfl) (λg hg=>by simp only[List.mem_cons,List.not_mem_nil,or_false]at hg;rcases hg with rfl|rfl<;>decide) (λg hg=>by simp only[List.mem_cons,List.not_mem_nil,or_false]at hg;rcases hg with rfl|rfl<;>rfl) ?_
    apply ah;refine⟨λD x w' S' hm hW K Q hK=>?_,?_⟩
    ·have E:=hW.1;have g0:=E.bx.cell 0;have g1:=E.bx.cell 1;have g2:=E.bx.cell 2;have g3:=E.bx.cell 3;simp at g0 g1 g2 g3;have ltB:=E.bx.lt;simp only[Lift.Act.bU,Act.put,List.foldl_cons,List.foldl_nil,ak,ay,au];gi_wp2;exact hW.step (by decide) (by decide) (dS.refl _ _ _)
    apply ah;refine⟨λx=>rfl,?_⟩)
  refine Dx (u0:=undef) 110 (by simp) rfl (λ_=>rfl) rfl rfl (λD x w' S' hm hW K Q hK=>?_) ?_
  ·have hc:=Jj hW.1.bk hR hk cl one;simp only[Lift.Act.bU,Act.put,List.foldl_cons,List.foldl_nil,ak,ay,au]at hK ⊢
   gi_wp2_with (gi_at_call 14;refine hc.mono ?_;rintro e w3 ⟨⟨v,rfl,hv⟩,hb⟩)
   exact hW.one (by decide) (by decide) hb hv
  iterate 4
   (refine nC (u0:=λ_=>undef) rfl (λ_=>rfl) (λg hg=>by simp only[List.mem_cons,List.not_mem_nil,or_false]at hg;rcases hg with rfl|rfl<;>decide) (λg hg=>by simp only[List.mem_cons,List.not_mem_nil,or_false]at hg;rcases hg with rfl|rfl<;>rfl) ?_
    apply ah;refine⟨λD x w' S' hm hW K Q hK=>?_,?_⟩
    ·have E:=hW.1;have g0:=E.bx.cell 0;have g1:=E.bx.cell 1;have g2:=E.bx.cell 2;have g3:=E.bx.cell 3;simp at g0 g1 g2 g3;have ltB:=E.bx.lt;simp only[Lift.Act.bU,Act.put,List.foldl_cons,List.foldl_nil,ak,ay,au];gi_wp2;exact hW.step (by decide) (by decide) (dS.refl _ _ _)
    apply ah;refine⟨λx=>rfl,?_⟩)
  refine Dx (u0:=undef) 115 (by simp) rfl (λ_=>rfl) rfl rfl (λD x w' S' hm hW K Q hK=>?_) ?_
  ·have hc:=Jj hW.1.bk hR hk cl two;simp only[Lift.Act.bU,Act.put,List.foldl_cons,List.foldl_nil,ak,ay,au]at hK ⊢
   gi_wp2_with (gi_at_call 14;refine hc.mono ?_;rintro e w3 ⟨⟨v,rfl,hv⟩,hb⟩)
   exact hW.two (by decide) (by decide) hb hv
  iterate 1
   (refine nC (u0:=λ_=>undef) rfl (λ_=>rfl) (λg hg=>by simp only[List.mem_cons,List.not_mem_nil,or_false]at hg;rcases hg with rfl|rfl<;>decide) (λg hg=>by simp only[List.mem_cons,List.not_mem_nil,or_false]at hg;rcases hg with rfl|rfl<;>rfl) ?_
    apply ah;refine⟨λD x w' S' hm hW K Q hK=>?_,?_⟩
    ·have hl:=hW.lasts (hm.2.1 4 (by kernel_rfl)) (hm.2.1 9 (by kernel_rfl)) hR hst hk hcl hcl hone htwo (Int.le_refl _) h12;simp only[Lift.Act.bU,Act.put,List.foldl_cons,List.foldl_nil,ak,ay,au]
     gi_wp2_with (gi_at_call 13;refine hl.mono ?_;rintro e w3 ⟨rfl,hb⟩)
     exact hW.step (by decide) (by decide) (Grow.of hb).s
    apply ah;refine⟨λx=>rfl,?_⟩)
  iterate 1
   (refine nC (u0:=λ_=>undef) rfl (λ_=>rfl) (λg hg=>by simp only[List.mem_cons,List.not_mem_nil,or_false]at hg;rcases hg with rfl|rfl<;>decide) (λg hg=>by simp only[List.mem_cons,List.not_mem_nil,or_false]at hg;rcases hg with rfl|rfl<;>rfl) ?_
    apply ah;refine⟨λD x w' S' hm hW K Q hK=>?_,?_⟩
    ·simp only[Lift.Act.bU,Act.put,List.foldl_cons,List.foldl_nil,ak,ay,au];gi_wp2;exact hW.step (by decide) (by decide) (dS.refl _ _ _)
    apply ah;refine⟨λx=>rfl,?_⟩)
  refine JG (.bool true) rfl rfl (λ_=>rfl) (λg hg=>by simp only[List.mem_cons,List.not_mem_nil,or_false]at hg;rcases hg with rfl|rfl<;>decide) Tryz.func11 (by kernel_rfl) Jy (λD x w' S' hm hW=>by
   simp only[List.map_toArray,List.map_nil];exact(Lc hW.1.kd (Nat.le_trans hlim hW.1.g.size)).mono λu w3 S3 h=>⟨h.1,hW.step (by decide) (by decide) h.2⟩) ?_
  iterate 2
   (refine nC (u0:=λ_=>undef) rfl (λ_=>rfl) (λg hg=>by simp only[List.mem_cons,List.not_mem_nil,or_false]at hg;rcases hg with rfl|rfl<;>decide) (λg hg=>by simp only[List.mem_cons,List.not_mem_nil,or_false]at hg;rcases hg with rfl|rfl<;>rfl) ?_
    apply ah;refine⟨λD x w' S' hm hW K Q hK=>?_,?_⟩
    ·simp only[Lift.Act.bU,Act.put,List.foldl_cons,List.foldl_nil,ak,ay,au];gi_wp2;exact hW.step (by decide) (by decide) (dS.refl _ _ _)
    apply ah;refine⟨λx=>rfl,?_⟩)
  rintro x w5 S5 ⟨E,-,-⟩;simp only[Lift.Act.bU,Act.put,List.foldl_cons,List.foldl_nil,ak,ay,au];refine zh fit ?_;exact⟨rfl,.bool true,λτ d=>by rw[results_tmp rfl];rfl,rfl,E.g⟩
end
