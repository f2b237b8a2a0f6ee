/- FeeOpposed: what the law carries; whether a longer book has a move. -/
import Derived.Test.YtccjdkghgbbliaaGreatDoorA43
import Derived.Test.YtccjdkghgbbliaaGreatDoorA55
set_option linter.all false
namespace Go.Proofs.YtccjdkghgbbliaaGreatDoor
section
set_option maxHeartbeats 1000000
set_option maxRecDepth 10000
open Go Go.Conc Go.RowKit Lift
set_option maxHeartbeats 16000000 in
theorem LW{N:Nat}{l:Lay}{b:aO}{w:World}(hbk:bQ N l b w)(hn:b.ps.length≤1000) :
  CallsIn Fz 0 Tryz.prog 9 #[.agg (l.bn b)] w λe w'=>(∃r:Bool,e=.returned (.bool r)∧(r=false→∀p∈b.ps,p.kind≠2))∧Below w.heap.size w w':=by
 have hb1:Below w.heap.size w (w.alloc (.cells (l.bn b) 27)):=(Below.refl _ w).alloc (ak _) _;have hA:=Blk.new w (l.bn b) 27;have hN1:=hbk.below (hb1.mono hbk.hN);gi_enter Tryz.func9,Tryz.ntmps9
 gi_wp2;generalize w.alloc _=W at *;have hlt:=hA.lt;have a3:=hA.cell 3;simp at a3;gi_loopw [3] (λi wr=>W=wr∧∃k:Nat,k≤b.ps.length∧i=.int .i64 k∧∀j,j<k→(b.aV j).kind≠2) (λi _=>b.ps.length-(intOf i).toNat)
 case atStart=>exact⟨rfl,0,Nat.zero_le _,rfl,λj hj=>absurd hj (by omega)⟩
 case round=>
  obtain⟨rfl,k,hk,rfl,hno⟩:=hrel;have HN:=Lib.hid hno;clear hno;by_cases hl:k<b.ps.length
  ·obtain⟨cb,co,e1,e2,e3⟩:=hN1.ps k (b.aV k).row (by rw[List.getElem?_map,List.getElem?_eq_getElem hl,kS hl];rfl);have c0:=e3 0 _ rfl;simp only[Nat.add_zero]at c0;have hcl:cb<W.heap.size:=aB e2 hN1.hN;rw[e1]at a3;obtain⟨kd,hkd⟩:∃kd,(b.aV k).kind=kd:=⟨_,rfl⟩
   rw[hkd]at c0;have HK:=Lib.hid hkd;clear hkd e3;by_cases hg:kd=2
   ·subst hg;gi_wp2;go_ret;exact⟨⟨true,rfl,λh=>by cases h⟩,hb1⟩
   ·have hg':(kd==2)=false:=by simp[hg]
    gi_wp2;go_roundw
    case rel=>
     refine⟨by trivial,k+1,by omega,by go_num,λj hj=>?_⟩;by_cases e:j=k
     ·subst e;rw[HK.out];exact hg
     ·exact HN.out j (by omega)
    case measure=>simp[intOf];omega
  ·obtain rfl:k=b.ps.length:=by omega
   gi_wp2;go_ret;refine⟨⟨false,rfl,λ_ p hp=>?_⟩,hb1⟩;obtain⟨i,hi,rfl⟩:=List.mem_iff_getElem.1 hp;rw[← kS hi];exact HN.out i hi
structure qx (X:Nat) (m:dI) (w:World):Prop where
 bx:Blk w X 93 #[.int .i64 m.kind,.int .i64 m.day,.int .i64 m.bg,.int .i64 m.amount,.int .i64 m.cas]
 ck:eP w
theorem eP.grow{w w':World}(h:eP w)(hg:Grow w.heap.size w w'):eP w':=λj v hv=>by
 have:=h j v hv;unfold World.cell? at this ⊢;rw[hg.block 2 h.lt];exact this
theorem qx.grow{X:Nat}{m:dI}{w w':World}(h:qx X m w)(hg:Grow w.heap.size w w'):qx X m w':=⟨h.bx.grow hg h.bx.lt,h.ck.grow hg⟩
theorem qx.same{X:Nat}{m:dI}{w w':World}(h:qx X m w)(hs:iE w w'):qx X m w':=h.grow (hs.g _)
theorem qx.below{X:Nat}{m:dI}{w w':World}(h:qx X m w)(hb:Below w.heap.size w w'):qx X m w':=h.grow (Grow.of hb)
theorem oQ[Keep]{w0 w:World}{S0 S:Blks}{M B X:Nat}{l:Lay}{b:aO}{m:dI}{x y:Code}{Q:Qr}{a:Act}(E:jO w0 S0 M l b B w S)(F:qx X m w)
  (h:∀wr,jO w0 S0 M l b B wr S→qx X m wr→x.wpIn Fz 0 Tryz.prog (λe a' w''=>yS (λa w S=>wpR Tryz.prog Inside y Q a w S) Q e a' w'' S) a wr):wpR Tryz.prog Inside (.seq x y) Q a w S:=
 fQ λwr hs=>h wr (E.same hs) (F.same hs)
theorem MN[Keep]{Q:Qr}{a:Act}{w:World}{S:Blks}{ops:Array Oper}{i:Nat}{rest:List Nat}{o:Oper}(ho:ops[i]?=some o)(hw:Region.wanted o (yielded ops a.tmps)=false)(hab:∀w' f,o.about Tryz.prog w' a.eval=some f→Inside f)
  (h:nM Tryz.prog Inside ops rest Q (a.put o.dst undef) w S):nM Tryz.prog Inside ops (i::rest) Q a w S:=uq fit ho hw (λ_ _=>hab _) h
theorem qx.poke{X BO:Nat}{m:dI}{w w1:World}(h:qx X m w)(hb:Below w.heap.size w w1)(hX:BO≠X)(h3:3≤BO)(j:Nat)(v:Value):qx X m (w1.setCell ⟨BO,j,none⟩ v):=
 ⟨(h.bx.below hb).set hX v,(h.ck.below hb h.ck.lt).below ((Below.refl 3 w1).setCell (p:=⟨BO,j,none⟩) h3 v) (by decide)⟩
end
section
set_option maxHeartbeats 1000000
set_option maxRecDepth 10000
open Go Go.Conc Go.RowKit Lift
set_option maxHeartbeats 256000000 in
set_option maxRecDepth 1000000 in
theorem law7[Keep]{w:World}{l:Lay}{b:aO}{m:dI}{on tw:Int}(on0:0≤on)(on1:on≤65535)(tw0:0≤tw)(tw1:tw≤65535)(hbk:bQ w.heap.size l b w)(hcap:b.aK.length≤l.cc)(hck:eP w)(hkd:bK w)(hlim:Keep.lim≤w.heap.size) :
  Raw Tryz.prog (rU Tryz.prog 7 Tryz.f7 λv w1 S1=>v=.bool true∧fK w.heap.size w (λ_=>False) w1 S1) (G (Frame.enter Tryz.prog 7 #[.agg (l.bn b),.int .u16 on,.int .u16 tw,.agg #[.int .i64 m.kind,.int .i64 m.day,.int .i64 m.bg,.int .i64 m.amount,.int .i64 m.cas]] .normal) []) w (λ_=>False):=by
 refine MS fit (by simp) Tryz.func7 rfl ?_;generalize (λ_=>False:Blks)=S;simp only[Tryz.ntmps7,aG,aC,aF,Nat.reduceAdd,Nat.reduceSub,Array.replicate_succ,Array.replicate_zero,List.push_toArray,List.append_toArray,List.nil_append,List.cons_append];have h0w:=hkd.lt;have h2w:=hck.lt;refine fQ λwa hs=>?_;gi_wp2;have hsz:wa.heap.size=w.heap.size:=by rw[hs.heap]
 have hba:Below wa.heap.size wa ((wa.alloc (.cells (l.bn b) 27)).alloc (.cells #[.int .i64 m.kind,.int .i64 m.day,.int .i64 m.bg,.int .i64 m.amount,.int .i64 m.cas] 93)):=((Below.refl _ wa).alloc (ak _) _).alloc (by simp) _;have hg:Grow w.heap.size w ((wa.alloc (.cells (l.bn b) 27)).alloc (.cells #[.int .i64 m.kind,.int .i64 m.day,.int .i64 m.bg,.int .i64 m.amount,.int .i64 m.cas] 93)):=hs.grow (hba.mono (by omega))
 have E:jO w S w.heap.size l b wa.heap.size ((wa.alloc (.cells (l.bn b) 27)).alloc (.cells #[.int .i64 m.kind,.int .i64 m.day,.int .i64 m.bg,.int .i64 m.amount,.int .i64 m.cas] 93)) S:=
  ⟨hg.s,hbk.grow hg,(Blk.new wa (l.bn b) 27).below ((Below.refl _ _).alloc (ak _) _),by omega,hkd.grow hg hkd.lt⟩
 have F:qx (wa.heap.size+1) m ((wa.alloc (.cells (l.bn b) 27)).alloc (.cells #[.int .i64 m.kind,.int .i64 m.day,.int .i64 m.bg,.int .i64 m.amount,.int .i64 m.cas] 93)):=
  ⟨by have:=Blk.new (wa.alloc (.cells (l.bn b) 27)) #[.int .i64 m.kind,.int .i64 m.day,.int .i64 m.bg,.int .i64 m.amount,.int .i64 m.cas] 93;simpa using this,hck.grow hg⟩
 clear hs hbk hkd hck hg hba hsz;generalize (wa.alloc (.cells (l.bn b) 27)).alloc (.cells #[.int .i64 m.kind,.int .i64 m.day,.int .i64 m.bg,.int .i64 m.amount,.int .i64 m.cas] 93)=W at *;obtain⟨BM,hBM⟩:∃BM,wa.heap.size+1=BM:=⟨_,rfl⟩
 rw[hBM]at F ⊢;clear hBM;generalize wa.heap.size=B at *;refine iC fit ?_;refine oQ E F λwb E F=>?_;have g0:=E.bx.cell 0;have g1:=E.bx.cell 1;have g2:=E.bx.cell 2;have g3:=E.bx.cell 3;simp at g0 g1 g2 g3;have ltB:=E.bx.lt
 gi_wp2_with (gi_at_call 8;refine(ask_in E.bk hcap).mono ?_;rintro e w2 ⟨⟨r,rfl,hr⟩,hb2⟩;replace E:=E.below hb2;replace F:=F.below hb2;clear g0 g1 g2 g3 ltB hb2;rcases r with _|_)
 ·refine rF fit (t:=true) rfl ?_;simp only[if_true];refine iC fit (mP fit ?_);simp only[aG,aC,aF,Nat.reduceAdd,List.range,List.range.loop];refine lK rfl rfl rfl Tryz.func11 (by kernel_rfl) KH (vals:=#[]) (by simp) (MO E.kd (Nat.le_trans hlim E.g.size)) ?_;rintro u w5 S5 ⟨rfl,hg5⟩;replace E:=E.grow hg5;clear hg5;refine bZ rfl rfl λwr hs=>?_;replace E:=E.same hs;clear hs;gi_wp2;refine lM fit ?_;refine zK fit ?_;exact⟨rfl,.bool true,λτ d=>by rw[results_tmp rfl];rfl,rfl,E.g⟩
 obtain⟨hR,hpos⟩:=hr (by trivial);clear hr;refine rF fit (t:=false) rfl ?_;simp only[Bool.false_eq_true,if_false];refine CQ fit ?_;obtain⟨d,ed⟩:∃d:Nat,on % 10000=d:=⟨(on % 10000).toNat,by omega⟩
 obtain⟨e,ee⟩:∃e:Nat,tw % 10000=e:=⟨(tw % 10000).toNat,by omega⟩
 have hd:d≤9999:=by omega
 have he:e≤9999:=by omega
 refine oQ E F λwr E F=>?_;gi_wp2;obtain⟨n1,hn1⟩:∃n1,(b.to.iW (min d e:Nat) (min 5 b.cs.length)).length=n1:=⟨_,rfl⟩
 obtain⟨n2,hn2⟩:∃n2,(b.to.iW (max d e:Nat) (min 5 b.cs.length)).length=n2:=⟨_,rfl⟩
 have hle:n1≤n2:=by rw[← hn1,← hn2];exact Je hR.full.v (by simp[aO.to];omega) (by omega) (by omega)
 have hc1:=λw' S' (E:jO w S w.heap.size l b B w' S') (F:qx BM m w')=>Au E.bk hR E.kd F.ck (day:=min d e) (by omega);have hc2:=λw' S' (E:jO w S w.heap.size l b B w' S') (F:qx BM m w')=>Au E.bk hR E.kd F.ck (day:=max d e) (by omega);rw[hn1]at hc1;rw[hn2]at hc2;have hmin:((min d e:Nat):Int)=min (d:Int) e:=by omega
 have hmax:((max d e:Nat):Int)=max (d:Int) e:=by omega
 rw[hmin,← ed,← ee]at hc1;rw[hmax,← ed,← ee]at hc2;have HN1:=Lib.hid hn1;have HMIN:=Lib.hid hmin;have HED:=Lib.hid ed;have HEE:=Lib.hid ee;clear hmin hmax hn1 hn2 ed ee;refine oQ E F λwr E F=>?_;have g0:=E.bx.cell 0;have g1:=E.bx.cell 1;have g2:=E.bx.cell 2;have g3:=E.bx.cell 3;simp at g0 g1 g2 g3;have ltB:=E.bx.lt;have hcall:=hc1 _ _ E F;clear hc1;have HC2:=Lib.hid hc2;clear hc2
 gi_wp2_with (gi_at_call 26;with_reducible refine hcall.mono ?_;rintro r w3 ⟨rfl,hb⟩)
 replace E:=E.below hb;replace F:=F.below hb;clear hb hcall g0 g1 g2 g3 ltB;refine oQ E F λwr E F=>?_;have g0:=E.bx.cell 0;have g1:=E.bx.cell 1;have g2:=E.bx.cell 2;have g3:=E.bx.cell 3;simp at g0 g1 g2 g3;have ltB:=E.bx.lt;have hcall:=HC2.out _ _ E F
 gi_wp2_with (gi_at_call 26;with_reducible refine hcall.mono ?_;rintro r w3 ⟨rfl,hb⟩)
 replace E:=E.below hb;replace F:=F.below hb;clear hb hcall g0 g1 g2 g3 ltB HC2;have q1:¬((n2:Int)<n1):=by omega
 refine iC fit ?_;refine oQ E F λwr E F=>?_;obtain⟨s1,hs1⟩:∃s1,sayOf n1=s1:=⟨_,rfl⟩
 obtain⟨s2,hs2⟩:∃s2,sayOf n2=s2:=⟨_,rfl⟩
 rw[hs1,hs2];have hcase:(s1=1∧n1=0)∨(s1=2∧s2=2∧0<n1):=by
  rcases Nat.eq_zero_or_pos n1 with q|q
  ·exact .inl ⟨by rw[← hs1,q];rfl,q⟩
  ·exact .inr ⟨by rw[← hs1];unfold sayOf;rw[if_neg (by omega)],by rw[← hs2];unfold sayOf;rw[if_neg (by omega)],q⟩
 clear hs1 hs2;rcases hcase with⟨rfl,rfl⟩|⟨rfl,rfl,hz⟩;have hz0:((0:Nat):Int)=0:=rfl;have hz:0≤0:=ak _;rw[hz0];gi_wp2;rw[show decide ((n2:Int)<0)=false by simp];clear hz0
 rotate_left
 have hz1:((n1:Int)==0)=false:=by simp;omega
 have hz2:(0:Int)<n1:=by omega
 gi_wp2;rw[hz1];clear hz1 hz2
 all_goals
  refine rF fit (t:=false) rfl ?_;simp only[Bool.false_eq_true,if_false];refine CQ fit ?_;refine oQ E F λwr E F=>?_;have g0:=E.bx.cell 0;have g1:=E.bx.cell 1;have g2:=E.bx.cell 2;have g3:=E.bx.cell 3;simp at g0 g1 g2 g3;have ltB:=E.bx.lt;gi_wp2;clear g0 g1 g2 g3 ltB;have ha:Below wr.heap.size wr (wr.alloc (.cells (l.bn b) 27)):=(Below.refl _ wr).alloc (ak _) _;have hO:=Blk.new wr (l.bn b) 27;have loO:w.heap.size≤wr.heap.size:=E.g.size;have hBO:B<wr.heap.size:=E.bx.lt;have hMO:BM<wr.heap.size:=F.bx.lt;replace E:=E.below ha;replace F:=F.below ha;clear ha;generalize wr.alloc _=W8 at *;generalize wr.heap.size=BO at *;simp only[yS];refine fQ λw4 hs=>?_;replace E:=E.same hs;replace F:=F.same hs;replace hO:=hs.blk hO;clear hs;have hnp:=hR.np;refine dB rfl mixed (by kernel_rfl) (WAA ⟨0,3,5,6,8,82,85,87,88⟩ w4 BO b.ps m) [82,85,87,88] (x₀:=λ_=>undef) (λg hg=>by simp only[List.mem_cons,List.not_mem_nil,or_false]at hg;rcases hg with rfl|rfl|rfl|rfl<;>rfl) WAA.start ?_;simp only[aG,aC,aF,Nat.reduceAdd,List.range,List.range.loop];refine iK 82 (by decide) rfl (λ_=>rfl) rfl rfl (λD x w' hm hW K Q hK=>OC rfl (hK _ _ (WAA.build0 rfl hW hm.1 (hm.2.2 8 (by kernel_rfl))))) ?_;refine bT (u0:=λ_=>undef) rfl (λ_=>rfl) (by decide) (λg hg=>by simp only[List.mem_cons,List.not_mem_nil,or_false]at hg;rcases hg with rfl|rfl|rfl|rfl<;>rfl) ?_;apply ah;refine⟨λD x w' hm hW K Q hK=>?_,?_⟩
  ·have d5:=hm.2.2 8 (by kernel_rfl);have hb:=hW.bel d5;skip;simp only[Lift.Act.bF,List.foldl_cons,List.foldl_nil,aj,ay,au];gi_wp2;exact hW.pure (by decide)
  apply ah;refine⟨λx=>?_,?_⟩
  ·simp only[Lift.Act.bF,List.foldl_cons,List.foldl_nil,aj,ay,au,Act.put];rfl
  refine bT (u0:=λ_=>undef) rfl (λ_=>rfl) (by decide) (λg hg=>by simp only[List.mem_cons,List.not_mem_nil,or_false]at hg;rcases hg with rfl|rfl|rfl|rfl<;>rfl) ?_;apply ah;refine⟨λD x w' hm hW K Q hK=>?_,?_⟩
  ·have d5:=hm.2.2 8 (by kernel_rfl);have hb:=hW.bel d5;have q:=E.bx.below (hb.mono (ak _));have q0:=q.cell 0;have q1:=q.cell 1;have q2:=q.cell 2;have q3:=q.cell 3;simp at q0 q1 q2 q3;simp only[Lift.Act.bF,List.foldl_cons,List.foldl_nil,aj,ay,au];gi_wp2;exact hW.pure (by decide)
  apply ah;refine⟨λx=>?_,?_⟩
  ·simp only[Lift.Act.bF,List.foldl_cons,List.foldl_nil,aj,ay,au,Act.put];rfl
  refine iK 85 (by decide) rfl (λ_=>rfl) rfl rfl (λD x w' hm hW K Q hK=>?_) ?_
  ·have d5:=hm.2.2 8 (by kernel_rfl);have hb:=hW.bel d5;have q1:=hm.2.1 0 (by kernel_rfl);have hp:=(E.bk.below (hb.mono E.bk.hN)).paysAt;exact yh (.tmp 82) _ rfl (xs:=[]) rfl (hW.o1 d5 q1 hm.1) rfl hp (by omega) hb.size λv w'' hown hg=>hK v w'' (WAA.app1 rfl hW q1 hm.1 d5 hown hg)
  refine bT (u0:=λ_=>undef) rfl (λ_=>rfl) (by decide) (λg hg=>by simp only[List.mem_cons,List.not_mem_nil,or_false]at hg;rcases hg with rfl|rfl|rfl|rfl<;>rfl) ?_;apply ah;refine⟨λD x w' hm hW K Q hK=>?_,?_⟩
  ·have d5:=hm.2.2 8 (by kernel_rfl);have hb:=hW.bel d5;have q:=F.bx.below (hb.mono (ak _));have q0:=q.cell 0;have q1:=q.cell 1;have q2:=q.cell 2;have q3:=q.cell 3;have q4:=q.cell 4;simp at q0 q1 q2 q3 q4;simp only[Lift.Act.bF,List.foldl_cons,List.foldl_nil,aj,ay,au];gi_wp2;exact hW.pure (by decide)
  apply ah;refine⟨λx=>?_,?_⟩
  ·simp only[Lift.Act.bF,List.foldl_cons,List.foldl_nil,aj,ay,au,Act.put];rfl
  refine iK 87 (by decide) rfl (λ_=>rfl) rfl rfl (λD x w' hm hW K Q hK=>OD rfl rfl (hK _ _ (WAA.build1 rfl hW hm.1 (hm.2.2 8 (by kernel_rfl))))) ?_;refine iK 88 (by decide) rfl (λ_=>rfl) rfl rfl (λD x w' hm hW K Q hK=>?_) ?_
  ·have d5:=hm.2.2 8 (by kernel_rfl);have hb:=hW.bel d5;have q2:=hm.2.1 3 (by kernel_rfl);have q3:=hm.2.1 5 (by kernel_rfl);obtain⟨-,hp⟩:=ER (hW.o3 d5 q3 hm.1);exact yh (.tmp 85) (.tmp 87) rfl (ys:=[m]) rfl (hW.o2 d5 q2 hm.1) rfl hp (by simp only[aC,aF];omega) hb.size λv w'' hown hg=>hK v w'' (WAA.app2 rfl hW q2 q3 hm.1 d5 hown hg)
  refine bT (u0:=λ_=>undef) rfl (λ_=>rfl) (by decide) (λg hg=>by simp only[List.mem_cons,List.not_mem_nil,or_false]at hg;rcases hg with rfl|rfl|rfl|rfl<;>rfl) ?_;apply ah;refine⟨λD x w' hm hW K Q hK=>?_,?_⟩
  ·have d5:=hm.2.2 8 (by kernel_rfl);have hb:=hW.bel d5;skip;simp only[Lift.Act.bF,List.foldl_cons,List.foldl_nil,aj,ay,au];gi_wp2;exact hW.pure (by decide)
  apply ah;refine⟨λx=>?_,?_⟩
  ·simp only[Lift.Act.bF,List.foldl_cons,List.foldl_nil,aj,ay,au,Act.put];rfl
  refine nY rfl (λ_=>rfl) rfl (λD x w' hm hW K Q hK=>?_) ?_
  ·have d5:=hm.1;have hb:=hW.bel d5;have q4:=hm.2.1 6 (by kernel_rfl);have q:=hO.below (hb.mono (ak _));have z3:=q.cell 3;have y3:=q.frozen 3;simp at z3;have hst:=WAA.store rfl hW q4 d5;simp only at hst;obtain⟨gr,cr,hx⟩:=ES (hW.o4 d5 q4);simp only at hx;rw[hx]at hst;simp only[Lift.Act.bF,List.foldl_cons,List.foldl_nil,aj,ay,au,hx]at hK ⊢;gi_wp2;exact hst
  intro x w5 hW;obtain⟨w1,hb1,hown,rfl⟩:=hW.fin (by decide);simp only at hown;obtain⟨go,co,hx⟩:=ES hown;have hown5:=Qe (BO:=BO) (j:=3) (u:=x 88) hown hO.lt;obtain⟨-,base,cap,hv,hrows⟩:=ER hown5;replace E:=E.poke (j:=3) (v:=x 88) h0w hb1 loO (by omega);replace F:=F.poke hb1 (show BO≠BM by omega) (by omega) 3 (x 88);replace hO:=(hO.below hb1).put 3 (x 88);simp only[Lay.bn,aj,ay,au]at hO;generalize w1.setCell _ _=W5 at *;rw[hx]at hv hO;have hv':base=some ⟨go,0,none⟩∧cap=co:=by simp at hv;exact⟨hv.1.symm,hv.2.symm⟩
  obtain⟨rfl,rfl⟩:=hv';have hB1:=E.bk.with_ (cap:=cap) E.g.size (ak _) hrows;clear hv hrows hown hown5 hW hb1 hx;simp only[yS];simp only[Lift.Act.bF,List.foldl_cons,List.foldl_nil,aj,ay,au];generalize x 82=x82;generalize x 85=x85;generalize x 87=x87;generalize x 88=x88;clear x;have hnk:=hR.nk;refine iC fit ?_;refine fQ λwr hs=>?_;replace E:=E.same hs;replace F:=F.same hs;replace hO:=hO.gr (hs.g _);replace hB1:=hB1.gr (hs.g _);clear hs;have o0:=hO.cell 0;have o1:=hO.cell 1;have o2:=hO.cell 2;have o3:=hO.cell 3;simp at o0 o1 o2 o3;have ltO:=hO.lt;have hmv:=LW hB1 (by simp only[List.length_append,aC,aF];omega);have hcall:=λw' (hb:Below wr.heap.size wr w')=>xY (hB1.gr (Grow.of hb)) hcap (by have:=hR.nc;simp only;omega) (by have:=hR.nt;simp only;omega) (by have:=hR.nk;simp only;omega) (by simp only[List.length_append,aC,aF];omega);simp only[Lay.bn,List.length_append,aC,aF,Nat.zero_add]at hmv hcall;have Ny:=Lib.hid hcall;clear hcall
  gi_wp2_with (first
   |(gi_at_call 9;with_reducible refine hmv.mono ?_;rintro e w3 ⟨⟨q,rfl,hq⟩,hb3⟩;have hcr:=Ny.out _ hb3;replace E:=E.below hb3;replace F:=F.below hb3;replace hO:=hO.below hb3;replace hB1:=hB1.gr (Grow.of hb3);clear o0 o1 o2 o3 ltO hb3;have HQ:=Lib.hid hq;clear hq;have o0:=hO.cell 0;have o1:=hO.cell 1;have o2:=hO.cell 2;have o3:=hO.cell 3;simp at o0 o1 o2 o3;have ltO:=hO.lt;rcases q with _|_)
   |(gi_at_call 27;with_reducible refine hcr.mono ?_;rintro e w2 ⟨⟨f,rfl,hf0⟩,hb2⟩;replace E:=E.below hb2;replace F:=F.below hb2;replace hO:=hO.below hb2;replace hB1:=hB1.gr (Grow.of hb2);clear o0 o1 o2 o3 ltO hb2;have HF:=Lib.hid hf0;clear hf0;rcases Decidable.em (f=0)with rfl|qf;rotate_left;have qf':(f==0)=false:=by simp[qf];rotate_left))
  all_goals try
   ((try rw[show(f != 0)=true by simp[qf]])
    refine rF fit (t:=true) rfl ?_;simp only[if_true];refine iC fit (mP fit ?_);simp only[aG,aC,aF,Nat.reduceAdd,List.range,List.range.loop];refine lK rfl rfl rfl Tryz.func11 (by kernel_rfl) KH (vals:=#[]) (by simp) (MO E.kd (Nat.le_trans hlim E.g.size)) ?_;rintro u w5 S5 ⟨rfl,hg5⟩;replace E:=E.grow hg5;clear hg5;refine bZ rfl rfl λwr hs=>?_;replace E:=E.same hs;clear hs;gi_wp2;refine lM fit ?_;refine zK fit ?_;exact⟨rfl,.bool true,λτ d=>by rw[results_tmp rfl];rfl,rfl,E.g⟩)
  have hst:=HQ.out (by trivial);have hR1:=HF.out.1 (by trivial);clear HQ HF Ny;have hmore:=LD hR (λp hp=>hst p (List.mem_append.2 (.inl hp))) hR1 (hst m (by simp)) (k:=min 5 b.cs.length) (by omega) (d:=min d e) (by omega);rw[HN1.out]at hmore;obtain⟨n3,hn3⟩:∃n3,((aO.to { b with ps:=b.ps++[m] }).iW (min d e:Nat) (min 5 b.cs.length)).length=n3:=⟨_,rfl⟩
  rw[hn3]at hmore;have hc3:=λ(N':Nat) w' (hB1:bQ N' { l with pb:=some ⟨go,0,none⟩,pc:=cap } { b with ps:=b.ps++[m] } w') (hkd:bK w') (hck:eP w')=>Au hB1 hR1 hkd hck (day:=min d e) (by omega);simp only at hc3;rw[hn3,HMIN.out,← HED.out,← HEE.out]at hc3;simp only[Lay.bn,List.length_append,aC,aF,Nat.zero_add]at hc3;clear hn3 hst;have hs3:0<n3→sayOf n3=2:=λq=>by unfold sayOf;rw[if_neg (by omega)]
  (first|rw[hs3 (by omega)]at hc3|skip)
  generalize sayOf n3=s3 at *;clear hs3;refine rF fit (t:=false) rfl ?_;simp only[Bool.false_eq_true,if_false];refine CQ fit ?_;refine fQ λwr hs=>?_;replace E:=E.same hs;replace F:=F.same hs;replace hO:=hO.gr (hs.g _);replace hB1:=hB1.gr (hs.g _);clear hs;have o0:=hO.cell 0;have o1:=hO.cell 1;have o2:=hO.cell 2;have o3:=hO.cell 3;simp at o0 o1 o2 o3;have ltO:=hO.lt;have hcall:=hc3 _ _ hB1 E.kd F.ck;clear hc3
  gi_wp2_with (gi_at_call 26;with_reducible refine hcall.mono ?_;rintro r w3 ⟨rfl,hb⟩)
  replace E:=E.below hb;clear hb hcall o0 o1 o2 o3 ltO hB1 hO F;have hge:¬((n3:Int)<_):=Int.not_lt.2 (Int.ofNat_le.2 hmore);have hle2:=Int.ofNat_le.2 hmore;simp only[yS];refine iC fit (mP fit ?_);simp only[aG,aC,aF,Nat.reduceAdd,List.range,List.range.loop]
  iterate 15
   (first
    |(refine bZ rfl rfl λwr hs=>?_
      replace E:=E.same hs;clear hs;gi_wp2)
    |refine MN rfl rfl (λw' f h=>by(simp[Oper.about]at h)) ?_)
  refine lK rfl rfl rfl Tryz.func11 (by kernel_rfl) KH (vals:=#[]) (by simp) (MO E.kd (Nat.le_trans hlim E.g.size)) ?_;rintro u w5 S5 ⟨rfl,hg5⟩;replace E:=E.grow hg5;clear hg5
  iterate 2
   refine bZ rfl rfl λwr hs=>?_;replace E:=E.same hs;clear hs;gi_wp2
  refine lM fit ?_;refine zK fit ?_;exact⟨rfl,.bool true,λτ d=>by rw[results_tmp rfl];rfl,rfl,E.g⟩
end
