/- Which files the laws look at: Big, Fit; inside the fence. -/
import Derived.Test.YtccjdkghgbbliaaGreatDoorA38
import Derived.Test.YtccjdkghgbbliaaGreatDoorA40
import Derived.Test.YtccjdkghgbbliaaGreatDoorA41
set_option linter.all false
namespace Go.Proofs.YtccjdkghgbbliaaGreatDoor
section
set_option maxHeartbeats 1000000
set_option maxRecDepth 10000
set_option maxHeartbeats 64000000
set_option maxRecDepth 100000
open Go Go.RowKit Lift
def RetB(e:Ending)(P:Prop):Prop:=∃r:Bool,e=.returned (.bool r)∧(r=false→P)
end
section
set_option maxHeartbeats 1000000
set_option maxRecDepth 10000
set_option maxHeartbeats 64000000
set_option maxRecDepth 100000
open Go Go.RowKit Lift
theorem ask_in{N:Nat}{l:Lay}{b:aJ}{w:World}(hbk:bW N l b w)(hcap:b.aN.length≤l.cc) :
  CallsIn Fz 0 Tryz.prog 8 #[.agg (l.bP b)] w λe w'=>(∃r:Bool,e=.returned (.bool r)∧(r=true→b.Right∧0<b.cs.length))∧Below w.heap.size w w':=by
 have hb1:Below w.heap.size w (w.alloc (.cells (l.bP b) 27)):=(Below.refl _ w).alloc (ak _) _;have hA:=Blk.new w (l.bP b) 27;have hN1:=hbk.below (hb1.mono hbk.hN);have hcall:=Fit_in hN1 hcap;gi_enter Tryz.func8,Tryz.ntmps8
 gi_wp2_with (gi_at_call 28;with_reducible refine hcall.mono ?_;rintro e w2 ⟨⟨r,rfl,hr⟩,hb2⟩;replace hA:=hA.below hb2;replace hb1:=hb1.trans (hb2.mono hb1.size);have g2:=hA.cell 2;simp at g2;have lA:=hA.lt;rcases r with _|_)
 ·go_ret;exact⟨⟨false,rfl,λq=>by cases q⟩,hb1⟩
 ·go_ret;exact⟨⟨_,rfl,λq=>⟨hr (by trivial),by simpa using q⟩⟩,hb1⟩
end
section
set_option maxHeartbeats 1000000
set_option maxRecDepth 10000
set_option maxHeartbeats 64000000
set_option maxRecDepth 100000
open Go Go.RowKit Lift
def mix2(i1 i2 j1 j2:Nat)(v1 v2:Value)(cur:Array Value)(D:Nat→Bool):Array Value:=
 (if D i2 then(if D i1 then cur.setIfInBounds j1 v1 else cur).setIfInBounds j2 v2 else if D i1 then cur.setIfInBounds j1 v1 else cur)
section
variable {i1 i2 j1 j2 i:Nat} {v1 v2:Value} {cur:Array Value} {D:Nat→Bool}
theorem Bf(h1:i≠i1)(h2:i≠i2):mix2 i1 i2 j1 j2 v1 v2 cur (bK D i)=mix2 i1 i2 j1 j2 v1 v2 cur D:=by
 unfold mix2 bK;rw[show(i1==i)=false from beq_eq_false_iff_ne.2 (Ne.symm h1),show(i2==i)=false from beq_eq_false_iff_ne.2 (Ne.symm h2),Bool.or_false,Bool.or_false]
theorem Tv(hi:i1≠i2)(hj:j1≠j2)(h:D i1=false):mix2 i1 i2 j1 j2 v1 v2 cur (bK D i1)=(mix2 i1 i2 j1 j2 v1 v2 cur D).setIfInBounds j1 v1:=by
 unfold mix2 bK;rw[show(i2==i1)=false from beq_eq_false_iff_ne.2 (Ne.symm hi),show(i1==i1)=true from beq_self_eq_true _,Bool.or_true,Bool.or_false,h];cases D i2
 ·rfl
 ·exact Array.setIfInBounds_comm _ _ hj
theorem Tz(hi:i1≠i2)(h:D i2=false):mix2 i1 i2 j1 j2 v1 v2 cur (bK D i2)=(mix2 i1 i2 j1 j2 v1 v2 cur D).setIfInBounds j2 v2:=by
 unfold mix2 bK;rw[show(i1==i2)=false from beq_eq_false_iff_ne.2 hi,show(i2==i2)=true from beq_self_eq_true _,Bool.or_true,Bool.or_false,h];rfl
theorem Tt(h1:D i1=true)(h2:D i2=true):mix2 i1 i2 j1 j2 v1 v2 cur D=(cur.setIfInBounds j1 v1).setIfInBounds j2 v2:=by
 unfold mix2;rw[h1,h2];rfl
theorem PE(h1:D i1=false)(h2:D i2=false):mix2 i1 i2 j1 j2 v1 v2 cur D=cur:=by
 unfold mix2;rw[h1,h2];rfl
end
theorem Ug{N size g:Nat}{e:TypeId}{cur:Array Value}{rows:List (List Value)}{w w':World}(h:bC N (some ⟨g,0,none⟩) size rows w)(hb:Blk w g e cur)(hb':Blk w' g e cur):bC N (some ⟨g,0,none⟩) size rows w':=λi r hr=>by
 obtain⟨b,o,h1,h2,h3⟩:=h i r hr;cases h1;refine⟨g,0,rfl,h2,λj v hv=>?_⟩;have:=h3 j v hv;rw[hb.cell]at this;rw[hb'.cell,this]
def W2(V:World)(g:Nat)(e:TypeId)(i1 i2 j1 j2:Nat)(v1 v2:Value)(cur:Array Value):Wm:=λD _ w=>V.grownBy w (some g)∧Blk w g e (mix2 i1 i2 j1 j2 v1 v2 cur D)
theorem vX(W:World)(b o:Nat)(v:Value):W.grownBy (W.setCell ⟨b,o,none⟩ v) (some b):=
 ⟨rfl,rfl,rfl,(KeepsWalks.setCell W _ v).size,λk _ hk=>Below.heap_setCell _ _ _ k (λe=>hk (by rw[e]))⟩
theorem zD{cur:Array Value}{i j:Nat}{v:Int}(h:∃x:Int,cur[j]?=some (.int .i64 x)):∃x:Int,(cur.setIfInBounds i (.int .i64 v))[j]?=some (.int .i64 x):=by
 obtain⟨x,h⟩:=h;by_cases e:i=j
 ·subst e;exact⟨v,Array.getElem?_setIfInBounds_self_of_lt (Array.getElem?_eq_some_iff.1 h).1⟩
 ·exact⟨x,(aB e).trans h⟩
theorem jT{i1 i2 j1 j2 j:Nat}{v1 v2:Int}{cur:Array Value}(D:Nat→Bool)(h:∃x:Int,cur[j]?=some (.int .i64 x)):∃x:Int,(mix2 i1 i2 j1 j2 (.int .i64 v1) (.int .i64 v2) cur D)[j]?=some (.int .i64 x):=by
 unfold mix2;split
 ·split
  ·exact zD (zD h)
  ·exact zD h
 ·split
  ·exact zD h
  ·exact h
set_option maxHeartbeats 128000000 in
theorem UF{N:Nat}{l:Lay}{b:aJ}{w:World}(hbk:bW N l b w)(hR:b.Right){k:Nat}(hk:k<b.cs.length)(cl du:Int) :
  CallsIn Fz 0 Tryz.prog 14 #[.agg (l.bP b),.int .i64 k,.int .i64 cl,.int .i64 du] w λe w'=>∃g c,e=.returned (.agg (({ l with kb:=some ⟨g,0,none⟩,kc:=c }:Lay).bP (b.nM k { b.aP k with classes:=cl,due:=du })))∧
   bW w'.heap.size { l with kb:=some ⟨g,0,none⟩,kc:=c } (b.nM k { b.aP k with classes:=cl,due:=du }) w'∧Below w.heap.size w w'∧∃cur,Blk w' g 46 cur:=by
 have hn:=hR.nk;have hb0:Below w.heap.size w ((((w.alloc (.cells (l.bP b) 27)).alloc (.cells #[.slice none 0 0,.slice none 0 0,.slice none 0 0,.slice none 0 0] 27)).alloc (.cells (l.bP b) 27)).alloc (.cells #[] 46)):=((((Below.refl _ w).alloc (ak _) _).alloc (by simp) _).alloc (by simp;omega) _).alloc (by simp;omega) _;have hR0:Blk ((((w.alloc (.cells (l.bP b) 27)).alloc (.cells #[.slice none 0 0,.slice none 0 0,.slice none 0 0,.slice none 0 0] 27)).alloc (.cells (l.bP b) 27)).alloc (.cells #[] 46)) (w.heap.size+1) 27 #[.slice none 0 0,.slice none 0 0,.slice none 0 0,.slice none 0 0]:=by
  have:=(Blk.new (w.alloc (.cells (l.bP b) 27)) #[.slice none 0 0,.slice none 0 0,.slice none 0 0,.slice none 0 0] 27).below (((Below.refl _ _).alloc (ak _) (.cells (l.bP b) 27)).alloc (by simp) (.cells #[] 46));simpa using this
 have hO0:Blk ((((w.alloc (.cells (l.bP b) 27)).alloc (.cells #[.slice none 0 0,.slice none 0 0,.slice none 0 0,.slice none 0 0] 27)).alloc (.cells (l.bP b) 27)).alloc (.cells #[] 46)) (w.heap.size+1+1) 27 (l.bP b):=by
  have:=(Blk.new ((w.alloc (.cells (l.bP b) 27)).alloc (.cells #[.slice none 0 0,.slice none 0 0,.slice none 0 0,.slice none 0 0] 27)) (l.bP b) 27).below ((Below.refl _ _).alloc (ak _) (.cells #[] 46));simpa using this
 have hown0:((((w.alloc (.cells (l.bP b) 27)).alloc (.cells #[.slice none 0 0,.slice none 0 0,.slice none 0 0,.slice none 0 0] 27)).alloc (.cells (l.bP b) 27)).alloc (.cells #[] 46)).ownsRow (w.heap.size+3) 46 6 (.slice (some ⟨w.heap.size+1+1+1,0,none⟩) 0 0) 0 []:=by
  have:=World.ownsRow_lit (e:=46) (size:=6) (((w.alloc (.cells (l.bP b) 27)).alloc (.cells #[.slice none 0 0,.slice none 0 0,.slice none 0 0,.slice none 0 0] 27)).alloc (.cells (l.bP b) 27)) #[] 0 (ak _) (by decide) rfl;simpa using this
 have hsz0:((((w.alloc (.cells (l.bP b) 27)).alloc (.cells #[.slice none 0 0,.slice none 0 0,.slice none 0 0,.slice none 0 0] 27)).alloc (.cells (l.bP b) 27)).alloc (.cells #[] 46)).heap.size=w.heap.size+4:=by simp
 gi_enter Tryz.func14,Tryz.ntmps14
 gi_wp2_with (gi_at_builtin;generalize ((((w.alloc (.cells (l.bP b) 27)).alloc (.cells #[.slice none 0 0,.slice none 0 0,.slice none 0 0,.slice none 0 0] 27)).alloc (.cells (l.bP b) 27)).alloc (.cells #[] 46))=V0 at *;have hbg:=hbk.below (hb0.mono hbk.hN);refine wpListIn_plain rfl λK hK=>?_;refine H8 Tryz.underlying24 Tryz.infoK rfl (by decide) (by decide) (.tmp 11) (.tmp 13) rfl (rows:=b.cs.map fZ.row) rfl hown0 rfl (by simp) (bC.mono hbg.ks hbg.hN) (λr hr=>by obtain⟨y,_,rfl⟩:=List.mem_map.1 hr;rfl) (λr hr u hu=>by obtain⟨y,_,rfl⟩:=List.mem_map.1 hr;simp only[fZ.row,List.mem_cons,List.not_mem_nil,or_false]at hu;rcases hu with rfl|rfl|rfl|rfl|rfl|rfl<;>simp[Value.oneCell']) (by rw[List.length_map];omega) (by omega) λv w2 hown hg=>?_;refine hK _ _ ?_;clear hK;obtain⟨gK,cK,curK,rfl,loK,hcurK⟩:=MG hown (by rw[List.length_map];omega);simp only[List.length_map]at hown ⊢;have hob:=TV hown0 hg (by omega);have hO2:Blk w2 (w.heap.size+1+1) 27 (l.bP b):=(hob.block _ (by omega)).trans hO0;have hR2:Blk w2 (w.heap.size+1) 27 #[.slice none 0 0,.slice none 0 0,.slice none 0 0,.slice none 0 0]:=(hob.block (w.heap.size+1) (by omega)).trans hR0;have z2:=hO2.cell 2;have y2:=hO2.frozen 2;simp at z2;have lO:=hO2.lt;go_frame)
 clear z2 y2;have hb2:Below w.heap.size w w2:=hb0.trans (hob.mono (by omega));have hrows2:=EG (λr hr=>by obtain⟨y,_,rfl⟩:=List.mem_map.1 hr;rfl) hown (by simp);obtain⟨base,cap,hv,hrows⟩:=hrows2;have hv':base=some ⟨gK,0,none⟩∧cK=cap:=by simp at hv;exact⟨hv.1.symm,hv.2⟩
 obtain⟨rfl,rfl⟩:=hv';clear hv;have hO3:=hO2.put 2 (.slice (some ⟨gK,0,none⟩) b.cs.length cK);simp only[Lay.bP,aj,ay,au]at hO3;have hR3:=hR2.set (j:=2) (show w.heap.size+1+1≠w.heap.size+1 by omega) (.slice (some ⟨gK,0,none⟩) b.cs.length cK);have hK3:=hcurK.set (j:=2) (show w.heap.size+1+1≠gK by omega) (.slice (some ⟨gK,0,none⟩) b.cs.length cK);have FZ:=bC.qm (j:=2) (v:=.slice (some ⟨gK,0,none⟩) b.cs.length cK) hrows (show w.heap.size+1+1≠gK by omega);have hb3:Below w.heap.size w (w2.setCell ⟨w.heap.size+1+1,2,none⟩ (.slice (some ⟨gK,0,none⟩) b.cs.length cK)):=hb2.setCell (p:=⟨w.heap.size+1+1,2,none⟩) (by simp;omega) _;have hszV:(w2.setCell ⟨w.heap.size+1+1,2,none⟩ (.slice (some ⟨gK,0,none⟩) b.cs.length cK)).heap.size=w2.heap.size:=World.size_setCell ..;rw[← hszV]at FZ;clear hown hO2 hR2 hcurK hrows hb2 hob hO0 hR0 hown0 hb0 lO hszV hsz0 hg;generalize w2.setCell ⟨w.heap.size+1+1,2,none⟩ (.slice (some ⟨gK,0,none⟩) b.cs.length cK)=V at *;have hkr:(b.cs.map fZ.row)[k]?=some (b.aP k).row:=by rw[List.getElem?_map,List.getElem?_eq_getElem hk,dS hk];rfl
 have n2:∃x:Int,curK[k * 6+2]?=some (.int .i64 x):=by
  obtain⟨b',o',h1,_,h3⟩:=FZ k _ hkr;cases h1;have:=h3 2 _ rfl;rw[hK3.cell]at this;exact⟨_,by simpa using this⟩
 have n3:∃x:Int,curK[k * 6+3]?=some (.int .i64 x):=by
  obtain⟨b',o',h1,_,h3⟩:=FZ k _ hkr;cases h1;have:=h3 3 _ rfl;rw[hK3.cell]at this;exact⟨_,by simpa using this⟩
 refine gU rfl mixed (by kernel_rfl) (W2 V gK 46 10 13 (k * 6+2) (k * 6+3) (.int .i64 cl) (.int .i64 du) curK) [] (x₀:=λ_=>undef) (λg hg=>by cases hg) ⟨⟨rfl,rfl,rfl,ak _,λ_ _ _=>rfl⟩,by rw[PE rfl rfl];exact hK3⟩ ?_;simp only[aF,aC,aG,Nat.reduceAdd,Nat.zero_add,List.range,List.range.loop]
 iterate 10
  (refine zy (u0:=λ_=>undef) rfl (λ_=>rfl) (λg hg=>by cases hg) (λg hg=>by cases hg) ?_
   apply ah;refine⟨λD x w' hm hW K Q hK=>?_,?_⟩
   ·have qO:Blk w' (w.heap.size+1+1) 27 #[.slice l.cb b.aN.length l.cc,.slice l.tb b.ts.length l.tc,.slice (some ⟨gK,0,none⟩) b.cs.length cK,.slice l.pb b.ps.length l.pc]:=(hW.1.block _ hO3.lt (λe=>by simp at e;omega)).trans hO3;have q2:=qO.cell 2;simp at q2;have lq:=qO.lt;have lk:=hW.2.lt;have yk:=hW.2.frozen (k * 6+2);have yd:=hW.2.frozen (k * 6+3);obtain⟨x2,e2⟩:=jT (i1:=10) (i2:=13) (j1:=k * 6+2) (j2:=k * 6+3) (v1:=cl) (v2:=du) D n2;obtain⟨x3,e3⟩:=jT (i1:=10) (i2:=13) (j1:=k * 6+2) (j2:=k * 6+3) (v1:=cl) (v2:=du) D n3;have ck:=hW.2.cell (k * 6+2);have cd:=hW.2.cell (k * 6+3);rw[e2]at ck;rw[e3]at cd;clear e2 e3;simp only[Lift.Act.bQ,List.foldl_nil];gi_wp2;exact⟨hW.1,by rw[Bf (by decide) (by decide)];exact hW.2⟩
   apply ah;refine⟨λx=>rfl,?_⟩)
 refine wZ rfl (λ_=>rfl) rfl (λD x w' hm hW K Q hK=>?_) ?_
 ·have qO:Blk w' (w.heap.size+1+1) 27 #[.slice l.cb b.aN.length l.cc,.slice l.tb b.ts.length l.tc,.slice (some ⟨gK,0,none⟩) b.cs.length cK,.slice l.pb b.ps.length l.pc]:=(hW.1.block _ hO3.lt (λe=>by simp at e;omega)).trans hO3;have q2:=qO.cell 2;simp at q2;have lq:=qO.lt;have lk:=hW.2.lt;have yk:=hW.2.frozen (k * 6+2);have yd:=hW.2.frozen (k * 6+3);obtain⟨x2,e2⟩:=jT (i1:=10) (i2:=13) (j1:=k * 6+2) (j2:=k * 6+3) (v1:=cl) (v2:=du) D n2;obtain⟨x3,e3⟩:=jT (i1:=10) (i2:=13) (j1:=k * 6+2) (j2:=k * 6+3) (v1:=cl) (v2:=du) D n3;have ck:=hW.2.cell (k * 6+2);have cd:=hW.2.cell (k * 6+3);rw[e2]at ck;rw[e3]at cd;clear e2 e3;simp only[Lift.Act.bQ,List.foldl_nil]at hK ⊢;gi_wp2;exact⟨hW.1.trans (vX _ _ _ _),by rw[Tv (by decide) (by omega) hm.1];exact hW.2.put _ _⟩
 iterate 2
  (refine zy (u0:=λ_=>undef) rfl (λ_=>rfl) (λg hg=>by cases hg) (λg hg=>by cases hg) ?_
   apply ah;refine⟨λD x w' hm hW K Q hK=>?_,?_⟩
   ·have qO:Blk w' (w.heap.size+1+1) 27 #[.slice l.cb b.aN.length l.cc,.slice l.tb b.ts.length l.tc,.slice (some ⟨gK,0,none⟩) b.cs.length cK,.slice l.pb b.ps.length l.pc]:=(hW.1.block _ hO3.lt (λe=>by simp at e;omega)).trans hO3;have q2:=qO.cell 2;simp at q2;have lq:=qO.lt;have lk:=hW.2.lt;have yk:=hW.2.frozen (k * 6+2);have yd:=hW.2.frozen (k * 6+3);obtain⟨x2,e2⟩:=jT (i1:=10) (i2:=13) (j1:=k * 6+2) (j2:=k * 6+3) (v1:=cl) (v2:=du) D n2;obtain⟨x3,e3⟩:=jT (i1:=10) (i2:=13) (j1:=k * 6+2) (j2:=k * 6+3) (v1:=cl) (v2:=du) D n3;have ck:=hW.2.cell (k * 6+2);have cd:=hW.2.cell (k * 6+3);rw[e2]at ck;rw[e3]at cd;clear e2 e3;simp only[Lift.Act.bQ,List.foldl_nil];gi_wp2;exact⟨hW.1,by rw[Bf (by decide) (by decide)];exact hW.2⟩
   apply ah;refine⟨λx=>rfl,?_⟩)
 refine wZ rfl (λ_=>rfl) rfl (λD x w' hm hW K Q hK=>?_) ?_
 ·have qO:Blk w' (w.heap.size+1+1) 27 #[.slice l.cb b.aN.length l.cc,.slice l.tb b.ts.length l.tc,.slice (some ⟨gK,0,none⟩) b.cs.length cK,.slice l.pb b.ps.length l.pc]:=(hW.1.block _ hO3.lt (λe=>by simp at e;omega)).trans hO3;have q2:=qO.cell 2;simp at q2;have lq:=qO.lt;have lk:=hW.2.lt;have yk:=hW.2.frozen (k * 6+2);have yd:=hW.2.frozen (k * 6+3);obtain⟨x2,e2⟩:=jT (i1:=10) (i2:=13) (j1:=k * 6+2) (j2:=k * 6+3) (v1:=cl) (v2:=du) D n2;obtain⟨x3,e3⟩:=jT (i1:=10) (i2:=13) (j1:=k * 6+2) (j2:=k * 6+3) (v1:=cl) (v2:=du) D n3;have ck:=hW.2.cell (k * 6+2);have cd:=hW.2.cell (k * 6+3);rw[e2]at ck;rw[e3]at cd;clear e2 e3;simp only[Lift.Act.bQ,List.foldl_nil]at hK ⊢;gi_wp2;exact⟨hW.1.trans (vX _ _ _ _),by rw[Tz (by decide) hm.1];exact hW.2.put _ _⟩
 rintro x w3 ⟨hg3,hK4⟩;rw[Tt (by decide) (by decide)]at hK4;have hO4:Blk w3 (w.heap.size+1+1) 27 #[.slice l.cb b.aN.length l.cc,.slice l.tb b.ts.length l.tc,.slice (some ⟨gK,0,none⟩) b.cs.length cK,.slice l.pb b.ps.length l.pc]:=(hg3.block _ hO3.lt (λe=>by simp at e;omega)).trans hO3;have QB:Blk w3 (w.heap.size+1) 27 #[.slice none 0 0,.slice none 0 0,.slice none 0 0,.slice none 0 0]:=(hg3.block _ hR3.lt (λe=>by simp at e;omega)).trans hR3;have hb4:Below w.heap.size w w3:=hb3.grown hg3 hb3.size (λj e=>by simp at e;omega);have hrA:=JO (f:=2) (v:=.int .i64 cl) (λr hr=>by obtain⟨y,_,rfl⟩:=List.mem_map.1 hr;rfl) hK3 FZ hkr (by decide);have hrB:=JO (f:=3) (v:=.int .i64 du) (λr hr=>by
  rcases List.mem_or_eq_of_mem_set hr with h|rfl
  ·obtain⟨y,_,rfl⟩:=List.mem_map.1 h;rfl
  ·rfl) (hK3.put _ _) hrA (List.getElem?_set_self (by simpa using hk)) (by decide)
 have hmap:((b.cs.map fZ.row).set k ((b.aP k).row.set 2 (.int .i64 cl))).set k (((b.aP k).row.set 2 (.int .i64 cl)).set 3 (.int .i64 du))=(b.nM k { b.aP k with classes:=cl,due:=du }).cs.map fZ.row:=by
  rw[List.set_set];simp only[aJ.nM,List.map_set];rfl
 rw[hmap]at hrB;have hKB:=(hK3.put (k * 6+2) (.int .i64 cl)).put (k * 6+3) (.int .i64 du);have o0:=hO4.cell 0;have o1:=hO4.cell 1;have o2:=hO4.cell 2;have o3:=hO4.cell 3;have r0:=QB.cell 0;have r1:=QB.cell 1;have r2:=QB.cell 2;have r3:=QB.cell 3;have s0:=QB.frozen 0;have s1:=QB.frozen 1;have s2:=QB.frozen 2;have s3:=QB.frozen 3;simp at o0 o1 o2 o3 r0 r1 r2 r3;have lO:=hO4.lt;have lR:=QB.lt;simp only[Lift.Act.bQ,List.foldl_nil];gi_wp2;have hRF:=(((QB.put 0 (.slice l.cb b.aN.length l.cc)).put 1 (.slice l.tb b.ts.length l.tc)).put 2 (.slice (some ⟨gK,0,none⟩) b.cs.length cK)).put 3 (.slice l.pb b.ps.length l.pc);simp only[aj,ay,au]at hRF;have hKF:=(((hK4.set (j:=0) (show w.heap.size+1≠gK by omega) (.slice l.cb b.aN.length l.cc)).set (j:=1) (show w.heap.size+1≠gK by omega) (.slice l.tb b.ts.length l.tc)).set (j:=2) (show w.heap.size+1≠gK by omega) (.slice (some ⟨gK,0,none⟩) b.cs.length cK)).set (j:=3) (show w.heap.size+1≠gK by omega) (.slice l.pb b.ps.length l.pc);have hbF:=(((hb4.setCell (p:=⟨w.heap.size+1,0,none⟩) (by simp) (.slice l.cb b.aN.length l.cc)).setCell (p:=⟨w.heap.size+1,1,none⟩) (by simp) (.slice l.tb b.ts.length l.tc)).setCell (p:=⟨w.heap.size+1,2,none⟩) (by simp) (.slice (some ⟨gK,0,none⟩) b.cs.length cK)).setCell (p:=⟨w.heap.size+1,3,none⟩) (by simp) (.slice l.pb b.ps.length l.pc)
 (try simp only[Exit.inBlock,Exit.then])
 refine bodyPost_ret (results_cell_row rfl _ _ (w.heap.size+1) 27 #[.slice l.cb b.aN.length l.cc,.slice l.tb b.ts.length l.tc,.slice (some ⟨gK,0,none⟩) b.cs.length cK,.slice l.pb b.ps.length l.pc] (0,0) _ rfl hRF Tryz.underlying27 rfl (by kernel_rfl)) rfl ?_;refine⟨gK,cK,?_,?_,hbF,_,hKF⟩
 ·simp[Lay.bP,aJ.nM]
 ·have hbk':=hbk.below (hbF.mono hbk.hN);have hsz:=hg3.size;exact⟨ak _,hbk'.cs.mono hbk'.hN,hbk'.ts.mono hbk'.hN,(Ug hrB hKB hKF).mono (by simpa only[World.size_setCell]using hsz),hbk'.ps.mono hbk'.hN⟩
end
