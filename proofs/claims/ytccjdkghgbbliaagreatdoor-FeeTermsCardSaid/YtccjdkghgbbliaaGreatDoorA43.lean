/- Which files the laws look at: Big, Fit; inside the fence. -/
import Derived.Test.YtccjdkghgbbliaaGreatDoorA38
import Derived.Test.YtccjdkghgbbliaaGreatDoorA40
import Derived.Test.YtccjdkghgbbliaaGreatDoorA41
set_option linter.all false
namespace Go.Proofs.YtccjdkghgbbliaaGreatDoor
section
set_option maxHeartbeats 1000000
set_option maxRecDepth 10000
set_option maxHeartbeats 64000000
set_option maxRecDepth 100000
open Go Go.RowKit Lift
def BM(e:Ending)(P:Prop):Prop:=∃r:Bool,e=.returned (.bool r)∧(r=false→P)
theorem BM.yes{e:Ending}{P:Prop}(h:e=.returned (.bool true)):BM e P:=⟨true,h,λq=>by cases q⟩
theorem BigF_in{N:Nat}{f:bM}{w:World}(h:fP N f w) :
  CallsIn Fz 0 Tryz.prog 29 #[.agg f.arr] w λe w'=>BM e f.zx∧Below w.heap.size w w':=by
 have hN:=h.cal.hN;have hb1:Below w.heap.size w (w.alloc (.cells f.arr 37)):=(Below.refl _ w).alloc (aj _) _;have hX:=Blk.new w f.arr 37;have hw:=Wide_in f (w.alloc (.cells f.arr 37));obtain⟨v,hv⟩:∃v,(decide (20<f.ls.length)||decide (20<f.ss.length))=v:=⟨_,rfl⟩
 rw[hv]at hw;have HV:=Lib.hid hv;clear hv;by_cases ha:20<f.apps.length
 ·have ha':(20:Int)<f.apps.length:=by omega
  gi_enter Tryz.func29,Tryz.ntmps29
  cases v
  all_goals
   gi_wp2_with (gi_at_call 74;refine hw.mono ?_;rintro e w2 ⟨rfl,hb2⟩;replace hX:=hX.below hb2;replace hb1:=hb1.trans (hb2.mono hb1.size);clear hb2 hw;have y14:=hX.cell 14;simp at y14;have lX:=hX.lt)
   go_ret;exact⟨BM.yes rfl,hb1⟩
 ·have ha':¬(20:Int)<f.apps.length:=by omega
  cases v
  ·gi_enter Tryz.func29,Tryz.ntmps29
   gi_wp2_with (gi_at_call 74;refine hw.mono ?_;rintro e w2 ⟨rfl,hb2⟩;replace hX:=hX.below hb2;replace hb1:=hb1.trans (hb2.mono hb1.size);clear hb2 hw;have y14:=hX.cell 14;simp at y14;have lX:=hX.lt)
   clear y14 lX;gi_loopw [3,4,5] (λi a g wr=>∃k:Nat,k≤f.apps.length∧i=.int .i64 k∧Below w.heap.size w wr∧Blk wr w.heap.size 37 f.arr∧∀a∈f.apps.take k,a.zx) (λi _ _ _=>f.apps.length-(intOf i).toNat)
   case atStart=>exact⟨0,Nat.zero_le _,rfl,hb1,hX,λa q=>by simp at q⟩
   case round=>
    clear hX hb1;obtain⟨k,hk,rfl,hb,gZ,hA⟩:=hrel;have HA:=Lib.hid hA;clear hA;have y14:=gZ.cell 14;simp at y14;have lX:=gZ.lt;by_cases hl:k<f.apps.length
    ·obtain⟨ab,ao,e1,e2,e3⟩:=(h.rs.below (hb.mono hN)).uH hl;rw[e1]at y14;have E1:=Lib.hid e1;clear e1;have hAp:=(h.at_ f.apps[k] (List.getElem_mem hl)).below (hb.mono hN);have htk:f.apps.take (k+1)=f.apps.take k++[f.apps[k]]:=by rw[List.take_add_one,List.getElem?_eq_getElem hl];rfl
     have HT:=Lib.hid htk;clear htk;obtain⟨p,hp⟩:∃p,f.apps[k]=p:=⟨_,rfl⟩
     rw[hp]at e3 hAp HT;clear hp;have c0:=e3 0 _ rfl;have c1:=e3 1 _ rfl;have c2:=e3 2 _ rfl;have c3:=e3 3 _ rfl;simp only[Nat.add_zero]at c0;clear e3;have lta:ab<wr.heap.size:=aA e2 (Nat.le_trans hN hb.size);have hkk:(k:Int)<f.apps.length:=by omega
     have hNr:N≤wr.heap.size:=Nat.le_trans hN hb.size;have hb3:Below w.heap.size w (wr.alloc (.cells #[.string p.name,.slice p.pa p.ps.length p.pc,.slice p.ca p.cs.length p.cc,.slice p.da p.ds.length p.dc] 58)):=hb.alloc hb.size _;have hX3:=gZ.below ((Below.refl _ wr).alloc (aj _) (.cells #[.string p.name,.slice p.pa p.ps.length p.pc,.slice p.ca p.cs.length p.cc,.slice p.da p.ds.length p.dc] 58));have hA3:=Blk.new wr #[.string p.name,.slice p.pa p.ps.length p.pc,.slice p.ca p.cs.length p.cc,.slice p.da p.ds.length p.dc] 58;have hAq:=hAp.below (((Below.refl _ wr).alloc (aj _) (.cells #[.string p.name,.slice p.pa p.ps.length p.pc,.slice p.ca p.cs.length p.cc,.slice p.da p.ds.length p.dc] 58)).mono hNr);clear hAp;by_cases z0:(100:Int)<p.name.size
     ·gi_wp2;go_ret;exact⟨BM.yes rfl,hb3⟩
     ·by_cases z1:(20:Int)<p.ps.length
      ·gi_wp2;go_ret;exact⟨BM.yes rfl,hb3⟩
      ·by_cases z2:(20:Int)<p.cs.length
       ·gi_wp2;go_ret;exact⟨BM.yes rfl,hb3⟩
       ·by_cases z3:(20:Int)<p.ds.length
        ·gi_wp2;go_ret;exact⟨BM.yes rfl,hb3⟩
        ·gi_wp2;generalize wr.alloc _=W at *;gi_loopw [5] (λi wx=>∃j:Nat,j≤p.cs.length∧i=.int .i64 j∧wx=W∧∀c∈p.cs.take j,c.items.length≤20) (λi _=>p.cs.length-(intOf i).toNat)
         case atStart=>exact⟨0,Nat.zero_le _,rfl,rfl,λc q=>by simp at q⟩
         case round=>
          obtain⟨j,hj,rfl,rfl,hC⟩:=hrel;have HC:=Lib.hid hC;clear hC;have q2:=hA3.cell 2;simp at q2;have lA:=hA3.lt;by_cases hjl:j<p.cs.length
          ·obtain⟨cb,co,i1,i2,i3⟩:=hAq.cs.uH hjl;have htk:p.cs.take (j+1)=p.cs.take j++[p.cs[j]]:=by rw[List.take_add_one,List.getElem?_eq_getElem hjl];rfl
           have HJ:=Lib.hid htk;clear htk;obtain⟨c,hc⟩:∃c,p.cs[j]=c:=⟨_,rfl⟩
           rw[hc]at i3 HJ;clear hc;have k2:=i3 2 _ rfl;clear i3;rw[i1]at q2;have I1:=Lib.hid i1;clear i1;have ltc:cb<_:=aA i2 (Nat.le_trans hN hb3.size);have hjj:(j:Int)<p.cs.length:=by omega
           by_cases z4:(20:Int)<c.items.length
           ·gi_wp2;go_ret;exact⟨BM.yes rfl,hb3⟩
           ·gi_wp2;go_roundw
            case rel=>
             refine⟨j+1,by omega,by go_num,by trivial,λc' q=>?_⟩;rw[HJ.out,List.mem_append,List.mem_singleton]at q;rcases q with q|rfl
             ·exact HC.out c' q
             ·omega
            case measure=>simp[intOf];omega
          ·obtain rfl:j=p.cs.length:=by omega
           gi_wp2;go_roundw
           case rel=>
            refine⟨k+1,by omega,by go_num,hb3,hX3,λa q=>?_⟩;rw[HT.out,List.mem_append,List.mem_singleton]at q;rcases q with q|rfl
            ·exact HA.out a q
            ·exact⟨by omega,by omega,by omega,λc q=>HC.out c (by rw[List.take_length];exact q)⟩
           case measure=>simp[intOf];omega
    ·obtain rfl:k=f.apps.length:=by omega
     gi_wp2;go_ret;refine⟨⟨false,rfl,λ_=>?_⟩,hb⟩;have:=HV.out;simp only[Bool.or_eq_false_iff,decide_eq_false_iff_not]at this;exact⟨by omega,by omega,by omega,λa q=>HA.out a (by rw[List.take_length];exact q)⟩
  ·gi_enter Tryz.func29,Tryz.ntmps29
   gi_wp2_with (gi_at_call 74;refine hw.mono ?_;rintro e w2 ⟨rfl,hb2⟩;replace hb1:=hb1.trans (hb2.mono hb1.size);clear hb2 hw)
   go_ret;exact⟨BM.yes rfl,hb1⟩
end
section
set_option maxHeartbeats 1000000
set_option maxRecDepth 10000
set_option maxHeartbeats 64000000
set_option maxRecDepth 100000
open Go Go.RowKit Lift
theorem FitF_in{N:Nat}{f:bM}{w:World}(h:fP N f w) :
  CallsIn Fz 0 Tryz.prog 10 #[.agg f.arr] w λe w'=>(∃r:Bool,e=.returned (.bool r)∧(r=true→f.zx∧f.Gi∧0<f.apps.length))∧Below w.heap.size w w':=by
 have hb1:Below w.heap.size w (w.alloc (.cells f.arr 37)):=(Below.refl _ w).alloc (aj _) _;have hX:=Blk.new w f.arr 37;have h1:=h.up hb1;gi_enter Tryz.func10,Tryz.ntmps10
 gi_wp2_with (first
  |(gi_at_call 29;refine(BigF_in h1).mono ?_;rintro e w2 ⟨⟨r,rfl,hr⟩,hb2⟩;replace hX:=hX.below hb2;replace h1:=h1.up hb2;replace hb1:=hb1.trans (hb2.mono hb1.size);clear hb2;have y0:=hX.cell 0;have y1:=hX.cell 1;have y2:=hX.cell 2;have y3:=hX.cell 3;have y4:=hX.cell 4;have y5:=hX.cell 5;have y6:=hX.cell 6;have y7:=hX.cell 7;have y8:=hX.cell 8;have y9:=hX.cell 9;have y10:=hX.cell 10;have y11:=hX.cell 11;have y12:=hX.cell 12;have y13:=hX.cell 13;have y14:=hX.cell 14;simp at y0 y1 y2 y3 y4 y5 y6 y7 y8 y9 y10 y11 y12 y13 y14;have lX:=hX.lt;rcases r with _|_)
  |(gi_at_call 30;refine(BK h1 (hr (by simp_all))).mono ?_;rintro e w3 ⟨⟨r',rfl,hr'⟩,hb3⟩;clear y0 y1 y2 y3 y4 y5 y6 y7 y8 y9 y10 y11 y12 y13 y14 lX;replace hX:=hX.below hb3;replace h1:=h1.up hb3;replace hb1:=hb1.trans (hb3.mono hb1.size);clear hb3;have y0:=hX.cell 0;have y1:=hX.cell 1;have y2:=hX.cell 2;have y3:=hX.cell 3;have y4:=hX.cell 4;have y5:=hX.cell 5;have y6:=hX.cell 6;have y7:=hX.cell 7;have y8:=hX.cell 8;have y9:=hX.cell 9;have y10:=hX.cell 10;have y11:=hX.cell 11;have y12:=hX.cell 12;have y13:=hX.cell 13;have y14:=hX.cell 14;simp at y0 y1 y2 y3 y4 y5 y6 y7 y8 y9 y10 y11 y12 y13 y14;have lX:=hX.lt;rcases Decidable.em (r'=0)with rfl|hr0))
 ·go_ret;exact⟨⟨_,rfl,λq=>⟨hr (by trivial),hr' (by trivial),by simpa using q⟩⟩,hb1⟩
 all_goals
  go_ret;exact⟨⟨false,rfl,λq=>by cases q⟩,hb1⟩
theorem ask_in{N:Nat}{l:Lay}{b:aN}{w:World}(hbk:bQ N l b w)(hcap:b.aK.length≤l.cc) :
  CallsIn Fz 0 Tryz.prog 8 #[.agg (l.bG b)] w λe w'=>(∃r:Bool,e=.returned (.bool r)∧(r=true→b.Right∧0<b.cs.length))∧Below w.heap.size w w':=by
 have hb1:Below w.heap.size w (w.alloc (.cells (l.bG b) 27)):=(Below.refl _ w).alloc (aj _) _;have hA:=Blk.new w (l.bG b) 27;have hN1:=hbk.below (hb1.mono hbk.hN);have hcall:=Fit_in hN1 hcap;gi_enter Tryz.func8,Tryz.ntmps8
 gi_wp2_with (gi_at_call 28;with_reducible refine hcall.mono ?_;rintro e w2 ⟨⟨r,rfl,hr⟩,hb2⟩;replace hA:=hA.below hb2;replace hb1:=hb1.trans (hb2.mono hb1.size);have g2:=hA.cell 2;simp at g2;have lA:=hA.lt;rcases r with _|_)
 ·go_ret;exact⟨⟨false,rfl,λq=>by cases q⟩,hb1⟩
 ·go_ret;exact⟨⟨_,rfl,λq=>⟨hr (by trivial),by simpa using q⟩⟩,hb1⟩
end
section
set_option maxHeartbeats 1000000
set_option maxRecDepth 10000
set_option maxHeartbeats 64000000
set_option maxRecDepth 100000
open Go Go.RowKit Lift
def mix2(i1 i2 j1 j2:Nat)(v1 v2:Value)(cur:Array Value)(D:Nat→Bool):Array Value:=
 (if D i2 then(if D i1 then cur.setIfInBounds j1 v1 else cur).setIfInBounds j2 v2 else if D i1 then cur.setIfInBounds j1 v1 else cur)
section
variable {i1 i2 j1 j2 i:Nat} {v1 v2:Value} {cur:Array Value} {D:Nat→Bool}
theorem Ak(h1:i≠i1)(h2:i≠i2):mix2 i1 i2 j1 j2 v1 v2 cur (bI D i)=mix2 i1 i2 j1 j2 v1 v2 cur D:=by
 unfold mix2 bI;rw[show(i1==i)=false from beq_eq_false_iff_ne.2 (Ne.symm h1),show(i2==i)=false from beq_eq_false_iff_ne.2 (Ne.symm h2),Bool.or_false,Bool.or_false]
theorem RS(hi:i1≠i2)(hj:j1≠j2)(h:D i1=false):mix2 i1 i2 j1 j2 v1 v2 cur (bI D i1)=(mix2 i1 i2 j1 j2 v1 v2 cur D).setIfInBounds j1 v1:=by
 unfold mix2 bI;rw[show(i2==i1)=false from beq_eq_false_iff_ne.2 (Ne.symm hi),show(i1==i1)=true from beq_self_eq_true _,Bool.or_true,Bool.or_false,h];cases D i2
 ·rfl
 ·exact Array.setIfInBounds_comm _ _ hj
theorem RU(hi:i1≠i2)(h:D i2=false):mix2 i1 i2 j1 j2 v1 v2 cur (bI D i2)=(mix2 i1 i2 j1 j2 v1 v2 cur D).setIfInBounds j2 v2:=by
 unfold mix2 bI;rw[show(i1==i2)=false from beq_eq_false_iff_ne.2 hi,show(i2==i2)=true from beq_self_eq_true _,Bool.or_true,Bool.or_false,h];rfl
theorem RQ(h1:D i1=true)(h2:D i2=true):mix2 i1 i2 j1 j2 v1 v2 cur D=(cur.setIfInBounds j1 v1).setIfInBounds j2 v2:=by
 unfold mix2;rw[h1,h2];rfl
theorem Ox(h1:D i1=false)(h2:D i2=false):mix2 i1 i2 j1 j2 v1 v2 cur D=cur:=by
 unfold mix2;rw[h1,h2];rfl
end
theorem S9{N size g:Nat}{e:TypeId}{cur:Array Value}{rows:List (List Value)}{w w':World}(h:bg N (some ⟨g,0,none⟩) size rows w)(hb:Blk w g e cur)(hb':Blk w' g e cur):bg N (some ⟨g,0,none⟩) size rows w':=λi r hr=>by
 obtain⟨b,o,h1,h2,h3⟩:=h i r hr;cases h1;refine⟨g,0,rfl,h2,λj v hv=>?_⟩;have:=h3 j v hv;rw[hb.cell]at this;rw[hb'.cell,this]
def W2(V:World)(g:Nat)(e:TypeId)(i1 i2 j1 j2:Nat)(v1 v2:Value)(cur:Array Value):Wm:=λD _ w=>V.grownBy w (some g)∧Blk w g e (mix2 i1 i2 j1 j2 v1 v2 cur D)
theorem vI(W:World)(b o:Nat)(v:Value):W.grownBy (W.setCell ⟨b,o,none⟩ v) (some b):=
 ⟨rfl,rfl,rfl,(KeepsWalks.setCell W _ v).size,λk _ hk=>Below.heap_setCell _ _ _ k (λe=>hk (by rw[e]))⟩
theorem zf{cur:Array Value}{i j:Nat}{v:Int}(h:∃x:Int,cur[j]?=some (.int .i64 x)):∃x:Int,(cur.setIfInBounds i (.int .i64 v))[j]?=some (.int .i64 x):=by
 obtain⟨x,h⟩:=h;by_cases e:i=j
 ·subst e;exact⟨v,Array.getElem?_setIfInBounds_self_of_lt (Array.getElem?_eq_some_iff.1 h).1⟩
 ·exact⟨x,(aB e).trans h⟩
theorem jK{i1 i2 j1 j2 j:Nat}{v1 v2:Int}{cur:Array Value}(D:Nat→Bool)(h:∃x:Int,cur[j]?=some (.int .i64 x)):∃x:Int,(mix2 i1 i2 j1 j2 (.int .i64 v1) (.int .i64 v2) cur D)[j]?=some (.int .i64 x):=by
 unfold mix2;split
 ·split
  ·exact zf (zf h)
  ·exact zf h
 ·split
  ·exact zf h
  ·exact h
set_option maxHeartbeats 128000000 in
theorem with_in{N:Nat}{l:Lay}{b:aN}{w:World}(hbk:bQ N l b w)(hR:b.Right){k:Nat}(hk:k<b.cs.length)(cl du:Int) :
  CallsIn Fz 0 Tryz.prog 14 #[.agg (l.bG b),.int .i64 k,.int .i64 cl,.int .i64 du] w λe w'=>∃g c,e=.returned (.agg (({ l with kb:=some ⟨g,0,none⟩,kc:=c }:Lay).bG (b.nZ k { b.aP k with classes:=cl,due:=du })))∧
   bQ w'.heap.size { l with kb:=some ⟨g,0,none⟩,kc:=c } (b.nZ k { b.aP k with classes:=cl,due:=du }) w'∧Below w.heap.size w w':=by
 have hn:=hR.nk;have hb0:Below w.heap.size w ((((w.alloc (.cells (l.bG b) 27)).alloc (.cells #[.slice none 0 0,.slice none 0 0,.slice none 0 0,.slice none 0 0] 27)).alloc (.cells (l.bG b) 27)).alloc (.cells #[] 46)):=((((Below.refl _ w).alloc (aj _) _).alloc (by simp) _).alloc (by simp;omega) _).alloc (by simp;omega) _;have hR0:Blk ((((w.alloc (.cells (l.bG b) 27)).alloc (.cells #[.slice none 0 0,.slice none 0 0,.slice none 0 0,.slice none 0 0] 27)).alloc (.cells (l.bG b) 27)).alloc (.cells #[] 46)) (w.heap.size+1) 27 #[.slice none 0 0,.slice none 0 0,.slice none 0 0,.slice none 0 0]:=by
  have:=(Blk.new (w.alloc (.cells (l.bG b) 27)) #[.slice none 0 0,.slice none 0 0,.slice none 0 0,.slice none 0 0] 27).below (((Below.refl _ _).alloc (aj _) (.cells (l.bG b) 27)).alloc (by simp) (.cells #[] 46));simpa using this
 have hO0:Blk ((((w.alloc (.cells (l.bG b) 27)).alloc (.cells #[.slice none 0 0,.slice none 0 0,.slice none 0 0,.slice none 0 0] 27)).alloc (.cells (l.bG b) 27)).alloc (.cells #[] 46)) (w.heap.size+1+1) 27 (l.bG b):=by
  have:=(Blk.new ((w.alloc (.cells (l.bG b) 27)).alloc (.cells #[.slice none 0 0,.slice none 0 0,.slice none 0 0,.slice none 0 0] 27)) (l.bG b) 27).below ((Below.refl _ _).alloc (aj _) (.cells #[] 46));simpa using this
 have hown0:((((w.alloc (.cells (l.bG b) 27)).alloc (.cells #[.slice none 0 0,.slice none 0 0,.slice none 0 0,.slice none 0 0] 27)).alloc (.cells (l.bG b) 27)).alloc (.cells #[] 46)).ownsRow (w.heap.size+3) 46 6 (.slice (some ⟨w.heap.size+1+1+1,0,none⟩) 0 0) 0 []:=by
  have:=World.ownsRow_lit (e:=46) (size:=6) (((w.alloc (.cells (l.bG b) 27)).alloc (.cells #[.slice none 0 0,.slice none 0 0,.slice none 0 0,.slice none 0 0] 27)).alloc (.cells (l.bG b) 27)) #[] 0 (aj _) (by decide) rfl;simpa using this
 have hsz0:((((w.alloc (.cells (l.bG b) 27)).alloc (.cells #[.slice none 0 0,.slice none 0 0,.slice none 0 0,.slice none 0 0] 27)).alloc (.cells (l.bG b) 27)).alloc (.cells #[] 46)).heap.size=w.heap.size+4:=by simp
 gi_enter Tryz.func14,Tryz.ntmps14
 gi_wp2_with (gi_at_builtin;generalize ((((w.alloc (.cells (l.bG b) 27)).alloc (.cells #[.slice none 0 0,.slice none 0 0,.slice none 0 0,.slice none 0 0] 27)).alloc (.cells (l.bG b) 27)).alloc (.cells #[] 46))=V0 at *;have hbg:=hbk.below (hb0.mono hbk.hN);refine wpListIn_plain rfl λK hK=>?_;refine Gv Tryz.underlying24 Tryz.infoK rfl (by decide) (by decide) (.tmp 11) (.tmp 13) rfl (rows:=b.cs.map gu.row) rfl hown0 rfl (by simp) (bg.mono hbg.ks hbg.hN) (λr hr=>by obtain⟨y,_,rfl⟩:=List.mem_map.1 hr;rfl) (λr hr u hu=>by obtain⟨y,_,rfl⟩:=List.mem_map.1 hr;simp only[gu.row,List.mem_cons,List.not_mem_nil,or_false]at hu;rcases hu with rfl|rfl|rfl|rfl|rfl|rfl<;>simp[Value.oneCell']) (by rw[List.length_map];omega) (by omega) λv w2 hown hg=>?_;refine hK _ _ ?_;clear hK;obtain⟨gK,cK,curK,rfl,loK,hcurK⟩:=KZ hown (by rw[List.length_map];omega);simp only[List.length_map]at hown ⊢;have hob:=SH hown0 hg (by omega);have hO2:Blk w2 (w.heap.size+1+1) 27 (l.bG b):=(hob.block _ (by omega)).trans hO0;have hR2:Blk w2 (w.heap.size+1) 27 #[.slice none 0 0,.slice none 0 0,.slice none 0 0,.slice none 0 0]:=(hob.block (w.heap.size+1) (by omega)).trans hR0;have z2:=hO2.cell 2;have y2:=hO2.frozen 2;simp at z2;have lO:=hO2.lt;go_frame)
 clear z2 y2;have hb2:Below w.heap.size w w2:=hb0.trans (hob.mono (by omega));have hrows2:=OT (λr hr=>by obtain⟨y,_,rfl⟩:=List.mem_map.1 hr;rfl) hown (by simp);obtain⟨base,cap,hv,hrows⟩:=hrows2;have hv':base=some ⟨gK,0,none⟩∧cK=cap:=by simp at hv;exact⟨hv.1.symm,hv.2⟩
 obtain⟨rfl,rfl⟩:=hv';clear hv;have hO3:=hO2.put 2 (.slice (some ⟨gK,0,none⟩) b.cs.length cK);simp only[Lay.bG,ak,ay,au]at hO3;have Jm:=hR2.set (j:=2) (show w.heap.size+1+1≠w.heap.size+1 by omega) (.slice (some ⟨gK,0,none⟩) b.cs.length cK);have hK3:=hcurK.set (j:=2) (show w.heap.size+1+1≠gK by omega) (.slice (some ⟨gK,0,none⟩) b.cs.length cK);have EY:=bg.poke (j:=2) (v:=.slice (some ⟨gK,0,none⟩) b.cs.length cK) hrows (show w.heap.size+1+1≠gK by omega);have hb3:Below w.heap.size w (w2.setCell ⟨w.heap.size+1+1,2,none⟩ (.slice (some ⟨gK,0,none⟩) b.cs.length cK)):=hb2.setCell (p:=⟨w.heap.size+1+1,2,none⟩) (by simp;omega) _;have hszV:(w2.setCell ⟨w.heap.size+1+1,2,none⟩ (.slice (some ⟨gK,0,none⟩) b.cs.length cK)).heap.size=w2.heap.size:=World.size_setCell ..;rw[← hszV]at EY;clear hown hO2 hR2 hcurK hrows hb2 hob hO0 hR0 hown0 hb0 lO hszV hsz0 hg;generalize w2.setCell ⟨w.heap.size+1+1,2,none⟩ (.slice (some ⟨gK,0,none⟩) b.cs.length cK)=V at *;have hkr:(b.cs.map gu.row)[k]?=some (b.aP k).row:=by rw[List.getElem?_map,List.getElem?_eq_getElem hk,dN hk];rfl
 have n2:∃x:Int,curK[k * 6+2]?=some (.int .i64 x):=by
  obtain⟨b',o',h1,_,h3⟩:=EY k _ hkr;cases h1;have:=h3 2 _ rfl;rw[hK3.cell]at this;exact⟨_,by simpa using this⟩
 have n3:∃x:Int,curK[k * 6+3]?=some (.int .i64 x):=by
  obtain⟨b',o',h1,_,h3⟩:=EY k _ hkr;cases h1;have:=h3 3 _ rfl;rw[hK3.cell]at this;exact⟨_,by simpa using this⟩
 refine gJ rfl mixed (by kernel_rfl) (W2 V gK 46 10 13 (k * 6+2) (k * 6+3) (.int .i64 cl) (.int .i64 du) curK) [] (x₀:=λ_=>undef) (λg hg=>by cases hg) ⟨⟨rfl,rfl,rfl,aj _,λ_ _ _=>rfl⟩,by rw[Ox rfl rfl];exact hK3⟩ ?_;simp only[aF,aC,aG,Nat.reduceAdd,Nat.zero_add,List.range,List.range.loop]
 iterate 10
  (refine yU (u0:=λ_=>undef) rfl (λ_=>rfl) (λg hg=>by cases hg) (λg hg=>by cases hg) ?_
   apply ah;refine⟨λD x w' hm hW K Q hK=>?_,?_⟩
   ·have qO:Blk w' (w.heap.size+1+1) 27 #[.slice l.cb b.aK.length l.cc,.slice l.tb b.ts.length l.tc,.slice (some ⟨gK,0,none⟩) b.cs.length cK,.slice l.pb b.ps.length l.pc]:=(hW.1.block _ hO3.lt (λe=>by simp at e;omega)).trans hO3;have q2:=qO.cell 2;simp at q2;have lq:=qO.lt;have lk:=hW.2.lt;have yk:=hW.2.frozen (k * 6+2);have yd:=hW.2.frozen (k * 6+3);obtain⟨x2,e2⟩:=jK (i1:=10) (i2:=13) (j1:=k * 6+2) (j2:=k * 6+3) (v1:=cl) (v2:=du) D n2;obtain⟨x3,e3⟩:=jK (i1:=10) (i2:=13) (j1:=k * 6+2) (j2:=k * 6+3) (v1:=cl) (v2:=du) D n3;have ck:=hW.2.cell (k * 6+2);have cd:=hW.2.cell (k * 6+3);rw[e2]at ck;rw[e3]at cd;clear e2 e3;simp only[Lift.Act.bU,List.foldl_nil];gi_wp2;exact⟨hW.1,by rw[Ak (by decide) (by decide)];exact hW.2⟩
   apply ah;refine⟨λx=>rfl,?_⟩)
 refine wL rfl (λ_=>rfl) rfl (λD x w' hm hW K Q hK=>?_) ?_
 ·have qO:Blk w' (w.heap.size+1+1) 27 #[.slice l.cb b.aK.length l.cc,.slice l.tb b.ts.length l.tc,.slice (some ⟨gK,0,none⟩) b.cs.length cK,.slice l.pb b.ps.length l.pc]:=(hW.1.block _ hO3.lt (λe=>by simp at e;omega)).trans hO3;have q2:=qO.cell 2;simp at q2;have lq:=qO.lt;have lk:=hW.2.lt;have yk:=hW.2.frozen (k * 6+2);have yd:=hW.2.frozen (k * 6+3);obtain⟨x2,e2⟩:=jK (i1:=10) (i2:=13) (j1:=k * 6+2) (j2:=k * 6+3) (v1:=cl) (v2:=du) D n2;obtain⟨x3,e3⟩:=jK (i1:=10) (i2:=13) (j1:=k * 6+2) (j2:=k * 6+3) (v1:=cl) (v2:=du) D n3;have ck:=hW.2.cell (k * 6+2);have cd:=hW.2.cell (k * 6+3);rw[e2]at ck;rw[e3]at cd;clear e2 e3;simp only[Lift.Act.bU,List.foldl_nil]at hK ⊢;gi_wp2;exact⟨hW.1.trans (vI _ _ _ _),by rw[RS (by decide) (by omega) hm.1];exact hW.2.put _ _⟩
 iterate 2
  (refine yU (u0:=λ_=>undef) rfl (λ_=>rfl) (λg hg=>by cases hg) (λg hg=>by cases hg) ?_
   apply ah;refine⟨λD x w' hm hW K Q hK=>?_,?_⟩
   ·have qO:Blk w' (w.heap.size+1+1) 27 #[.slice l.cb b.aK.length l.cc,.slice l.tb b.ts.length l.tc,.slice (some ⟨gK,0,none⟩) b.cs.length cK,.slice l.pb b.ps.length l.pc]:=(hW.1.block _ hO3.lt (λe=>by simp at e;omega)).trans hO3;have q2:=qO.cell 2;simp at q2;have lq:=qO.lt;have lk:=hW.2.lt;have yk:=hW.2.frozen (k * 6+2);have yd:=hW.2.frozen (k * 6+3);obtain⟨x2,e2⟩:=jK (i1:=10) (i2:=13) (j1:=k * 6+2) (j2:=k * 6+3) (v1:=cl) (v2:=du) D n2;obtain⟨x3,e3⟩:=jK (i1:=10) (i2:=13) (j1:=k * 6+2) (j2:=k * 6+3) (v1:=cl) (v2:=du) D n3;have ck:=hW.2.cell (k * 6+2);have cd:=hW.2.cell (k * 6+3);rw[e2]at ck;rw[e3]at cd;clear e2 e3;simp only[Lift.Act.bU,List.foldl_nil];gi_wp2;exact⟨hW.1,by rw[Ak (by decide) (by decide)];exact hW.2⟩
   apply ah;refine⟨λx=>rfl,?_⟩)
 refine wL rfl (λ_=>rfl) rfl (λD x w' hm hW K Q hK=>?_) ?_
 ·have qO:Blk w' (w.heap.size+1+1) 27 #[.slice l.cb b.aK.length l.cc,.slice l.tb b.ts.length l.tc,.slice (some ⟨gK,0,none⟩) b.cs.length cK,.slice l.pb b.ps.length l.pc]:=(hW.1.block _ hO3.lt (λe=>by simp at e;omega)).trans hO3;have q2:=qO.cell 2;simp at q2;have lq:=qO.lt;have lk:=hW.2.lt;have yk:=hW.2.frozen (k * 6+2);have yd:=hW.2.frozen (k * 6+3);obtain⟨x2,e2⟩:=jK (i1:=10) (i2:=13) (j1:=k * 6+2) (j2:=k * 6+3) (v1:=cl) (v2:=du) D n2;obtain⟨x3,e3⟩:=jK (i1:=10) (i2:=13) (j1:=k * 6+2) (j2:=k * 6+3) (v1:=cl) (v2:=du) D n3;have ck:=hW.2.cell (k * 6+2);have cd:=hW.2.cell (k * 6+3);rw[e2]at ck;rw[e3]at cd;clear e2 e3;simp only[Lift.Act.bU,List.foldl_nil]at hK ⊢;gi_wp2;exact⟨hW.1.trans (vI _ _ _ _),by rw[RU (by decide) hm.1];exact hW.2.put _ _⟩
 rintro x w3 ⟨hg3,hK4⟩;rw[RQ (by decide) (by decide)]at hK4;have hO4:Blk w3 (w.heap.size+1+1) 27 #[.slice l.cb b.aK.length l.cc,.slice l.tb b.ts.length l.tc,.slice (some ⟨gK,0,none⟩) b.cs.length cK,.slice l.pb b.ps.length l.pc]:=(hg3.block _ hO3.lt (λe=>by simp at e;omega)).trans hO3;have MK:Blk w3 (w.heap.size+1) 27 #[.slice none 0 0,.slice none 0 0,.slice none 0 0,.slice none 0 0]:=(hg3.block _ Jm.lt (λe=>by simp at e;omega)).trans Jm;have hb4:Below w.heap.size w w3:=hb3.grown hg3 hb3.size (λj e=>by simp at e;omega);have hrA:=I9 (f:=2) (v:=.int .i64 cl) (λr hr=>by obtain⟨y,_,rfl⟩:=List.mem_map.1 hr;rfl) hK3 EY hkr (by decide);have hrB:=I9 (f:=3) (v:=.int .i64 du) (λr hr=>by
  rcases List.mem_or_eq_of_mem_set hr with h|rfl
  ·obtain⟨y,_,rfl⟩:=List.mem_map.1 h;rfl
  ·rfl) (hK3.put _ _) hrA (List.getElem?_set_self (by simpa using hk)) (by decide)
 have hmap:((b.cs.map gu.row).set k ((b.aP k).row.set 2 (.int .i64 cl))).set k (((b.aP k).row.set 2 (.int .i64 cl)).set 3 (.int .i64 du))=(b.nZ k { b.aP k with classes:=cl,due:=du }).cs.map gu.row:=by
  rw[List.set_set];simp only[aN.nZ,List.map_set];rfl
 rw[hmap]at hrB;have hKB:=(hK3.put (k * 6+2) (.int .i64 cl)).put (k * 6+3) (.int .i64 du);have o0:=hO4.cell 0;have o1:=hO4.cell 1;have o2:=hO4.cell 2;have o3:=hO4.cell 3;have r0:=MK.cell 0;have r1:=MK.cell 1;have r2:=MK.cell 2;have r3:=MK.cell 3;have s0:=MK.frozen 0;have s1:=MK.frozen 1;have s2:=MK.frozen 2;have s3:=MK.frozen 3;simp at o0 o1 o2 o3 r0 r1 r2 r3;have lO:=hO4.lt;have lR:=MK.lt;simp only[Lift.Act.bU,List.foldl_nil];gi_wp2;have hRF:=(((MK.put 0 (.slice l.cb b.aK.length l.cc)).put 1 (.slice l.tb b.ts.length l.tc)).put 2 (.slice (some ⟨gK,0,none⟩) b.cs.length cK)).put 3 (.slice l.pb b.ps.length l.pc);simp only[ak,ay,au]at hRF;have hKF:=(((hK4.set (j:=0) (show w.heap.size+1≠gK by omega) (.slice l.cb b.aK.length l.cc)).set (j:=1) (show w.heap.size+1≠gK by omega) (.slice l.tb b.ts.length l.tc)).set (j:=2) (show w.heap.size+1≠gK by omega) (.slice (some ⟨gK,0,none⟩) b.cs.length cK)).set (j:=3) (show w.heap.size+1≠gK by omega) (.slice l.pb b.ps.length l.pc);have hbF:=(((hb4.setCell (p:=⟨w.heap.size+1,0,none⟩) (by simp) (.slice l.cb b.aK.length l.cc)).setCell (p:=⟨w.heap.size+1,1,none⟩) (by simp) (.slice l.tb b.ts.length l.tc)).setCell (p:=⟨w.heap.size+1,2,none⟩) (by simp) (.slice (some ⟨gK,0,none⟩) b.cs.length cK)).setCell (p:=⟨w.heap.size+1,3,none⟩) (by simp) (.slice l.pb b.ps.length l.pc)
 (try simp only[Exit.inBlock,Exit.then])
 refine bodyPost_ret (results_cell_row rfl _ _ (w.heap.size+1) 27 #[.slice l.cb b.aK.length l.cc,.slice l.tb b.ts.length l.tc,.slice (some ⟨gK,0,none⟩) b.cs.length cK,.slice l.pb b.ps.length l.pc] (0,0) _ rfl hRF Tryz.underlying27 rfl (by kernel_rfl)) rfl ?_;refine⟨gK,cK,?_,?_,hbF⟩
 ·simp[Lay.bG,aN.nZ]
 ·have hbk':=hbk.below (hbF.mono hbk.hN);have hsz:=hg3.size;exact⟨aj _,hbk'.cs.mono hbk'.hN,hbk'.ts.mono hbk'.hN,(S9 hrB hKB hKF).mono (by simpa only[World.size_setCell]using hsz),hbk'.ps.mono hbk'.hN⟩
end
