/- The book of the chapter's examples as it is made; two lists compared: inside the fence. -/
import Derived.Test.YtccjdkghgbbliaaGreatDoorA20
set_option linter.all false
namespace Go.Proofs.YtccjdkghgbbliaaGreatDoor
section
set_option maxHeartbeats 1000000
set_option maxRecDepth 10000
open Go Go.RowKit Lift
theorem same_in(xs ys:List Int)(va vb:Value)(w:World)(h1:eY w va xs)(h2:eY w vb ys)(hn:xs.length<1000000)(hm:ys.length<1000000) :
  CallsIn Fz 0 Tryz.prog 37 #[va,vb] w λe w'=>e=.returned (.bool (decide (xs=ys)))∧Below w.heap.size w w':=by
 have g1:=h1;have g2:=h2;obtain⟨ba,oa,ca,rfl,_⟩:=g1;obtain⟨bb,ob,cb,rfl,_⟩:=g2;by_cases hl:xs.length=ys.length
 ·gi_enter Tryz.func37,Tryz.ntmps37
  gi_wp2;gi_loopw [5] (λi wr=>∃k:Nat,k≤xs.length∧i=.int .i64 k∧(∀j,j<k→xs.getD j 0=ys.getD j 0)∧Below w.heap.size w wr) (λi _=>xs.length-(intOf i).toNat)
  case atStart=>exact⟨0,Nat.zero_le _,rfl,λj hj=>absurd hj (by omega),Below.refl _ _⟩
  case round=>
   obtain⟨k,hk,rfl,hall,HB⟩:=hrel;by_cases hlt:k<xs.length
   ·obtain⟨ba',oa',ca',e1,k1⟩:=h1.below HB;obtain⟨bb',ob',cb',e2,k2⟩:=h2.below HB;cases e1;have e2':=e2;simp only[Value.slice.injEq]at e2';obtain⟨rfl,rfl⟩:bb=bb'∧cb=cb':=⟨e2'.1,e2'.2.2⟩
    obtain⟨B1,rfl,l1,m1⟩:=k1 k hlt;obtain⟨B2,rfl,l2,m2⟩:=k2 k (by omega);have hlty:k<ys.length:=by omega
    have HA:=Lib.hid hall;clear hall h1 h2 k1 k2 e2 e2';obtain⟨x,hx⟩:∃x,xs.getD k 0=x:=⟨_,rfl⟩
    obtain⟨y,hy⟩:∃y,ys.getD k 0=y:=⟨_,rfl⟩
    rw[hx]at m1;rw[hy]at m2;have HX:=Lib.hid hx;have HY:=Lib.hid hy;clear hx hy;by_cases he:x=y
    ·subst he
     gi_wp2_with fail
     gi_big_quiet_th (fail)
     gi_wp2;go_roundw
     case rel=>
      refine⟨k+1,by omega,by go_num,λj hj=>?_,HB.trans ((below_drewN _ nq).mono HB.size)⟩;by_cases e:j=k
      ·subst e;rw[HX.out,HY.out]
      ·exact HA.out j (by omega)
     case measure=>simp[intOf];omega
    ·have hne:¬xs=ys:=λe=>by subst e;exact he (HX.out.symm.trans HY.out)
     have HN:=Lib.hid hne;clear hne
     gi_wp2_with fail
     gi_big_quiet_th (fail)
     gi_wp2;go_ret;exact⟨by rw[decide_eq_false HN.out];rfl,HB.trans ((below_drewN _ nq).mono HB.size)⟩
   ·obtain rfl:k=xs.length:=by omega
    have he:xs=ys:=by
     apply List.ext_getElem hl;intro j hj hj';have:=hall j hj;simpa[hj,hj']using this
    have HE:=Lib.hid he;clear he hall;gi_wp2;go_ret;exact⟨by rw[decide_eq_true HE.out];rfl,HB⟩
 ·have hne:¬xs=ys:=λe=>hl (by rw[e]);have hl':¬((xs.length:Int)=(ys.length:Int)):=by omega
  have HN:=Lib.hid hne;clear hne;gi_enter Tryz.func37,Tryz.ntmps37
  gi_wp2;go_ret;exact⟨by rw[decide_eq_false HN.out];rfl,Below.refl _ _⟩
theorem NJ{size:Nat}:∀{rows:List (List Value)},(∀r∈rows,r.length=size)→∀{i:Nat} {r:List Value},rows[i]?=some r→∀{j:Nat} {v:Value},r[j]?=some v→rows.flatten[i * size+j]?=some v
 | [],_,i,r,h,_,_,_=>by simp at h
 |a::l,hs,0,r,h,j,v,hv=>by
  simp at h;subst h;have hj:=(List.getElem?_eq_some_iff.1 hv).1;rw[List.flatten_cons,Nat.zero_mul,Nat.zero_add,List.getElem?_append_left hj];exact hv
 |a::l,hs,i+1,r,h,j,v,hv=>by
  have ha:=hs a (List.mem_cons_self ..);rw[List.flatten_cons,List.getElem?_append_right (by rw[ha,Nat.succ_mul];omega),ha];rw[show(i+1) * size+j-size=i * size+j by rw[Nat.succ_mul];omega];exact NJ (λr hr=>hs r (List.mem_cons_of_mem _ hr)) (by simpa using h) hv
theorem pV{w:World}{N B size:Nat}{ty:TypeId}{rows:List (List Value)}{cs:Array Value}(h:Blk w B ty cs)(hB:B<N)(hs:∀r∈rows,r.length=size)(hf:rows.flatten=cs.toList):bD N (some ⟨B,0,none⟩) size rows w:=λi r hr=>by
 refine⟨B,0,rfl,hB,λj v hv=>?_⟩;have:=NJ hs hr hv;rw[hf,Array.getElem?_toList]at this;rw[h.cell,Nat.zero_add];exact this
theorem Qm{fn:Func}{a:Tmp}{ta:TypeId}(h:fn.results=#[.cell a ta]){tmps:Array Value}{P:Program}{w:World}{x:Addr}{u:Value}(ha:tmps.getD a undef=.pointer (some x))(hu:(loadVar ta x).run P w=.ok u w):(results fn tmps).run P w=.ok u w:=by
 simp only[results,h];simp at ha;simp[Sem.run_bind,Result.andThen,asAddr,ha,hu]
theorem load27{w:World}{B:Nat}{a b c d:Value}(h:Blk w B 27 #[a,b,c,d]):(loadVar 27 ⟨B,0,none⟩).run Tryz.prog w=.ok (.agg #[a,b,c,d]) w:=by
 have c0:=h.cell 0;have c1:=h.cell 1;have c2:=h.cell 2;have c3:=h.cell 3;simp at c0 c1 c2 c3;have hs:=Tryz.sizeOf27;have ha:=Tryz.isAgg27;simp[loadVar,go_sem,c0,c1,c2,c3,hs,ha,loadCells,loadCellsFrom,Addr.add]
abbrev exA(w:World):Array Value:=#[.slice (some ⟨w.heap.size+1,0,none⟩) 2 2,.slice (some ⟨w.heap.size+1+1,0,none⟩) 2 2,.slice (some ⟨w.heap.size+1+1+1,0,none⟩) 3 3,.slice (some ⟨w.heap.size+1+1+1+1,0,none⟩) 6 6]
abbrev exC:Array Value:=#[.string ⟨#[101,117,114]⟩,.string ⟨#[99,104,102]⟩]
abbrev exT:Array Value:=#[.string ⟨#[102,105,108,101]⟩,.int .i64 0,.int .i64 100,.int .i64 30,.int .i64 1,.string ⟨#[107,101,101,112]⟩,.int .i64 1,.int .i64 50,.int .i64 0,.int .i64 0]
abbrev exK:Array Value:=#[.string ⟨#[97]⟩,.int .i64 0,.int .i64 3,.int .i64 10,.int .i64 5,.int .i64 20,.string ⟨#[98]⟩,.int .i64 1,.int .i64 1,.int .i64 8,.int .i64 0,.int .i64 0,.string ⟨#[99]⟩,.int .i64 0,.int .i64 1,.int .i64 20,.int .i64 0,.int .i64 0]
abbrev exP:Array Value:=#[.int .i64 0,.int .i64 4,.int .i64 0,.int .i64 150,.int .i64 0,.int .i64 1,.int .i64 6,.int .i64 1,.int .i64 30,.int .i64 0,.int .i64 0,.int .i64 7,.int .i64 0,.int .i64 40,.int .i64 1,.int .i64 2,.int .i64 9,.int .i64 0,.int .i64 30,.int .i64 0,.int .i64 2,.int .i64 12,.int .i64 0,.int .i64 30,.int .i64 0,.int .i64 0,.int .i64 12,.int .i64 0,.int .i64 5,.int .i64 0]
abbrev exW(w:World):World:=((((w.alloc (.cells (exA w) 27)).alloc (.cells exC 9)).alloc (.cells exT 186)).alloc (.cells exK 46)).alloc (.cells exP 93)
abbrev exL(w:World):Lay:=⟨some ⟨w.heap.size+1,0,none⟩,some ⟨w.heap.size+1+1,0,none⟩,some ⟨w.heap.size+1+1+1,0,none⟩,some ⟨w.heap.size+1+1+1+1,0,none⟩,2,2,3,6⟩
theorem Si(w:World):Blk (exW w) w.heap.size 27 (exA w)∧Blk (exW w) (w.heap.size+1) 9 exC∧Blk (exW w) (w.heap.size+1+1) 186 exT∧Blk (exW w) (w.heap.size+1+1+1) 46 exK∧Blk (exW w) (w.heap.size+1+1+1+1) 93 exP:=by
 have nx:∀(W:World) (o:Obj) {B:Nat} {ty:TypeId} {c:Array Value},Blk W B ty c→Blk (W.alloc o) B ty c:=λW o B ty c h=>h.below ((Below.refl _ W).alloc (ak _) o);have h0:=Blk.new w (exA w) 27;have h1:=Blk.new (w.alloc (.cells (exA w) 27)) exC 9;have h2:=Blk.new ((w.alloc (.cells (exA w) 27)).alloc (.cells exC 9)) exT 186;have h3:=Blk.new (((w.alloc (.cells (exA w) 27)).alloc (.cells exC 9)).alloc (.cells exT 186)) exK 46;have h4:=Blk.new ((((w.alloc (.cells (exA w) 27)).alloc (.cells exC 9)).alloc (.cells exT 186)).alloc (.cells exK 46)) exP 93;simp only[World.size_alloc]at h1 h2 h3 h4;exact⟨nx _ _ (nx _ _ (nx _ _ (nx _ _ h0))),nx _ _ (nx _ _ (nx _ _ h1)),nx _ _ (nx _ _ h2),nx _ _ h3,h4⟩
theorem RZ(w:World):Below w.heap.size w (exW w):=((((((Below.refl _ w).alloc (ak _) _).alloc (by simp) _).alloc (by simp;omega) _).alloc (by simp;omega) _).alloc (by simp;omega) _)
theorem ex_bk(w:World):dZ (exW w).heap.size (exL w) bf (exW w):=by
 obtain⟨_,h1,h2,h3,h4⟩:=Si w;refine⟨ak _,pV h1 h1.lt ?_ rfl,pV h2 h2.lt ?_ rfl,pV h3 h3.lt ?_ rfl,pV h4 h4.lt ?_ rfl⟩
 all_goals (intro r hr;simp only[bf,List.map_cons,List.map_nil,List.mem_cons,List.not_mem_nil,or_false]at hr)
 ·rcases hr with rfl|rfl<;>rfl
 ·rcases hr with rfl|rfl<;>rfl
 ·rcases hr with rfl|rfl|rfl<;>rfl
 ·rcases hr with rfl|rfl|rfl|rfl|rfl|rfl<;>rfl
set_option maxHeartbeats 16000000 in
theorem Ld(w:World):CallsIn Fz 0 Tryz.prog 31 #[] w λe w'=>∃l,e=.returned (l.val bf)∧dZ w'.heap.size l bf w'∧Below w.heap.size w w':=by
 have hb:=Si w;have hk:=ex_bk w;have hl:=RZ w;have HB:=Lib.hid hb;have HK:=Lib.hid hk;have HL:=Lib.hid hl;clear hb hk hl;gi_enter Tryz.func31,Tryz.ntmps31
 gi_wp2
 (try simp only[Exit.inBlock,Exit.then])
 exact bodyPost_ret (Qm (fn:=Tryz.f31) rfl rfl (load27 HB.out.1)) rfl ⟨exL w,rfl,HK.out,HL.out⟩
end
section
set_option maxHeartbeats 1000000
set_option maxRecDepth 10000
open Go Go.RowKit Lift
def pv(cases proof:List Int)(L:List (Int×Int))(a:Int):Nat→Option (Nat×Nat×Int×Int)
 |0=>some (0,0,a,0)
 |i+1=>match pv cases proof L a i with
  |none=>none
  |some (k,s,l,h)=>if decide ((L.getD i (0,0)).1∈proof)&&(L.take i).any (gI (L.getD i (0,0)).2 proof)then none else
   some (if(L.getD i (0,0)).1∈cases then k+1 else k,if(L.getD i (0,0)).1∈proof then s+1 else s,if(L.getD i (0,0)).1∈cases then wrap64 (l - (L.getD i (0,0)).2)else l,if(L.getD i (0,0)).1∈proof then wrap64 (h+(L.getD i (0,0)).2)else h)
theorem pv_none{cases proof:List Int}{L:List (Int×Int)}{a:Int}{i:Nat}(h:pv cases proof L a i=none):∀m,i≤m→pv cases proof L a m=none:=λm hm=>by
 induction m with
 |zero=>have:i=0:=by omega
        subst this;exact h
 |succ m ih=>
  by_cases e:i=m+1
  ·subst e;exact h
  ·rw[pv,ih (by omega)]
theorem pv_succ{cases proof:List Int}{L:List (Int×Int)}{a:Int}{i k s:Nat}{l h x1 x2:Int}(e:pv cases proof L a i=some (k,s,l,h))(hx:L.getD i (0,0)=(x1,x2)) :
  pv cases proof L a (i+1)=if decide (x1∈proof)&&(L.take i).any (gI x2 proof)then none else some (if x1∈cases then k+1 else k,if x1∈proof then s+1 else s,if x1∈cases then wrap64 (l - x2)else l,if x1∈proof then wrap64 (h+x2)else h):=by
 rw[pv,e,hx]
theorem Ui{cases proof:List Int}{L:List (Int×Int)}{a:Int}:∀{i k s:Nat} {l h:Int},pv cases proof L a i=some (k,s,l,h)→k≤i∧s≤i
 |0,k,s,l,h,e=>by cases e;exact⟨ak _,ak _⟩
 |i+1,k,s,l,h,e=>by
  rw[pv]at e;cases e0:pv cases proof L a i with
  |none=>rw[e0]at e;cases e
  |some q=>
   obtain⟨k0,s0,l0,h0⟩:=q;have:=Ui e0;rw[e0]at e;simp only at e;split at e
   ·cases e
   ·simp only[Option.some.injEq,Prod.mk.injEq]at e;obtain⟨rfl,rfl,_,_⟩:=e;constructor<;>split<;>omega
def nN(cases proof:List Int)(L:List (Int×Int))(a:Int):Bool:=match pv cases proof L a L.length with
 |none=>false
 |some (k,s,l,h)=>!decide (l<0)&&(if k=L.length∧s=0 then true else !(decide (k=L.length)||decide (s≠k+1)||decide (h≤a)))
def Book.proves(b:Book)(s:St)(day:Int)(cases proof:List Int):Bool:=b.dF s cases cases.length&&b.dF s proof proof.length&&(List.range b.aK.length).all λc=>nN cases proof (b.short s day c) (s.acc c)
structure mQ (w3:World) (Lb Sh:Nat) (lf hf:Nat→Int) (w:World):Prop where
 hb:Below w3.heap.size w3 w
 hL:Blk w Lb 131 #[.int .i64 (lf 0),.int .i64 (lf 1),.int .i64 (lf 2)]
 hS:Blk w Sh 131 #[.int .i64 (hf 0),.int .i64 (hf 1),.int .i64 (hf 2)]
 gL:w3.heap.size≤Lb
 gS:w3.heap.size≤Sh
 ne:Lb≠Sh
theorem arr3(f:Nat→Int){c:Nat}(hc:c<3):(#[Value.int .i64 (f 0),.int .i64 (f 1),.int .i64 (f 2)]:Array Value)[c]?=some (.int .i64 (f c)):=
 match c,hc with
 |0,_=>rfl
 |1,_=>rfl
 |2,_=>rfl
theorem Ik(f:Nat→Int){c:Nat}(hc:c<3)(x:Int):(#[Value.int .i64 (f 0),.int .i64 (f 1),.int .i64 (f 2)]:Array Value).setIfInBounds c (.int .i64 x)=#[.int .i64 (upd f c x 0),.int .i64 (upd f c x 1),.int .i64 (upd f c x 2)]:=
 match c,hc with
 |0,_=>rfl
 |1,_=>rfl
 |2,_=>rfl
section
variable {w3 w w':World} {Lb Sh:Nat} {lf hf:Nat→Int}
theorem mQ.same(h:mQ w3 Lb Sh lf hf w)(hb:Below w.heap.size w w'):mQ w3 Lb Sh lf hf w':=⟨h.hb.trans (hb.mono h.hb.size),h.hL.below hb,h.hS.below hb,h.gL,h.gS,h.ne⟩
theorem mQ.drew(h:mQ w3 Lb Sh lf hf w):mQ w3 Lb Sh lf hf w.drew:=h.same ⟨rfl,rfl,rfl,ak _,λ_ _=>rfl⟩
theorem mQ.setL(h:mQ w3 Lb Sh lf hf w){c:Nat}(hc:c<3)(x:Int):mQ w3 Lb Sh (upd lf c x) hf (w.setCell ⟨Lb,c,none⟩ (.int .i64 x)):=
 ⟨h.hb.setCell (p:=⟨Lb,c,none⟩) h.gL _,by rw[← Ik lf hc];exact h.hL.vJ _ _,h.hS.set h.ne _,h.gL,h.gS,h.ne⟩
theorem mQ.Ho(h:mQ w3 Lb Sh lf hf w){c:Nat}(hc:c<3)(x:Int):mQ w3 Lb Sh lf (upd hf c x) (w.setCell ⟨Sh,c,none⟩ (.int .i64 x)):=
 ⟨h.hb.setCell (p:=⟨Sh,c,none⟩) h.gS _,h.hL.set h.ne.symm _,by rw[← Ik hf hc];exact h.hS.vJ _ _,h.gL,h.gS,h.ne⟩
theorem mQ.cL(h:mQ w3 Lb Sh lf hf w){c:Nat}(hc:c<3):w.cell? ⟨Lb,c,none⟩=some (.int .i64 (lf c)):=by rw[h.hL.cell,arr3 lf hc]
theorem mQ.cS(h:mQ w3 Lb Sh lf hf w){c:Nat}(hc:c<3):w.cell? ⟨Sh,c,none⟩=some (.int .i64 (hf c)):=by rw[h.hS.cell,arr3 hf hc]
end
structure kE (w3:World) (Lb Sh:Nat) (lf hf:Nat→Int) (X:Nat) (x1 x2:Int) (N n g cap:Nat) (L:List (Int×Int)) (w:World):Prop where
 pr:mQ w3 Lb Sh lf hf w
 hX:Blk w X 193 #[.int .i64 x1,.int .i64 x2]
 row:w.ownsRow N 193 2 (.slice (some ⟨g,0,none⟩) n cap) L.length (L.flatMap dV)
section
variable {w3 w w':World} {Lb Sh:Nat} {lf hf:Nat→Int} {X N n g cap:Nat} {x1 x2:Int} {L:List (Int×Int)}
theorem kE.same(h:kE w3 Lb Sh lf hf X x1 x2 N n g cap L w)(hb:Below w.heap.size w w'):kE w3 Lb Sh lf hf X x1 x2 N n g cap L w':=⟨h.pr.same hb,h.hX.below hb,dP h.row hb⟩
theorem kE.drew(h:kE w3 Lb Sh lf hf X x1 x2 N n g cap L w):kE w3 Lb Sh lf hf X x1 x2 N n g cap L w.drew:=h.same ⟨rfl,rfl,rfl,ak _,λ_ _=>rfl⟩
theorem zI{w:World}{v:Value}{xs:List Value}{m k:Nat}(h:w.ownsRow N 193 k v m xs){B:Nat}{ty:TypeId}{c:Array Value}(hB:Blk w B ty c)(ht:ty≠193):v.ownBlock≠some B:=λe=>by
 obtain⟨cur,hc⟩:=oK h e;exact ht (hB.inj hc).1
theorem kE.setL(h:kE w3 Lb Sh lf hf X x1 x2 N n g cap L w){c:Nat}(hc:c<3)(x:Int):kE w3 Lb Sh (upd lf c x) hf X x1 x2 N n g cap L (w.setCell ⟨Lb,c,none⟩ (.int .i64 x)):=
 ⟨h.pr.setL hc x,h.hX.set (λe=>by have:=(h.hX.inj (e▸h.pr.hL)).1;exact absurd this (by decide)) _,lN h.row (zI h.row h.pr.hL (by decide))⟩
theorem kE.Ho(h:kE w3 Lb Sh lf hf X x1 x2 N n g cap L w){c:Nat}(hc:c<3)(x:Int):kE w3 Lb Sh lf (upd hf c x) X x1 x2 N n g cap L (w.setCell ⟨Sh,c,none⟩ (.int .i64 x)):=
 ⟨h.pr.Ho hc x,h.hX.set (λe=>by have:=(h.hX.inj (e▸h.pr.hS)).1;exact absurd this (by decide)) _,lN h.row (zI h.row h.pr.hS (by decide))⟩
theorem kE.madeL(h:mQ w3 Lb Sh lf hf w)(row:w.ownsRow N 193 2 (.slice (some ⟨g,0,none⟩) n cap) L.length (L.flatMap dV)){c:Nat}(hc:c<3)(x:Int):kE w3 Lb Sh (upd lf c x) hf w.heap.size x1 x2 N n g cap L ((w.setCell ⟨Lb,c,none⟩ (.int .i64 x)).alloc (.cells #[.int .i64 x1,.int .i64 x2] 193)).drew:=by
 have hn:=Blk.new (w.setCell ⟨Lb,c,none⟩ (.int .i64 x)) #[.int .i64 x1,.int .i64 x2] 193;have e:(w.setCell ⟨Lb,c,none⟩ (.int .i64 x)).heap.size=w.heap.size:=by simp[World.setCell]
 rw[e]at hn;exact kE.drew ⟨(h.setL hc x).same ((Below.refl _ _).alloc (ak _) _),hn,(lN row (zI row h.hL (by decide))).alloc _⟩
theorem kE.madeS(h:mQ w3 Lb Sh lf hf w)(row:w.ownsRow N 193 2 (.slice (some ⟨g,0,none⟩) n cap) L.length (L.flatMap dV)){c:Nat}(hc:c<3)(x:Int):kE w3 Lb Sh lf (upd hf c x) w.heap.size x1 x2 N n g cap L ((w.setCell ⟨Sh,c,none⟩ (.int .i64 x)).alloc (.cells #[.int .i64 x1,.int .i64 x2] 193)).drew:=by
 have hn:=Blk.new (w.setCell ⟨Sh,c,none⟩ (.int .i64 x)) #[.int .i64 x1,.int .i64 x2] 193;have e:(w.setCell ⟨Sh,c,none⟩ (.int .i64 x)).heap.size=w.heap.size:=by simp[World.setCell]
 rw[e]at hn;exact kE.drew ⟨(h.Ho hc x).same ((Below.refl _ _).alloc (ak _) _),hn,(lN row (zI row h.hS (by decide))).alloc _⟩
end
end
section
set_option maxHeartbeats 1000000
set_option maxRecDepth 10000
open Go Go.RowKit Lift
section
variable {F:Fence} {n:Nat} {P:Program} {Q:Exit→Act→World→Prop} {a:Act} {w:World} {b:Frame} {k:List Item} {cs:List Frame}
theorem jv{c:Code}:step P (lone (b.atR a (.code (.scope c)::k)) cs w)=.next (lone (b.atR a (.code c::.inScope c::k)) cs w):=step_lone_go (by simp[stepG,stepG.exec,Frame.atR])
theorem DW{c:Code}:step P (lone (b.atR a (.inScope c::k)) cs w)=.next (lone (b.atR a k) cs w):=step_lone_go (by simp[stepG,stepG.exec,Frame.atR])
theorem vP{c:Code}(hg:∀l a w,¬Q (.goto l) a w)(h:c.wpIn F n P Q a w):(Code.scope c).wpIn F n P Q a w:=by
 intro b k cs hro hb hr;have h0:(lone (b.atR a (.code (.scope c)::k)) cs w).fenced P F:=fenced_calm hb hr rfl;obtain⟨e,a₁,w₁,hq,harr⟩:=h b (.inScope c::k) cs hro hb hr;cases e with
 |normal=>exact⟨.normal,a₁,w₁,hq,.head h0 jv (StepsIn.trans harr (.one (fenced_calm hb hr rfl) DW))⟩
 |exit id=>
  have hx:exitTo id (.inScope c::k)=exitTo id k:=by simp[exitTo]
  exact⟨.exit id,a₁,w₁,hq,λk' hk=>.head h0 jv (harr.1 k' (by rw[hx];exact hk)),λhr' hk=>let ⟨k₁,h1,h2⟩:=harr.2 hr' (by rw[hx];exact hk);⟨k₁,h1,.head h0 jv h2⟩⟩
 |goto l=>exact absurd hq (hg l a₁ w₁)
 |ret=>exact⟨_,a₁,w₁,hq,.of_steps (.one h0 jv) harr⟩
 |panic ch=>exact⟨_,a₁,w₁,hq,.of_steps (.one h0 jv) harr⟩
 |outgrown=>exact⟨_,a₁,w₁,hq,.of_steps (.one h0 jv) harr⟩
end
theorem GR{w:World}{N:Nat}{e:TypeId}{k n:Nat}{v:Value}{xs:List Value}(h:w.ownsRow N e k v n xs):∃a c,v=.slice a n c:=by
 rcases h.2 with⟨rfl,rfl⟩|⟨g,cap,cur,rfl,_⟩
 ·exact⟨_,_,rfl⟩
 ·exact⟨_,_,rfl⟩
theorem all_succ(f:Nat→Bool)(c:Nat):((List.range (c+1)).all f)=((List.range c).all f&&f c):=by
 rw[List.range_succ,List.all_append];simp
theorem all_false{f:Nat→Bool}{c n:Nat}(hc:c<n)(h:f c=false):(List.range n).all f=false:=by
 cases e:(List.range n).all f with
 |false=>rfl
 |true=>rw[List.all_eq_true]at e;have:=e c (List.mem_range.2 hc);rw[h]at this;cases this
set_option maxHeartbeats 64000000 in
set_option maxRecDepth 100000 in
theorem Ov{N:Nat}{l:Lay}{b:Book}{w:World}(hbk:dZ N l b w)(hf:Full b)(hkd:bK w){day:Int}(h0:0≤day)(h1:day≤9999){vc vp:Value}{cases proof:List Int}(hvc:eY w vc cases)(hvp:eY w vp proof)(hnc:cases.length<1000000)(hnp:proof.length<1000000) :
  CallsIn Fz 0 Tryz.prog 36 #[l.val b,.int .i64 day,vc,vp] w λe w'=>e=.returned (.tuple #[.bool (b.proves (b.after day) day cases proof),.int .i64 0])∧Below w.heap.size w w':=by
 have hw0:=hkd.lt;have hncc:=hf.v.nc;have hnk:=hf.v.nk;have hb1:Below w.heap.size w (w.alloc (.cells (l.arr b) 27)):=(Below.refl _ w).alloc (ak _) _;have hA1:=Blk.new w (l.arr b) 27;have hb2:=hb1.alloc (by simp) (.cells #[vp] 28);have hA2:=hA1.below ((Below.refl _ _).alloc (ak _) (.cells #[vp] 28));have hP2:=Blk.new (w.alloc (.cells (l.arr b) 27)) #[vp] 28;have hafter:=λw' (h:Below w.heap.size w w')=>oW (m:=0) (nU (hbk.top.below h) hf.v (hkd.below h hw0) day);have jG:=λw' (h:Below w.heap.size w w')=>kV (hbk.top.below h) hf h0 h1;have hvc1:=hvc;have hvp1:=hvp;obtain⟨bp,op,cpp,rfl,_⟩:=hvp1;simp only[World.size_alloc]at hA2 hP2;unfold Lay.val at *;have a0:=hA2.cell 0;have a1:=hA2.cell 1;have a2:=hA2.cell 2;have a3:=hA2.cell 3;simp at a0 a1 a2 a3;obtain⟨r,hr⟩:∃r,b.proves (b.after day) day cases proof=r:=⟨_,rfl⟩
 rw[hr];have HR:(b.dF (b.after day) cases cases.length=true∧b.dF (b.after day) proof proof.length=true∧Hid (r=(List.range b.aK.length).all λc=>nN cases proof (b.short (b.after day) day c) ((b.after day).acc c)))∨(b.dF (b.after day) cases cases.length=true∧b.dF (b.after day) proof proof.length=false∧r=false)∨(b.dF (b.after day) cases cases.length=false∧r=false):=by
  rw[← hr];unfold Book.proves;cases e1:b.dF (b.after day) cases cases.length with
  |false=>exact .inr (.inr ⟨rfl,rfl⟩)
  |true=>cases e2:b.dF (b.after day) proof proof.length with
   |false=>exact .inr (.inl ⟨rfl,rfl,rfl⟩)
   |true=>exact .inl ⟨rfl,rfl,Lib.hid rfl⟩
 clear hr;rcases HR with⟨ok1,ok2,OK⟩|⟨ok1,ok2,rfl⟩|⟨ok1,rfl⟩
 all_goals
  gi_enter Tryz.func36,Tryz.ntmps36
  gi_wp2;refine vP (λ_ _ _ h=>h) ?_
  gi_wp2_with (first
  |(gi_at_call 45;refine(jG _ hb2).mono ?_;rintro e w2 ⟨rfl,IY⟩;have HB2:=hb2.trans (IY.mono hb2.size);have HB:=HB2.alloc HB2.size (.cells (l.arr b) 123);have Ku:=(hA2.below IY).below ((Below.refl _ _).alloc (ak _) (.cells (l.arr b) 123));have hP4:=(hP2.below IY).below ((Below.refl _ _).alloc (ak _) (.cells (l.arr b) 123)))
  |(gi_at_call 47;refine(hafter _ HB).mono ?_;rintro e w3 ⟨T,Sb,rfl,H,hbB⟩;have HB3:=HB.trans (hbB.mono HB.size);have Dl:=Ku.below hbB;have NQ:=hP4.below hbB;have e0:=Dl.cell 0;have e1:=Dl.cell 1;have e2:=Dl.cell 2;have e3:=Dl.cell 3;have eL:=Dl.lt;have p0:=NQ.cell 0;have pL:=NQ.lt;simp at e0 e1 e2 e3 p0;have t0:=H.c5;have t1:=H.c6;have t2:=H.c7;have tL:=H.ltT;have hc3:=hvc.below HB3;have hp3:=hvp.below HB3;simp only[Tl.bare]at t0 t1 t2 tL)
  |(gi_at_call 85;refine(TJ H hf.v (by first|exact hc3|exact hp3) (by first|exact hnc|exact hnp)).mono ?_;rintro e w4 ⟨rfl,rfl⟩))
 rotate_left
 iterate 2
  ·(try simp only[Exit.inBlock,Exit.then])
   refine bodyPost_ret (results_tmp2 rfl _ _ _) rfl ?_;exact⟨rfl,HB3⟩
 refine wpIn_label ?_;gi_wp2;have hP0:mQ w4 w4.heap.size (w4.heap.size+1) (b.after day).acc (λ_=>0) ((w4.alloc (.cells #[.int .i64 ((b.after day).acc 0),.int .i64 ((b.after day).acc 1),.int .i64 ((b.after day).acc 2)] 131)).alloc (.cells #[.int .i64 0,.int .i64 0,.int .i64 0] 131)):=by
  refine⟨((Below.refl _ w4).alloc (ak _) _).alloc (by simp) _,(Blk.new w4 _ 131).below ((Below.refl _ _).alloc (ak _) _),?_,ak _,Nat.le_succ _,by omega⟩;have:=Blk.new (w4.alloc (.cells #[.int .i64 ((b.after day).acc 0),.int .i64 ((b.after day).acc 1),.int .i64 ((b.after day).acc 2)] 131)) #[.int .i64 0,.int .i64 0,.int .i64 0] 131;simpa using this
 gi_loopw [51] (λi wr=>∃c:Nat,c≤b.aK.length∧i=.int .i64 c∧((List.range c).all λc=>nN cases proof (b.short (b.after day) day c) ((b.after day).acc c))=true∧∃lf hf:Nat→Int,(∀j,c≤j→j<3→lf j=(b.after day).acc j∧hf j=0)∧mQ w4 w4.heap.size (w4.heap.size+1) lf hf wr) (λi _=>b.aK.length - (intOf i).toNat)
 case atStart=>exact⟨0,Nat.zero_le _,rfl,rfl,_,_,λj _ _=>⟨rfl,rfl⟩,hP0⟩
 case round=>
  obtain⟨c,hc,rfl,hall,lf,hfx,hlf,HP⟩:=hrel;by_cases hlt:c<b.aK.length
  ·have Ht:=H.same HP.hb
   gi_wp2_with (gi_at_call 84;refine(Oe Ht hf.v day).mono ?_;rintro e w5 ⟨v5,rfl,ho5,hb5⟩;obtain⟨a5,c5,rfl⟩:=GR ho5)
   have hLl:(b.short (b.after day) day c).length=(b.lacks (b.after day) c day b.cs.length).length:=iU _;have hLs:=pY b (b.after day) day c;have HR:w5.ownsRow wr.heap.size 193 2 (.slice a5 (b.lacks (b.after day) c day b.cs.length).length c5) (b.short (b.after day) day c).length ((b.short (b.after day) day c).flatMap dV):=by rw[hLl];exact ho5
   have HP5:=HP.same hb5;have hcs:=hlf c (ak _) (by omega);have yC:∀j,c+1≤j→j<3→lf j=(b.after day).acc j∧hfx j=0:=λj h1 h2=>hlf j (by omega) h2;have ACC:=Lib.hid hall;clear hall hlf ho5;rw[← hLl]at HR ⊢;have HLL:=Lib.hid hLl;clear hLl;have DEFL:∃L,b.short (b.after day) day c=L:=⟨_,rfl⟩
   obtain⟨L,hL⟩:=DEFL;rw[hL]at HR hLs ⊢;have HLd:=Lib.hid hL;clear hL;gi_loopw [17,18,60] (λkv sv i wr=>∃(j k s:Nat) (lf hf:Nat→Int),j≤L.length∧i=.int .i64 j∧kv=.int .i64 k∧sv=.int .i64 s∧pv cases proof L ((b.after day).acc c) j=some (k,s,lf c,hf c)∧(∀j,c+1≤j→j<3→lf j=(b.after day).acc j∧hf j=0)∧mQ w4 w4.heap.size (w4.heap.size+1) lf hf wr∧wr.ownsRow w4.heap.size 193 2 (.slice a5 L.length c5) L.length (L.flatMap dV)) (λ_ _ i _=>L.length - (intOf i).toNat)
   case atStart=>exact⟨0,0,0,lf,hfx,Nat.zero_le _,rfl,rfl,rfl,by rw[hcs.1,hcs.2];rfl,yC,HP5,qU HR HP.hb.size⟩
   case round=>
    obtain⟨j,k,s,lf,hfx,hj,rfl,rfl,rfl,hpv,yC,CX,HRr⟩:=hrel;by_cases hjl:j<L.length
    ·obtain⟨g,rfl,hcap⟩:∃g,a5=some ⟨g,0,none⟩∧L.length≤c5:=by
      rcases HRr.2 with⟨e,e0⟩|⟨g,cap,cur,e,_,_,e3,_⟩
      ·omega
      ·cases e;exact⟨g,rfl,e3⟩
     have hjc:j≤c5:=by omega
     have hjc':(j:Int)≤(c5:Int):=by omega
     have c0:=(jq HRr hjl).1;have c1:=(jq HRr hjl).2;have gl:=(HRr.lt g rfl).2;obtain⟨⟨x1,x2⟩,hx⟩:∃x,L.getD j (0,0)=x:=⟨_,rfl⟩
     have hps:=pv_succ hpv hx;have hle:=Ui hpv;rw[hx]at c0 c1;simp only at c0 c1;have HX:=Lib.hid hx;clear hx hpv;have hb0:Below wr.heap.size wr (wr.alloc (.cells #[.int .i64 x1,.int .i64 x2] 193)):=(Below.refl _ _).alloc (ak _) _;have HI0:kE w4 w4.heap.size (w4.heap.size+1) lf hfx wr.heap.size x1 x2 w4.heap.size L.length g c5 L (wr.alloc (.cells #[.int .i64 x1,.int .i64 x2] 193)):=⟨CX.same hb0,Blk.new wr _ 193,HRr.alloc _⟩
     have hcA:=hc3.below HI0.pr.hb;have hpA:=hp3.below HI0.pr.hb;have q0:=(NQ.below CX.hb).cell 0;have ql:=(NQ.below CX.hb).lt;have cL:=CX.cL (show c<3 by omega);have cS:=CX.cS (show c<3 by omega);have lL:=CX.hL.lt;have lS:=CX.hS.lt;have fL:=CX.hL.frozen c;have fS:=CX.hS.frozen c;have hc3':(c:Int)<3:=by omega
     have hk1:IntKind.i64.wrap ((k:Int)+1)=k+1:=by rw[IntKind.wrap_i64];omega
     have hs1:IntKind.i64.wrap ((s:Int)+1)=s+1:=by rw[IntKind.wrap_i64];omega
     simp at q0;have PS:=Lib.hid hps;clear hps;have hpB:=hpA;by_cases hC:x1∈cases
     focus
      gi_wp2_with (gi_at_call 58;refine(kP _ _ _ _ (by first|exact hcA|exact hpA|exact hpB) (by first|exact hnc|exact hnp)).mono ?_;rintro e w6 ⟨rfl,rfl⟩)
      gi_big_region
      generalize hw:World.drew _=w7;have QI:kE w4 w4.heap.size (w4.heap.size+1) (upd lf c (wrap64 (lf c-x2))) hfx wr.heap.size x1 x2 w4.heap.size L.length g c5 L w7:=by rw[← hw];exact kE.madeL CX HRr (show c<3 by omega) _
      have hpB:=hp3.below QI.pr.hb;have r0:=(NQ.below QI.pr.hb).cell 0;have rl:=(NQ.below QI.pr.hb).lt;have X0:=QI.hX.cell 0;have X1:=QI.hX.cell 1;have Xl:=QI.hX.lt;have sS:=QI.pr.cS (show c<3 by omega);have gS:=QI.pr.hS.frozen c;have gSl:=QI.pr.hS.lt;simp at r0 X0 X1;clear c0 c1 cL cS q0 fL fS hw
     all_goals by_cases hP:x1∈proof
     focus
      gi_wp2_with (gi_at_call 58;refine(kP _ _ _ _ (by first|exact hcA|exact hpA|exact hpB) (by first|exact hnc|exact hnp)).mono ?_;rintro e w6 ⟨rfl,rfl⟩)
      gi_big_region
      generalize hw:World.drew _=w8;have QJ:kE w4 w4.heap.size (w4.heap.size+1) (upd lf c (wrap64 (lf c-x2))) (upd hfx c (wrap64 (hfx c+x2))) wr.heap.size x1 x2 w4.heap.size L.length g c5 L w8:=by rw[← hw];exact(QI.Ho (show c<3 by omega) _).drew
      have NX:=Lib.hid (λq:(L.take j).any (gI x2 proof)=false=>show pv cases proof L ((b.after day).acc c) (j+1)=some (k+1,s+1,(upd lf c (wrap64 (lf c - x2))) c,(upd hfx c (wrap64 (hfx c+x2))) c) by rw[PS.out];simp[hC,hP,q]);clear hw r0 X0 X1 sS
     rotate_left
     ·gi_wp2_with (gi_at_call 58;refine(kP _ _ _ _ (by first|exact hcA|exact hpA|exact hpB) (by first|exact hnc|exact hnp)).mono ?_;rintro e w6 ⟨rfl,rfl⟩)
      go_roundw
      case rel=>
       refine⟨j+1,k+1,s,(upd lf c (wrap64 (lf c-x2))),hfx,by omega,by go_num,by go_num,by go_num,?_,λi h1 h2=>by have:=yC i h1 h2;simpa[upd,show i≠c by omega]using this,QI.pr,QI.row⟩;rw[PS.out];simp[hC,hP]
      case measure=>simp[intOf];omega
     focus
      gi_wp2_with (gi_at_call 58;refine(kP _ _ _ _ (by first|exact hcA|exact hpA|exact hpB) (by first|exact hnc|exact hnp)).mono ?_;rintro e w6 ⟨rfl,rfl⟩)
      gi_big_region
      generalize hw:World.drew _=w8;have QJ:kE w4 w4.heap.size (w4.heap.size+1) lf (upd hfx c (wrap64 (hfx c+x2))) wr.heap.size x1 x2 w4.heap.size L.length g c5 L w8:=by rw[← hw];exact kE.madeS CX HRr (show c<3 by omega) _
      have NX:=Lib.hid (λq:(L.take j).any (gI x2 proof)=false=>show pv cases proof L ((b.after day).acc c) (j+1)=some (k,s+1,lf c,(upd hfx c (wrap64 (hfx c+x2))) c) by rw[PS.out];simp[hC,hP,q]);clear hw c0 c1 cL cS q0 fL fS
     rotate_left
     ·gi_wp2_with (gi_at_call 58;refine(kP _ _ _ _ (by first|exact hcA|exact hpA|exact hpB) (by first|exact hnc|exact hnp)).mono ?_;rintro e w6 ⟨rfl,rfl⟩)
      go_roundw
      case rel=>
       refine⟨j+1,k,s,lf,hfx,by omega,by go_num,rfl,rfl,?_,yC,HI0.pr,HI0.row⟩;rw[PS.out];simp[hC,hP]
      case measure=>simp[intOf];omega
     all_goals
      have z0:=(NQ.below QJ.pr.hb).cell 0;have zl:=(NQ.below QJ.pr.hb).lt;simp at z0;have hca:=RI QJ.hX (NQ.below QJ.pr.hb) (hp3.below QJ.pr.hb) hnp QJ.row (show j≤L.length by omega) (by omega);have PF:Hid ((L.take j).any (gI x2 proof)=true→nN cases proof (b.short (b.after day) day c) ((b.after day).acc c)=false):=by
       intro q;rw[HLd.out,nN,pv_none (by rw[PS.out];simp[hP,q]) L.length (by omega)]
      generalize (L.take j).any (gI x2 proof)=y at *;cases y with
      |true=>
       gi_wp2_with (gi_at_call 86;refine hca.mono ?_;rintro e w9 ⟨rfl,Hz⟩)
       (try simp only[Exit.inBlock,Exit.then])
       refine bodyPost_ret (results_tmp2 rfl _ _ _) rfl ?_;exact⟨by rw[OK.out,all_false hlt (PF.out (by trivial))];rfl,HB3.trans ((QJ.same Hz).pr.hb.mono HB3.size)⟩
      |false=>
       gi_wp2_with (gi_at_call 86;refine hca.mono ?_;rintro e w9 ⟨rfl,Hz⟩)
       go_roundw
       case rel=>
        first
        |exact⟨j+1,k+1,s+1,_,_,by omega,by go_num,by go_num,by go_num,NX.out (by trivial),λi h1 h2=>by have:=yC i h1 h2;simpa[upd,show i≠c by omega]using this,(QJ.same Hz).pr,(QJ.same Hz).row⟩
        |exact⟨j+1,k,s+1,_,_,by omega,by go_num,by go_num,by go_num,NX.out (by trivial),λi h1 h2=>by have:=yC i h1 h2;simpa[upd,show i≠c by omega]using this,(QJ.same Hz).pr,(QJ.same Hz).row⟩
       case measure=>simp[intOf];omega
    ·obtain rfl:j=L.length:=by omega
     have Ht2:=H.same CX.hb;have cL:=CX.cL (show c<3 by omega);have cS:=CX.cS (show c<3 by omega);have lL:=CX.hL.lt;have lS:=CX.hS.lt;have tA:=Ht2.yV (show c<3 by omega);have tL2:=Ht2.ltT;have hc3':(c:Int)<3:=by omega
     simp only[Tl.bare]at tA tL2;have HPV:=Lib.hid hpv;have hle:=Ui hpv;clear hpv;obtain⟨lv,hlv⟩:∃x,lf c=x:=⟨_,rfl⟩
     obtain⟨sv,hsv⟩:∃x,hfx c=x:=⟨_,rfl⟩
     rw[hlv]at cL HPV;rw[hsv]at cS HPV;have LV:=Lib.hid hlv;have SV:=Lib.hid hsv;clear hlv hsv;by_cases q1:lv<0
     ·have PF:Hid (nN cases proof (b.short (b.after day) day c) ((b.after day).acc c)=false):=by
       show _=_
       rw[HLd.out,nN,HPV.out];simp[q1]
      gi_wp2
      (try simp only[Exit.inBlock,Exit.then])
      refine bodyPost_ret (results_tmp2 rfl _ _ _) rfl ?_;exact⟨by rw[OK.out,all_false hlt PF.out];rfl,HB3.trans (CX.hb.mono HB3.size)⟩
     have PF:Hid (nN cases proof (b.short (b.after day) day c) ((b.after day).acc c)=if k=L.length∧s=0 then true else decide (¬k=L.length∧s=k+1∧¬sv≤(b.after day).acc c)):=by
      show _=_
      rw[HLd.out,nN,HPV.out];dsimp only;rw[decide_eq_false q1,Bool.not_false,Bool.true_and];by_cases z:k=L.length∧s=0
      ·rw[if_pos z,if_pos z]
      ·rw[if_neg z,if_neg z];by_cases z1:k=L.length<;>by_cases z2:s=k+1<;>by_cases z3:sv≤(b.after day).acc c<;>simp[z1,z2,z3]
     rcases(show(k=L.length∧s=0)∨(k=L.length∧¬((s:Int)=0))∨(¬k=L.length∧s=k+1)∨(¬k=L.length∧¬s=k+1) by omega)with⟨rfl,rfl⟩|⟨rfl,q3⟩|⟨q2,rfl⟩|⟨q2,q4⟩
     ·rw[show((0:Nat):Int)=0 from rfl];gi_wp2;go_roundw
      case rel=>exact⟨c+1,by omega,by go_num,by rw[all_succ,ACC.out,PF.out,if_pos ⟨rfl,rfl⟩];rfl,lf,hfx,yC,CX⟩
      case measure=>simp[intOf];omega
     all_goals
      rw[if_neg (λq=>by omega)]at PF
      try
       have q2':¬((k:Int)=(L.length:Int)):=by omega
       have q4':IntKind.i64.wrap ((k:Int)+1)=k+1:=by rw[IntKind.wrap_i64];omega
       have d1:decide ((k:Int)=(L.length:Int))=false:=decide_eq_false q2';have d2:((k:Int)==(L.length:Int))=false:=beq_eq_false_iff_ne.2 q2';have d3:decide (k=L.length)=false:=decide_eq_false q2;have d4:(k==L.length)=false:=by simpa using q2
      try
       have q4'':¬((s:Int)=(k:Int)+1):=by omega
       have d5:decide ((s:Int)=(k:Int)+1)=false:=decide_eq_false q4'';have d6:((s:Int)==(k:Int)+1)=false:=beq_eq_false_iff_ne.2 q4'';have d7:((s:Int) != (k:Int)+1)=true:=by simp[bne,d6]
       have d8:decide (s=k+1)=false:=decide_eq_false q4
      gi_wp2_with fail
      refine bJ (λw'=>Below wr.heap.size wr w') rfl mixed (by kernel_rfl) (λd=>⟨rfl,rfl,rfl,ak _,λ_ _=>rfl⟩) ?_;simp only[aG,aC,aF,Nat.reduceAdd,Nat.zero_add,List.range,List.range.loop]
      iterate 23
       (first
        |(refine bM rfl rfl rfl (by decide) (λw f hf=>by cases hf) ?_
          simp only[Act.put,aj,ay,au])
        |(refine aS rfl rfl (by kernel_rfl) (.inr rfl) ?_
          apply ah;refine⟨λw' hw' K Q hK=>?_,?_⟩
          ·have G:=CX.same hw';have cS:=G.cS (show c<3 by omega);rw[SV.out]at cS;have lS:=G.hS.lt;have Gt:=H.same G.hb;have tA:=Gt.yV (show c<3 by omega);have tL2:=Gt.ltT;simp only[Tl.bare]at tA tL2;gi_wp2
           try exact hw'
          apply ah;refine⟨rfl,?_⟩))
      intro w6 hb6;by_cases q5:sv≤(b.after day).acc c
      all_goals
       gi_wp2
       first
       |(try simp only[Exit.inBlock,Exit.then])
        refine bodyPost_ret (results_tmp2 rfl _ _ _) rfl ?_;exact⟨by rw[OK.out,all_false hlt (PF.out.trans (decide_eq_false (by omega)))];rfl,HB3.trans ((CX.same hb6).hb.mono HB3.size)⟩
       |go_roundw
        case rel=>exact⟨c+1,by omega,by go_num,by rw[all_succ,ACC.out,PF.out.trans (decide_eq_true (by simp;omega))];rfl,lf,hfx,yC,CX.same hb6⟩
        case measure=>simp[intOf];omega
  ·obtain rfl:c=b.aK.length:=by omega
   have HA:=Lib.hid hall;clear hall;gi_wp2
   (try simp only[Exit.inBlock,Exit.then])
   refine bodyPost_ret (results_tmp2 rfl _ _ _) rfl ?_;exact⟨by rw[OK.out,HA.out];rfl,HB3.trans (HP.hb.mono HB3.size)⟩
end
