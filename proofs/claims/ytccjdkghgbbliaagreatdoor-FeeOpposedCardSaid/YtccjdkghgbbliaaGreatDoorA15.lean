/- The till, made anew; the days' maker: inside the fence. PRINTED BY A PROGRAM (g12.py). -/
import Derived.Test.YtccjdkghgbbliaaGreatDoorA14
set_option linter.all false
namespace Go.Proofs.YtccjdkghgbbliaaGreatDoor
section
set_option maxHeartbeats 1000000
set_option maxRecDepth 10000
open Go Go.RowKit Lift Go.Sort
attribute [local go_sem] Oper.semAt_some
theorem oW{n m:Nat}{f:FuncId}{args:Array Value}{w:World}{R:Ending→World→Prop}(h:CallsIn Fz n Tryz.prog f args w R):CallsIn Fz m Tryz.prog f args w R:=
 ⟨h.1,λcs _=>h.2 cs (λd hd=>by cases hd)⟩
theorem days_in(l:Lay)(b:Book)(day:Int)(w:World) :
  CallsIn Fz 0 Tryz.prog 98 #[l.val b,.int .i64 day] w λe w'=>e=.returned (.func (.func 160) #[] #[.pointer (some ⟨w.heap.size,0,none⟩),.pointer (some ⟨w.heap.size+1,0,none⟩)])∧
   Blk w' w.heap.size 123 #[.slice l.cb b.aK.length l.cc,.slice l.tb b.ts.length l.tc,.slice l.kb b.cs.length l.kc,.slice l.pb b.ps.length l.pc]∧Blk w' (w.heap.size+1) 3 #[.int .i64 day]∧Below w.heap.size w w':=by
 unfold Lay.val;gi_enter Tryz.func98,Tryz.ntmps98
 gi_wp2;go_ret;have h1:=Blk.new w #[.slice l.cb b.aK.length l.cc,.slice l.tb b.ts.length l.tc,.slice l.kb b.cs.length l.kc,.slice l.pb b.ps.length l.pc] 123;have h2:=Blk.new (w.alloc (.cells #[.slice l.cb b.aK.length l.cc,.slice l.tb b.ts.length l.tc,.slice l.kb b.cs.length l.kc,.slice l.pb b.ps.length l.pc] 123)) #[.int .i64 day] 3;rw[World.size_alloc]at h2;exact⟨rfl,h1.below ((Below.refl _ _).alloc (ak _) _),h2,((Below.refl _ w).alloc (ak _) _).alloc (by simp) _⟩
theorem Tryz.infoS:(Tryz.prog.info? 128).map (λi=>(i.zero,i.size,i.bytes))=some (some (.agg #[.int .i64 0,.int .i64 0,.int .i64 0,.int .i64 0]),4,32):=by kernel_rfl
theorem PL(n:Nat):FI n (λ_=>⟨0,0,0,0⟩) (madeCells #[.int .i64 0,.int .i64 0,.int .i64 0,.int .i64 0] (n * 4)):=by
 refine⟨by simp[madeCells],λc hc j v hv=>?_⟩;have hj:j<4:=by
  have:=(List.getElem?_eq_some_iff.1 hv).1;simpa[Std.row]using this
 have e:(madeCells #[.int .i64 0,.int .i64 0,.int .i64 0,.int .i64 0] (n * 4))[c * 4+j]?=some ((#[.int .i64 0,.int .i64 0,.int .i64 0,.int .i64 0]:Array Value)[(c * 4+j) % 4]!):=by
  simp[madeCells,show c * 4+j<n * 4 by omega]
 rw[e,show(c * 4+j) % 4=j by omega]
 match j,hj,hv with
 |0,_,hv=>simpa[Std.row]using hv
 |1,_,hv=>simpa[Std.row]using hv
 |2,_,hv=>simpa[Std.row]using hv
 |3,_,hv=>simpa[Std.row]using hv
theorem DU{n:Nat}(hn:n≤6)(w:World):(Instr.makeSlice 129 (.int .i64 n) (.int .i64 n)).run Tryz.prog w=.ok (.slice (some ⟨w.heap.size,0,none⟩) n n) (w.alloc (.cells (madeCells #[.int .i64 0,.int .i64 0,.int .i64 0,.int .i64 0] (n * 4)) 128)):=by
 obtain⟨i0,hi,hz0,hz1,hz2⟩:=info_parts Tryz.infoS;have:=run_make (P:=Tryz.prog) w 129 128 i0 _ Tryz.underlying129 hi hz0 .i64 .i64 n n (by omega) (Int.le_refl _) (by rw[hz2];omega) (by omega);rw[hz1]at this;simpa[Value.cells]using this
theorem dZ.full{N:Nat}{l:Lay}{b:Book}{w:World}(h:dZ N l b w):dZ w.heap.size l b w:=by
 have up:∀{base:Option Addr} {size:Nat} {rows:List (List Value)},bD N base size rows w→bD w.heap.size base size rows w:=λh' i r hr=>by
  obtain⟨b',o,h1,h2,h3⟩:=h' i r hr;exact⟨b',o,h1,aB h2 h.hN,h3⟩
 exact⟨ak _,up h.cs,up h.ts,up h.ks,up h.ps⟩
theorem zC{w:World}{cs:Array Value}{ty:TypeId}{k:Nat}(h:k=w.heap.size):Blk (w.alloc (.cells cs ty)) k ty cs:=by subst h;exact Blk.new w cs ty
theorem kL{w:World}{cs:Array Value}{ty:TypeId}{k:Nat}{o:Obj}(h:Blk w k ty cs):Blk (w.alloc o) k ty cs:=h.below ((Below.refl _ _).alloc (ak _) _)
theorem vT{w:World}{cs:Array Value}{ty:TypeId}{k:Nat}(h:Blk w k ty cs):Blk w.drew k ty cs:=h
theorem Uu{N:Nat}{l:Lay}{b:Book}{w:World}{T Sb:Nat}{zs:Array Value}(hbk:dZ N l b w)(hT:Blk w T 133 #[.slice l.cb b.aK.length l.cc,.slice l.tb b.ts.length l.tc,.slice l.kb b.cs.length l.kc,.slice l.pb b.ps.length l.pc,.slice (some ⟨Sb,0,none⟩) b.cs.length b.cs.length,.int .i64 0,.int .i64 0,.int .i64 0,.int .i64 0,.int .i64 0,.int .i64 0,.int .i64 0,.int .i64 0,.int .i64 0,.slice none 0 0])
  (hS:Blk w Sb 128 zs) (hz:FI b.cs.length (λ_=>⟨0,0,0,0⟩) zs) (h1:N≤T) (h2:N≤Sb) (h3:T≠Sb):aJ N l b (Tl.bare T Sb) St.init w∧dH T w=none:=by
 refine⟨⟨hbk,h1,h2,h3,⟨.slice none 0 0,hT,World.ownsRow_nil _ _ _ _,by simp[Value.ownBlock],by simp[Value.ownBlock],.inl rfl⟩,⟨Nat.zero_le _,λp hp=>by cases hp⟩,⟨zs,hS,hz⟩⟩,?_⟩;unfold dH;rw[hT.cell 14];rfl
theorem kK{A B:World}{row:Option Nat}(hg:A.grownBy B row)(hr:∀r,row=some r→∃o:Obj,A.heap[r]?=some o∧o.isCells=false):fC A B:=λk cs ty m hk=>by
 have hlt:=(Array.getElem?_eq_some_iff.1 hk).1;refine(hg.block k hlt λe=>?_).trans hk;obtain⟨o,ho,hc⟩:=hr k e.symm;rw[hk]at ho;cases ho;cases hc
def kindCells:Array Value:=#[.string ⟨#[105,110]⟩,.func (.func 343) #[] #[],.bool false,.string ⟨#[102,117,110,100]⟩,.func (.func 339) #[] #[],.bool false,.string ⟨#[109,111,118,101]⟩,.func (.func 344) #[] #[],.bool true]
def bK(w:World):Prop:=∀(j:Nat) (v:Value),kindCells[j]?=some v→w.cell? ⟨0,j,none⟩=some v
theorem bK.lt{w:World}(h:bK w):0<w.heap.size:=let ⟨_,_,_,hb⟩:=cellC (h 0 _ rfl);(Array.getElem?_eq_some_iff.1 hb).1
theorem bK.below{w w':World}{N:Nat}(h:bK w)(hb:Below N w w')(hN:0<N):bK w':=λj v hv=>(hb.cell (p:=⟨0,j,none⟩) hN).trans (h j v hv)
theorem bK.three{w:World}(h:bK w){k:Nat}(hk:k<3):∃s f,(f=343∨f=339∨f=344)∧w.cell? ⟨0,k * 3,none⟩=some (.string s)∧w.cell? ⟨0,k * 3+1,none⟩=some (.func (.func f) #[] #[])∧w.cell? ⟨0,k * 3+2,none⟩=some (.bool (decide (k=2))):=by
 match k,hk with
 |0,_=>exact⟨_,_,.inl rfl,h 0 _ rfl,h 1 _ rfl,h 2 _ rfl⟩
 |1,_=>exact⟨_,_,.inr (.inl rfl),h 3 _ rfl,h 4 _ rfl,h 5 _ rfl⟩
 |2,_=>exact⟨_,_,.inr (.inr rfl),h 6 _ rfl,h 7 _ rfl,h 8 _ rfl⟩
theorem idx140(w:World):(Instr.index 208 (.agg #[.bool false,.bool true]) (.int .i64 0)).run Tryz.prog w=.ok (.bool false) w:=by kernel_rfl
theorem idx141(w:World):(Instr.index 208 (.agg #[.bool false,.bool true]) (.int .i64 1)).run Tryz.prog w=.ok (.bool true) w:=by kernel_rfl
def stage(b:Book)(x:Int)(s:St):Nat→St
 |0=>s.iY b x
 |1=>((s.iY b x).ins b x).keep b x
 |_=>St.xq b s x
theorem aJ.blk{N:Nat}{l:Lay}{b:Book}{T Sb:Nat}{W w':World}{s s0:St}{B:Nat}{ty:TypeId}{cs:Array Value}(H:aJ N l b (Tl.all T Sb W) s w')(h0:aJ N l b (Tl.bare T Sb) s0 W)(hb:Blk W B ty cs)(h1:B≠T)(h2:B≠Sb)(h3:ty≠3):Blk w' B ty cs:=by
 refine H.Gj.same B _ hb h1 h2 λe=>?_;obtain⟨vv,e',_,hrow⟩:=h0.Np;have e'':dH T W=vv.ownBlock:=e';rw[e]at e'';rcases hrow.2 with⟨rfl,_⟩|⟨g,cap,cur,rfl,_,c3,_⟩
 ·cases e''
 ·have:B=g:=Option.some.inj e'';subst this;have hb':W.heap[B]?=some (.cells cs ty (0,0)):=hb;rw[hb']at c3;cases c3;exact h3 rfl
set_option maxHeartbeats 32000000 in
set_option maxRecDepth 1000000 in
theorem nU{N:Nat}{l:Lay}{b:Book}{w:World}(hbk:dZ N l b w)(hv:Valid b)(hkd:bK w)(day:Int) :
  CallsIn Fz 1 Tryz.prog 47 #[l.val b,.int .i64 day] w λe w'=>∃T Sb,e=.returned (.pointer (some ⟨T,0,none⟩))∧aJ w.heap.size l b (Tl.bare T Sb) (b.after day) w'∧Below w.heap.size w w':=by
 have hnk:=hv.nk;have hnp:=hv.np;have hw0:=hkd.lt;have hmk:∀w,(Instr.makeSlice 129 (.int .i64 b.cs.length) (.int .i64 b.cs.length)).run Tryz.prog w=_:=DU hnk;unfold Lay.val;refine callsIn_of_wp_marks Tryz.func47 rfl (by simp) ?_ rfl;simp only[Tryz.ntmps47,aG,aC,aF,Nat.reduceAdd,Nat.reduceSub,Array.replicate_succ,Array.replicate_zero,List.push_toArray,List.append_toArray,List.nil_append,List.cons_append];gi_wp2
 refine wpIn_mono (Q:=λe a' w'=>e=.normal∧∃T Sb B5,a'=⟨#[.agg #[.slice l.cb b.aK.length l.cc,.slice l.tb b.ts.length l.tc,.slice l.kb b.cs.length l.kc,.slice l.pb b.ps.length l.pc],.int .i64 day,.pointer (some ⟨w.heap.size,0,none⟩),undef,.pointer none,.pointer (some ⟨B5,0,none⟩),undef,undef,undef,undef,undef,undef,.agg #[.slice l.cb b.aK.length l.cc,.slice l.tb b.ts.length l.tc,.slice l.kb b.cs.length l.kc,.slice l.pb b.ps.length l.pc],.pointer (some ⟨w.heap.size,0,none⟩),.pointer (some ⟨w.heap.size,2,none⟩),.slice l.kb b.cs.length l.kc,.int .i64 b.cs.length,.slice (some ⟨Sb,0,none⟩) b.cs.length b.cs.length,.agg #[.slice l.cb b.aK.length l.cc,.slice l.tb b.ts.length l.tc,.slice l.kb b.cs.length l.kc,.slice l.pb b.ps.length l.pc,.slice (some ⟨Sb,0,none⟩) b.cs.length b.cs.length,.int .i64 0,.int .i64 0,.int .i64 0,.int .i64 0,.int .i64 0,.int .i64 0,.int .i64 0,.int .i64 0,.int .i64 0,.slice none 0 0],.pointer (some ⟨T,0,none⟩),undef,undef,undef,undef,undef,undef,undef,undef,undef,undef,undef,undef,undef,undef,undef,undef,undef,undef,undef,undef,undef,undef,undef,undef,undef,undef,undef,undef,undef,undef,undef,undef,undef,undef,undef,undef,undef,undef,undef,undef,undef,undef,undef,undef,undef,undef,undef],[]⟩∧(aJ w.heap.size l b (Tl.bare T Sb) St.init w'∧dH T w'=none)∧
   Blk w' w.heap.size 123 #[.slice l.cb b.aK.length l.cc,.slice l.tb b.ts.length l.tc,.slice l.kb b.cs.length l.kc,.slice l.pb b.ps.length l.pc]∧Blk w' B5 134 #[.pointer (some ⟨T,0,none⟩)]∧Below w.heap.size w w'∧w.heap.size<T∧w.heap.size<Sb∧w.heap.size<B5∧B5≠T∧B5≠Sb) ?one ?two
 case one=>
  gi_region
  all_goals
   refine⟨rfl,_,_,_,rfl,Uu ?_ ?_ ?_ (PL _) ?_ ?_ ?_,?_,?_,?_,?_,?_,?_,?_,?_⟩
  all_goals first
   |exact(((((Below.refl _ w).alloc (ak _) _).alloc (by simp) _).alloc (by simp;omega) _).alloc (by simp;omega) _).drew
   |exact hbk.full.below (((((Below.refl _ w).alloc (ak _) _).alloc (by simp) _).alloc (by simp;omega) _).alloc (by simp;omega) _).drew
   |omega
   |exact vT (zC (by simp))
   |exact vT (kL (zC (by simp)))
   |exact vT (kL (kL (zC (by simp))))
   |exact vT (kL (kL (kL (zC rfl))))
 case two=>
  rintro e a w1 ⟨rfl,T,Sb,B5,rfl,⟨hTl,hv1⟩,hB0,hB5,HB,n1,n2,n3,n4,n5⟩;clear hmk;have c0:=hB0.cell 0;have c1:=hB0.cell 1;have c2:=hB0.cell 2;have c3:=hB0.cell 3;simp at c0 c1 c2 c3
  gi_wp2_with (gi_at_call 98;refine(days_in l b day w1).mono ?_;rintro e w2 ⟨rfl,hQ1,hQ2,hb2⟩)
  have hTl2:=hTl.same hb2;have hB02:=hB0.below hb2;have hB52:=hB5.below hb2;have HB2:=HB.trans (hb2.mono HB.size);have I7:T<w1.heap.size:=hTl.ltT;have Pm:Sb<w1.heap.size:=hTl.ltS;have hsz2:=hb2.size;have hTl2T:T<w2.heap.size:=hTl2.ltT;have Tn:dH T w2=none:=by
   unfold dH at hv1 ⊢;rw[hb2.cell (p:=⟨T,14,none⟩) I7];exact hv1
  clear c0 c1 c2 c3
  refine wpIn_rangeFunc_ownF rfl (ak 1) (gf:=160) (lb:=#[.pointer (some ⟨w1.heap.size,0,none⟩),.pointer (some ⟨w1.heap.size+1,0,none⟩)]) rfl (by simp) (enters_of Tryz.func160 (by kernel_rfl) rfl)
   (Iz (T:=T) (Sb:=Sb) hv hTl2.bk hQ1 hQ2 hTl2T hTl2.ltS Tn ⟨by omega,by omega⟩ ⟨by omega,by omega⟩) (λh k=>h.trans k) (λW j o o' hj ho hc hw=>KpT.put o' ho hc (by omega)) (Below.refl _ _) (λ_=>rfl)
   (λpre W=>(aJ w.heap.size l b (Tl.bare T Sb) (b.days pre) W∧Blk W w.heap.size 123 #[.slice l.cb b.aK.length l.cc,.slice l.tb b.ts.length l.tc,.slice l.kb b.cs.length l.kc,.slice l.pb b.ps.length l.pc]∧Blk W B5 134 #[.pointer (some ⟨T,0,none⟩)])∧Below w.heap.size w W)
   (λ_ _ _=>False)
   (OwnFrom.and (λs A B row hs hg hr=>⟨hs.1.stands hg.size (kK hg λr e=>(hr r e).2),kK hg (λr e=>(hr r e).2) _ _ _ _ hs.2.1,kK hg (λr e=>(hr r e).2) _ _ _ _ hs.2.2⟩) (λs A B row hs hg hr=>hs.grown hg hs.size (λk e=>by have:=(hr k e).1;have:=HB2.size;omega)))
   (λ_ _ _ _ _ hs _ _=>hs)
   ⟨⟨hTl2,hB02,hB52⟩,HB2⟩
   (λx=>⟨#[.agg #[.slice l.cb b.aK.length l.cc,.slice l.tb b.ts.length l.tc,.slice l.kb b.cs.length l.kc,.slice l.pb b.ps.length l.pc],.int .i64 day,.pointer (some ⟨w.heap.size,0,none⟩),undef,.pointer none,.pointer (some ⟨B5,0,none⟩),.int .i64 x,undef,undef,undef,undef,undef,.agg #[.slice l.cb b.aK.length l.cc,.slice l.tb b.ts.length l.tc,.slice l.kb b.cs.length l.kc,.slice l.pb b.ps.length l.pc],.pointer (some ⟨w.heap.size,0,none⟩),.pointer (some ⟨w.heap.size,2,none⟩),.slice l.kb b.cs.length l.kc,.int .i64 b.cs.length,.slice (some ⟨Sb,0,none⟩) b.cs.length b.cs.length,.agg #[.slice l.cb b.aK.length l.cc,.slice l.tb b.ts.length l.tc,.slice l.kb b.cs.length l.kc,.slice l.pb b.ps.length l.pc,.slice (some ⟨Sb,0,none⟩) b.cs.length b.cs.length,.int .i64 0,.int .i64 0,.int .i64 0,.int .i64 0,.int .i64 0,.int .i64 0,.int .i64 0,.int .i64 0,.int .i64 0,.slice none 0 0],.pointer (some ⟨T,0,none⟩),.agg #[.slice l.cb b.aK.length l.cc,.slice l.tb b.ts.length l.tc,.slice l.kb b.cs.length l.kc,.slice l.pb b.ps.length l.pc],.int .i64 day,.func (.func 160) #[] #[.pointer (some ⟨w1.heap.size,0,none⟩),.pointer (some ⟨w1.heap.size+1,0,none⟩)],.int .i64 x,undef,undef,undef,undef,undef,undef,undef,undef,undef,undef,undef,undef,undef,undef,undef,undef,undef,undef,undef,undef,undef,undef,undef,undef,undef,undef,undef,undef,undef,undef,undef,undef,undef,undef,undef,undef,undef,undef,undef,undef,undef,undef,undef],[]⟩) ?assign ?body ?done ?stop
  case assign=>
   intro l0 x W K hK;gi_wp2;exact hK
  case body=>
   rintro l0 pre x W ⟨⟨hT,hBb,hBt⟩,hBW⟩ hlen;have hP:aJ w.heap.size l b (Tl.all T Sb W) (b.days pre) W:=hT.pinAll;have hvoids:=KQ b pre;have hvl:(b.days pre).bV.length≤1000:=by
    have:=Nat.mul_le_mul (Nat.le_of_lt hlen) hnp;omega
   have hday:=Lib.hid (OL b pre x);have hKW:bK W:=hkd.below hBW hw0;have nb1:w.heap.size≠T:=by omega
   have nb2:w.heap.size≠Sb:=by omega
   have g5:=hBt.cell 0;simp at g5;clear hvoids;generalize b.days pre=s at *
   gi_wp2_with (gi_at_call 99;refine(CallsIn.inRound l0 (TD hP hv x)).mono ?_;rintro e w3 ⟨rfl,H1,hb1⟩)
   clear g5;gi_loopw [28] (λi wr=>∃k:Nat,k≤2∧i=.int .i64 k∧aJ w.heap.size l b (Tl.all T Sb W) (stage b x s k) wr∧Below w.heap.size W wr) (λi _=>2-(intOf i).toNat)
   case atStart=>exact⟨0,by omega,rfl,H1,hb1⟩
   case round=>
    obtain⟨k,hk,rfl,H2,hb2⟩:=hrel;have r3:=(H2.blk hT hBb nb1 nb2 (by decide)).cell 3;simp at r3;rcases(show k=0∨k=1∨k=2 by omega)with rfl|rfl|rfl
    ·have hst:stage b x s 1=((s.iY b x).ins b x).keep b x:=rfl
     change aJ w.heap.size l b (Tl.all T Sb W) (s.iY b x) wr at H2
     clear H1 hb1;generalize s.iY b x=S0 at H2 hst;have HST:=Lib.hid hst;clear hst;have hix:=idx140;rw[show((0:Nat):Int)=0 from rfl];gi_wp2;clear hix;gi_loopw [35] (λi wr=>∃j:Nat,j≤b.ps.length∧i=.int .i64 j∧aJ w.heap.size l b (Tl.all T Sb W) (iter (St.jH b x) j S0) wr∧Below w.heap.size W wr) (λi _=>b.ps.length-(intOf i).toNat)
     case atStart=>exact⟨0,Nat.zero_le _,rfl,H2,hb2⟩
     case round=>
      obtain⟨j,hj,rfl,H3,hb3⟩:=hrel;have rT:=(H3.blk hT hBt n4 n5 (by decide)).cell 0;simp at rT;have hB5lt:=(H3.blk hT hBt n4 n5 (by decide)).lt;by_cases hlt:j<b.ps.length
      ·obtain⟨pb,po,IX⟩:=H3.bk.pay hlt;have hN3:=H3.bk.hN;have hpw:pb<wr.heap.size:=aB IX.hp hN3;have vp:=hv.p _ IX.mp;have p0:=IX.rp 0 _ rfl;have p1:=IX.rp 1 _ rfl;have p2:=IX.rp 2 _ rfl;have p3:=IX.rp 3 _ rfl;have p4:=IX.rp 4 _ rfl;simp only[Nat.add_zero]at p0;have hK3:bK wr:=hKW.below hb3 hw0;have hw00:=hK3.lt;rw[IX.ep];have hstep:iter (St.jH b x) (j+1) S0=St.jH b x j (iter (St.jH b x) j S0):=rfl;skip;generalize iter (St.jH b x) j S0=S at *;have hins:St.jH b x j S=if(b.aV j).day=x∧(b.aV j).kind≠2 then(if(b.aV j).kind=1 then S.Dk b j else S.inn b j)else S:=rfl;have hin:∀w',(b.aV j).kind≠1→aJ w.heap.size l b (Tl.all T Sb W) S w'→CallsIn Fz 0 Tryz.prog 343 #[.pointer (some ⟨T,0,none⟩),.int .i64 j] w' λe w''=>e=.returned (.tuple #[])∧aJ w.heap.size l b (Tl.all T Sb W) (S.inn b j) w''∧Below w.heap.size w' w'':=λw' hk H=>in_in H hv hlt hk;have hfund:∀w',aJ w.heap.size l b (Tl.all T Sb W) S w'→CallsIn Fz 0 Tryz.prog 339 #[.pointer (some ⟨T,0,none⟩),.int .i64 j] w' λe w''=>e=.returned (.tuple #[])∧aJ w.heap.size l b (Tl.all T Sb W) (S.Dk b j) w''∧Below w.heap.size w' w'':=λw' H=>NK H hv hlt;generalize b.aV j=p at *;obtain⟨kd,dy,kc,am,cc⟩:=p;simp only at *;have hk3:(kd:Int)<3:=by omega
       by_cases hd:dy=x
       ·subst hd;rcases(show kd=0∨kd=1∨kd=2 by omega)with rfl|rfl|rfl
        ·have k0:wr.cell? ⟨0,0,none⟩=some (.string ⟨#[105,110]⟩):=hK3 0 _ rfl;have k1:wr.cell? ⟨0,1,none⟩=some (.func (.func 343) #[] #[]):=hK3 1 _ rfl;have k2:wr.cell? ⟨0,2,none⟩=some (.bool false):=hK3 2 _ rfl;have hL:St.jH b dy j S=S.inn b j:=by rw[hins];simp
         have HS:=Lib.hid (hstep.trans hL);clear hstep hL hins
         gi_wp2_with (gi_at_call 343;refine(CallsIn.inRound l0 (hin _ (by decide) (H3.same (((Below.refl _ wr).alloc (ak _) _).alloc (by simp) _)))).mono ?_;rintro e w5 ⟨rfl,H4,hb5⟩)
         have hb4:=(hb3.trans ((((Below.refl _ wr).alloc (ak _) _).alloc (by simp) _).mono H3.bk.hN)).trans hb5;go_roundw
         case rel=>exact⟨j+1,by omega,by go_num,by rw[HS.out];exact H4,hb4⟩
         case measure=>simp[intOf];omega
        ·have k0:wr.cell? ⟨0,3,none⟩=some (.string ⟨#[102,117,110,100]⟩):=hK3 3 _ rfl;have k1:wr.cell? ⟨0,4,none⟩=some (.func (.func 339) #[] #[]):=hK3 4 _ rfl;have k2:wr.cell? ⟨0,5,none⟩=some (.bool false):=hK3 5 _ rfl;have hL:St.jH b dy j S=S.Dk b j:=by rw[hins];simp
         have HS:=Lib.hid (hstep.trans hL);clear hstep hL hins
         gi_wp2_with (gi_at_call 339;refine(CallsIn.inRound l0 (hfund _ (H3.same (((Below.refl _ wr).alloc (ak _) _).alloc (by simp) _)))).mono ?_;rintro e w5 ⟨rfl,H4,hb5⟩)
         have hb4:=(hb3.trans ((((Below.refl _ wr).alloc (ak _) _).alloc (by simp) _).mono H3.bk.hN)).trans hb5;go_roundw
         case rel=>exact⟨j+1,by omega,by go_num,by rw[HS.out];exact H4,hb4⟩
         case measure=>simp[intOf];omega
        ·have k0:wr.cell? ⟨0,6,none⟩=some (.string ⟨#[109,111,118,101]⟩):=hK3 6 _ rfl;have k1:wr.cell? ⟨0,7,none⟩=some (.func (.func 344) #[] #[]):=hK3 7 _ rfl;have k2:wr.cell? ⟨0,8,none⟩=some (.bool true):=hK3 8 _ rfl;have hL:St.jH b dy j S=S:=by rw[hins];simp
         have HS:=Lib.hid (hstep.trans hL);clear hstep hL hins;have H4:=H3.same (((Below.refl _ wr).alloc (ak _) (.cells #[.int .i64 (2:Nat),.int .i64 dy,.int .i64 kc,.int .i64 am,.int .i64 cc] 93)).alloc (by simp) (.cells #[.string ⟨#[109,111,118,101]⟩,.func (.func 344) #[] #[],.bool (true)] 211));have hb4:=hb3.trans ((((Below.refl _ wr).alloc (ak _) (.cells #[.int .i64 (2:Nat),.int .i64 dy,.int .i64 kc,.int .i64 am,.int .i64 cc] 93)).alloc (by simp) (.cells #[.string ⟨#[109,111,118,101]⟩,.func (.func 344) #[] #[],.bool (true)] 211)).mono H3.bk.hN);gi_wp2;go_roundw
         case rel=>exact⟨j+1,by omega,by go_num,by rw[HS.out];exact H4,hb4⟩
         case measure=>simp[intOf];omega
       ·have hL:St.jH b x j S=S:=by rw[hins];simp[hd]
        have HS:=Lib.hid (hstep.trans hL);clear hstep hL hins;have hdb:(dy==x)=false:=by simp[hd]
        obtain⟨ks,kf,hkf,k0,k1,k2⟩:=hK3.three (k:=kd) (by omega);have H4:=H3.same (((Below.refl _ wr).alloc (ak _) (.cells #[.int .i64 kd,.int .i64 dy,.int .i64 kc,.int .i64 am,.int .i64 cc] 93)).alloc (by simp) (.cells #[.string ks,.func (.func kf) #[] #[],.bool (decide (kd=2))] 211));have hb4:=hb3.trans ((((Below.refl _ wr).alloc (ak _) (.cells #[.int .i64 kd,.int .i64 dy,.int .i64 kc,.int .i64 am,.int .i64 cc] 93)).alloc (by simp) (.cells #[.string ks,.func (.func kf) #[] #[],.bool (decide (kd=2))] 211)).mono H3.bk.hN);gi_wp2;go_roundw
        case rel=>exact⟨j+1,by omega,by go_num,by rw[HS.out];exact H4,hb4⟩
        case measure=>simp[intOf];omega
      ·obtain rfl:j=b.ps.length:=by omega
       gi_wp2_with (gi_at_call 100;refine(CallsIn.inRound l0 (N7 H3 hv x)).mono ?_;rintro e w6 ⟨rfl,H5,hb6⟩)
       go_roundw
       case rel=>exact⟨1,by omega,by go_num,by rw[HST.out];exact H5,hb3.trans hb6⟩
       case measure=>simp[intOf]
    ·have hst:stage b x s 2=(((s.iY b x).ins b x).keep b x).mvs b x:=rfl;have hvk:(((s.iY b x).ins b x).keep b x).bV.length≤1000:=by rw[vw];unfold St.ins;rw[Ew,yG];exact hvl
     change aJ w.heap.size l b (Tl.all T Sb W) (((s.iY b x).ins b x).keep b x) wr at H2
     clear H1 hb1;generalize ((s.iY b x).ins b x).keep b x=S0 at H2 hst hvk;have HST:=Lib.hid hst;clear hst;have hix:=idx141;rw[show((1:Nat):Int)=1 from rfl];gi_wp2;clear hix;gi_loopw [35] (λi wr=>∃j:Nat,j≤b.ps.length∧i=.int .i64 j∧aJ w.heap.size l b (Tl.all T Sb W) (iter (St.mX b x) j S0) wr∧Below w.heap.size W wr) (λi _=>b.ps.length-(intOf i).toNat)
     case atStart=>exact⟨0,Nat.zero_le _,rfl,H2,hb2⟩
     case round=>
      obtain⟨j,hj,rfl,H3,hb3⟩:=hrel;have rT:=(H3.blk hT hBt n4 n5 (by decide)).cell 0;simp at rT;have hB5lt:=(H3.blk hT hBt n4 n5 (by decide)).lt;by_cases hlt:j<b.ps.length
      ·obtain⟨pb,po,IX⟩:=H3.bk.pay hlt;have hN3:=H3.bk.hN;have hpw:pb<wr.heap.size:=aB IX.hp hN3;have vp:=hv.p _ IX.mp;have p0:=IX.rp 0 _ rfl;have p1:=IX.rp 1 _ rfl;have p2:=IX.rp 2 _ rfl;have p3:=IX.rp 3 _ rfl;have p4:=IX.rp 4 _ rfl;simp only[Nat.add_zero]at p0;have hK3:bK wr:=hKW.below hb3 hw0;have hw00:=hK3.lt;rw[IX.ep];have hstep:iter (St.mX b x) (j+1) S0=St.mX b x j (iter (St.mX b x) j S0):=rfl;have hvl3:=nJ (AY b x) S0 j;generalize iter (St.mX b x) j S0=S at *;have hins:St.mX b x j S=if(b.aV j).day=x∧(b.aV j).kind=2 then S.mv b j else S:=rfl;have hmv:∀w',(b.aV j).kind=2→aJ w.heap.size l b (Tl.all T Sb W) S w'→CallsIn Fz 0 Tryz.prog 344 #[.pointer (some ⟨T,0,none⟩),.int .i64 j] w' λe w''=>e=.returned (.tuple #[])∧aJ w.heap.size l b (Tl.all T Sb W) (S.mv b j) w''∧Below w.heap.size w' w'':=λw' hk H=>move_in H hv hlt hk (by omega);generalize b.aV j=p at *;obtain⟨kd,dy,kc,am,cc⟩:=p;simp only at *;have hk3:(kd:Int)<3:=by omega
       by_cases hd:dy=x
       ·subst hd;rcases(show kd=0∨kd=1∨kd=2 by omega)with rfl|rfl|rfl
        ·have k0:wr.cell? ⟨0,0,none⟩=some (.string ⟨#[105,110]⟩):=hK3 0 _ rfl;have k1:wr.cell? ⟨0,1,none⟩=some (.func (.func 343) #[] #[]):=hK3 1 _ rfl;have k2:wr.cell? ⟨0,2,none⟩=some (.bool false):=hK3 2 _ rfl;have hL:St.mX b dy j S=S:=by rw[hins];simp
         have HS:=Lib.hid (hstep.trans hL);clear hstep hL hins;have H4:=H3.same (((Below.refl _ wr).alloc (ak _) (.cells #[.int .i64 (0:Nat),.int .i64 dy,.int .i64 kc,.int .i64 am,.int .i64 cc] 93)).alloc (by simp) (.cells #[.string ⟨#[105,110]⟩,.func (.func 343) #[] #[],.bool (false)] 211));have hb4:=hb3.trans ((((Below.refl _ wr).alloc (ak _) (.cells #[.int .i64 (0:Nat),.int .i64 dy,.int .i64 kc,.int .i64 am,.int .i64 cc] 93)).alloc (by simp) (.cells #[.string ⟨#[105,110]⟩,.func (.func 343) #[] #[],.bool (false)] 211)).mono H3.bk.hN);gi_wp2;go_roundw
         case rel=>exact⟨j+1,by omega,by go_num,by rw[HS.out];exact H4,hb4⟩
         case measure=>simp[intOf];omega
        ·have k0:wr.cell? ⟨0,3,none⟩=some (.string ⟨#[102,117,110,100]⟩):=hK3 3 _ rfl;have k1:wr.cell? ⟨0,4,none⟩=some (.func (.func 339) #[] #[]):=hK3 4 _ rfl;have k2:wr.cell? ⟨0,5,none⟩=some (.bool false):=hK3 5 _ rfl;have hL:St.mX b dy j S=S:=by rw[hins];simp
         have HS:=Lib.hid (hstep.trans hL);clear hstep hL hins;have H4:=H3.same (((Below.refl _ wr).alloc (ak _) (.cells #[.int .i64 (1:Nat),.int .i64 dy,.int .i64 kc,.int .i64 am,.int .i64 0] 93)).alloc (by simp) (.cells #[.string ⟨#[102,117,110,100]⟩,.func (.func 339) #[] #[],.bool (false)] 211));have hb4:=hb3.trans ((((Below.refl _ wr).alloc (ak _) (.cells #[.int .i64 (1:Nat),.int .i64 dy,.int .i64 kc,.int .i64 am,.int .i64 0] 93)).alloc (by simp) (.cells #[.string ⟨#[102,117,110,100]⟩,.func (.func 339) #[] #[],.bool (false)] 211)).mono H3.bk.hN);gi_wp2;go_roundw
         case rel=>exact⟨j+1,by omega,by go_num,by rw[HS.out];exact H4,hb4⟩
         case measure=>simp[intOf];omega
        ·have k0:wr.cell? ⟨0,6,none⟩=some (.string ⟨#[109,111,118,101]⟩):=hK3 6 _ rfl;have k1:wr.cell? ⟨0,7,none⟩=some (.func (.func 344) #[] #[]):=hK3 7 _ rfl;have k2:wr.cell? ⟨0,8,none⟩=some (.bool true):=hK3 8 _ rfl;have hL:St.mX b dy j S=S.mv b j:=by rw[hins];simp
         have HS:=Lib.hid (hstep.trans hL);clear hstep hL hins
         gi_wp2_with (gi_at_call 344;refine(CallsIn.inRound l0 (hmv _ rfl (H3.same (((Below.refl _ wr).alloc (ak _) _).alloc (by simp) _)))).mono ?_;rintro e w5 ⟨rfl,H4,hb5⟩)
         have hb4:=(hb3.trans ((((Below.refl _ wr).alloc (ak _) _).alloc (by simp) _).mono H3.bk.hN)).trans hb5;go_roundw
         case rel=>exact⟨j+1,by omega,by go_num,by rw[HS.out];exact H4,hb4⟩
         case measure=>simp[intOf];omega
       ·have hL:St.mX b x j S=S:=by rw[hins];simp[hd]
        have HS:=Lib.hid (hstep.trans hL);clear hstep hL hins;have hdb:(dy==x)=false:=by simp[hd]
        obtain⟨ks,kf,hkf,k0,k1,k2⟩:=hK3.three (k:=kd) (by omega);have H4:=H3.same (((Below.refl _ wr).alloc (ak _) (.cells #[.int .i64 kd,.int .i64 dy,.int .i64 kc,.int .i64 am,.int .i64 cc] 93)).alloc (by simp) (.cells #[.string ks,.func (.func kf) #[] #[],.bool (decide (kd=2))] 211));have hb4:=hb3.trans ((((Below.refl _ wr).alloc (ak _) (.cells #[.int .i64 kd,.int .i64 dy,.int .i64 kc,.int .i64 am,.int .i64 cc] 93)).alloc (by simp) (.cells #[.string ks,.func (.func kf) #[] #[],.bool (decide (kd=2))] 211)).mono H3.bk.hN);gi_wp2;go_roundw
        case rel=>exact⟨j+1,by omega,by go_num,by rw[HS.out];exact H4,hb4⟩
        case measure=>simp[intOf];omega
      ·obtain rfl:j=b.ps.length:=by omega
       gi_wp2;go_roundw
       case rel=>exact⟨2,by omega,by go_num,by rw[HST.out];exact H3,hb3⟩
       case measure=>simp[intOf]
    ·have HD:=hday.out;gi_wp2;exact⟨rV.others hT H2.Gj,H2.Gj.kp,⟨⟨by rw[HD];exact H2.unpin,H2.blk hT hBb nb1 nb2 (by decide),H2.blk hT hBt n4 n5 (by decide)⟩,hBW.trans hb2⟩⟩
  case done=>
   rintro D ys W hD rfl ⟨⟨hT,hBb,hBt⟩,hBW⟩ hK;have g5:=hBt.cell 0;simp at g5;gi_wp2;refine⟨by simp,.inl ⟨_,_,rfl,run_takeDeferred hK,?_⟩⟩;have hCS:fC W (W.putObj D (.deferred none)):=kK (row:=some D) (grownBy_putObj' W D _) (λr e=>by cases e;exact⟨_,hK,rfl⟩);exact⟨_,results_tmp rfl _ _ _,T,Sb,rfl,hT.stands (by simp[World.putObj]) hCS,hBW.trans (belowK_b (w:=w) (ak _) W D _ _ (by have:=HB2.size;omega) hK rfl rfl)⟩
  case stop=>
   rintro D c pre W _ _ h _;exact h.elim
end
section
set_option maxHeartbeats 1000000
set_option maxRecDepth 10000
open Go Go.RowKit Lift
theorem G7{fn:Func}{t u v z:Tmp}(h:fn.results=#[.tmp t,.tmp u,.tmp v,.tmp z])(tmps:Array Value)(P:Program)(w:World) :
  (results fn tmps).run P w=.ok (.tuple #[tmps.getD t undef,tmps.getD u undef,tmps.getD v undef,tmps.getD z undef]) w:=by
 simp[results,h]
theorem eql91(w:World)(a0 a1 a2 a3 b0 b1 b2 b3:Int):(binOp .eql 128 (.agg #[.int .i64 a0,.int .i64 a1,.int .i64 a2,.int .i64 a3]) (.agg #[.int .i64 b0,.int .i64 b1,.int .i64 b2,.int .i64 b3])).run Tryz.prog w=.ok (.bool (a0==b0&&(a1==b1&&(a2==b2&&a3==b3)))) w:=by
 have u3:=Tryz.underlying3;have u34:=Tryz.underlying101;have a3':=Tryz.isAgg3;have z3:=Tryz.sizeOf3;have a34:=Tryz.isAgg101;have z34:=Tryz.sizeOf101;have hS:Tryz.prog.underlying 128=some (.struct (Tryz.prog.fieldsOf 128)):=by kernel_rfl
 have hp:Tryz.prog.stoodInHeld 128=false:=by kernel_rfl
 rw[run_eql_struct,show(10000:Nat)=9999+1 from rfl,run_equalIn_agg w 9999 128 _ _ hS hp];simp only[Program.fieldsOf,Tryz.underlying128]
 go_simp
 by_cases h1:a0=b0<;>by_cases h2:a1=b1<;>by_cases h3:a2=b2<;>by_cases h4:a3=b3<;>simp[h1,h2,h3,h4]
theorem eql41(w:World)(a0 a1 a2 a3 b0 b1 b2 b3:Int):(binOp .eql 105 (.agg #[.int .i64 a0,.int .i64 a1,.int .i64 a2,.int .i64 a3]) (.agg #[.int .i64 b0,.int .i64 b1,.int .i64 b2,.int .i64 b3])).run Tryz.prog w=.ok (.bool (a0==b0&&(a1==b1&&(a2==b2&&a3==b3)))) w:=by
 have u3:=Tryz.underlying3;have a3':=Tryz.isAgg3;have z3:=Tryz.sizeOf3;have hS:Tryz.prog.underlying 105=some (.struct (Tryz.prog.fieldsOf 105)):=by kernel_rfl
 have hp:Tryz.prog.stoodInHeld 105=false:=by kernel_rfl
 rw[run_eql_struct,show(10000:Nat)=9999+1 from rfl,run_equalIn_agg w 9999 105 _ _ hS hp];simp only[Program.fieldsOf,Tryz.underlying105]
 go_simp
 by_cases h1:a0=b0<;>by_cases h2:a1=b1<;>by_cases h3:a2=b2<;>by_cases h4:a3=b3<;>simp[h1,h2,h3,h4]
set_option maxHeartbeats 32000000 in
theorem zS{N:Nat}{l:Lay}{b:Book}{w:World}(hbk:dZ N l b w)(hf:Full b)(hkd:bK w){c:Nat}(hc:c<b.cs.length){day:Int}(h0:0≤day)(h1:day≤9999) :
  CallsIn Fz 0 Tryz.prog 32 #[l.val b,.int .i64 c,.int .i64 day] w λe w'=>e=.returned (.tuple #[.int .i64 ((b.after day).cases c).state,.int .i64 ((b.after day).cases c).held,.int .i64 0])∧Below w.heap.size w w':=by
 have hnk:=hf.v.nk;have c1:(c:Int)≤b.cs.length-1:=by omega
 have hw0:=hkd.lt;have hb1:Below w.heap.size w (w.alloc (.cells (l.arr b) 27)):=(Below.refl _ w).alloc (ak _) _;have hA1:=Blk.new w (l.arr b) 27;have hbk1:=hbk.top.below hb1;have hafter:=λw' (h:Below w.heap.size w w')=>oW (m:=0) (nU (hbk.top.below h) hf.v (hkd.below h hw0) day);have jG:=λw' (h:Below w.heap.size w w')=>kV (hbk.top.below h) hf h0 h1;unfold Lay.val at *;gi_enter Tryz.func32,Tryz.ntmps32
 gi_wp2;generalize w.alloc _=W at *;refine gB rfl mixed (by kernel_rfl) (WB W 10 11 (l.arr b)) 9 (x₀:=undef) rfl ⟨(show Below W.heap.size W { W with drawn:=W.drawn+1 }from⟨rfl,rfl,rfl,ak _,λ_ _=>rfl⟩),λh=>by cases h⟩ ?_;simp only[aG,aC,aF,Nat.reduceAdd,Nat.zero_add,List.range,List.range.loop]
 iterate 2
  refine bG rfl (λ_=>rfl) (by decide) rfl ?_;apply ah;refine⟨λD x w' hm hW K Q hK=>?_,?_⟩
  ·have q:=hA1.below hW.1;have q0:=q.cell 0;have q1:=q.cell 1;have q2:=q.cell 2;have q3:=q.cell 3;simp at q0 q1 q2 q3;simp only[Lift.Act.dG,aj,ay,au];gi_wp2;exact hW.step (by decide) (by decide) (Below.refl _ _)
  apply ah;refine⟨λx=>rfl,?_⟩;refine bG rfl (λ_=>rfl) (by decide) rfl ?_;apply ah;refine⟨λD x w' hm hW K Q hK=>?_,?_⟩
  ·simp only[Lift.Act.dG,aj,ay,au];gi_wp2;exact hW.step (by decide) (by decide) (Below.refl _ _)
  apply ah;refine⟨λx=>rfl,?_⟩
 refine bG rfl (λ_=>rfl) (by decide) rfl ?_;apply ah;refine⟨λD x w' hm hW K Q hK=>?_,?_⟩
 ·simp only[Lift.Act.dG,aj,ay,au]
  gi_wp2_with (gi_at_call 46;refine(lG _ _ _ _ (by omega) _).mono ?_;rintro e w3 ⟨rfl,rfl⟩)
  exact hW.step (by decide) (by decide) (Below.refl _ _)
 apply ah;refine⟨λx=>rfl,?_⟩;refine bG rfl (λ_=>rfl) (by decide) rfl ?_;apply ah;refine⟨λD x w' hm hW K Q hK=>?_,?_⟩
 ·simp only[Lift.Act.dG,aj,ay,au];gi_wp2;exact hW.step (by decide) (by decide) (Below.refl _ _)
 apply ah;refine⟨λx=>rfl,?_⟩;refine bG rfl (λ_=>rfl) (by decide) rfl ?_;apply ah;refine⟨λD x w' hm hW K Q hK=>?_,?_⟩
 ·simp only[Lift.Act.dG,aj,ay,au]
  gi_wp2_with (gi_at_call 45;refine(jG _ (hb1.trans (hW.1.mono hb1.size))).mono ?_;rintro e w3 ⟨rfl,hb⟩)
  exact hW.step (by decide) (by decide) hb
 iterate 3
  apply ah;refine⟨λx=>rfl,?_⟩;refine bG rfl (λ_=>rfl) (by decide) rfl ?_;apply ah;refine⟨λD x w' hm hW K Q hK=>?_,?_⟩
  ·simp only[Lift.Act.dG,aj,ay,au];gi_wp2;exact hW.step (by decide) (by decide) (Below.refl _ _)
 apply ah;refine⟨λx=>rfl,?_⟩;refine zD rfl (λ_=>rfl) rfl rfl (λD x w' hm hW K Q hK=>oV _ _ _ _ (hK _ _ (WB.make hm (by kernel_rfl) hW))) ?_;refine kM rfl (λ_=>rfl) rfl (λD x w' hm hW K Q hK=>?_) ?_
 ·obtain⟨B,rfl,hB0,pq,hBk⟩:=WB.store hm (by kernel_rfl) hW;have z0:=pq.cell 0;have z1:=pq.cell 1;have z2:=pq.cell 2;have z3:=pq.cell 3;have y0:=pq.frozen 0;have y1:=pq.frozen 1;have y2:=pq.frozen 2;have y3:=pq.frozen 3;simp[jF]at z0 z1 z2 z3;simp only[Lift.Act.dG,aj,ay,au]at hK ⊢;gi_wp2;refine hBk _ ?_ ?_
  ·have:=(((pq.put 0 (.slice l.cb b.aK.length l.cc)).put 1 (.slice l.tb b.ts.length l.tc)).put 2 (.slice l.kb b.cs.length l.kc)).put 3 (.slice l.pb b.ps.length l.pc);simpa only[jF,aj,ay,au]using this
  ·exact(((hW.1.setCell (p:=⟨B,0,none⟩) hB0 _).setCell (p:=⟨B,1,none⟩) hB0 _).setCell (p:=⟨B,2,none⟩) hB0 _).setCell (p:=⟨B,3,none⟩) hB0 _
 refine bG rfl (λ_=>rfl) (by decide) rfl ?_;apply ah;refine⟨λD x w' hm hW K Q hK=>?_,?_⟩
 ·simp only[Lift.Act.dG,aj,ay,au];gi_wp2;exact hW.step (by decide) (by decide) (Below.refl _ _)
 apply ah;refine⟨λx=>rfl,?_⟩;rintro x w2 ⟨hb2,hx⟩;obtain⟨B,rfl,hB0,hB⟩:=hx rfl;have hB:Blk w2 B 123 (l.arr b):=hB;have g0:=hB.cell 0;have g1:=hB.cell 1;have g2:=hB.cell 2;have g3:=hB.cell 3;simp at g0 g1 g2 g3;have HB:=hb1.trans (hb2.mono hb1.size);simp only[Lift.Act.dG,aj,ay,au]
 gi_wp2_with (gi_at_call 47;refine(hafter _ HB).mono ?_;rintro e w3 ⟨T,Sb,rfl,H,hb3⟩;have t4:=H.c4;have s0:=H.dL hc;have s1:=H.jr hc;have s2:=H.sDay hc;have s3:=H.sFee hc;have ltT:=H.ltT;have ltS:=H.ltS;simp only[Tl.bare]at t4 s0 s1 s2 s3 ltT ltS;clear g0 g1 g2 g3)
 gi_big_quiet_th (fail)
 gi_wp2
 (try simp only[Exit.inBlock,Exit.then])
 refine bodyPost_ret (results_tmp3 rfl _ _ _) rfl ?_;exact⟨rfl,((HB.trans (hb3.mono HB.size)).alloc (by have:=HB.size;have:=hb3.size;omega) _).trans ((below_drewN _ nq).mono (by have:=HB.size;have:=hb3.size;simp;omega))⟩
set_option maxHeartbeats 32000000 in
theorem Kept_in{N:Nat}{l:Lay}{b:Book}{w:World}(hbk:dZ N l b w)(hf:Full b)(hkd:bK w){c:Nat}(hc:c<b.cs.length) :
  CallsIn Fz 0 Tryz.prog 15 #[l.val b,.int .i64 c] w λe w'=>e=.returned (.tuple #[.int .i64 ((b.after 9999).cases c).day,.int .i64 ((b.after 9999).cases c).fee,.bool (((b.after 9999).cases c).state==1&&((b.after 9999).cases c).held==0),.int .i64 0])∧Below w.heap.size w w':=by
 have hnk:=hf.v.nk;have c1:(c:Int)≤b.cs.length-1:=by omega
 have hw0:=hkd.lt;have hb1:Below w.heap.size w (w.alloc (.cells (l.arr b) 27)):=(Below.refl _ w).alloc (ak _) _;have hA1:=Blk.new w (l.arr b) 27;have hbk1:=hbk.top.below hb1;have hafter:=λw' (h:Below w.heap.size w w')=>oW (m:=0) (nU (hbk.top.below h) hf.v (hkd.below h hw0) 9999);have jG:=λw' (h:Below w.heap.size w w')=>kV (hbk.top.below h) hf (day:=0) (by decide) (by decide);unfold Lay.val at *;gi_enter Tryz.func15,Tryz.ntmps15
 gi_wp2;generalize w.alloc _=W at *;refine gB rfl mixed (by kernel_rfl) (WB W 9 10 (l.arr b)) 8 (x₀:=undef) rfl ⟨(show Below W.heap.size W { W with drawn:=W.drawn+1 }from⟨rfl,rfl,rfl,ak _,λ_ _=>rfl⟩),λh=>by cases h⟩ ?_;simp only[aG,aC,aF,Nat.reduceAdd,Nat.zero_add,List.range,List.range.loop]
 iterate 2
  refine bG rfl (λ_=>rfl) (by decide) rfl ?_;apply ah;refine⟨λD x w' hm hW K Q hK=>?_,?_⟩
  ·have q:=hA1.below hW.1;have q0:=q.cell 0;have q1:=q.cell 1;have q2:=q.cell 2;have q3:=q.cell 3;simp at q0 q1 q2 q3;simp only[Lift.Act.dG,aj,ay,au];gi_wp2;exact hW.step (by decide) (by decide) (Below.refl _ _)
  apply ah;refine⟨λx=>rfl,?_⟩;refine bG rfl (λ_=>rfl) (by decide) rfl ?_;apply ah;refine⟨λD x w' hm hW K Q hK=>?_,?_⟩
  ·simp only[Lift.Act.dG,aj,ay,au];gi_wp2;exact hW.step (by decide) (by decide) (Below.refl _ _)
  apply ah;refine⟨λx=>rfl,?_⟩
 refine bG rfl (λ_=>rfl) (by decide) rfl ?_;apply ah;refine⟨λD x w' hm hW K Q hK=>?_,?_⟩
 ·simp only[Lift.Act.dG,aj,ay,au]
  gi_wp2_with (gi_at_call 46;refine(lG _ _ _ _ (by omega) _).mono ?_;rintro e w3 ⟨rfl,rfl⟩)
  exact hW.step (by decide) (by decide) (Below.refl _ _)
 apply ah;refine⟨λx=>rfl,?_⟩;refine bG rfl (λ_=>rfl) (by decide) rfl ?_;apply ah;refine⟨λD x w' hm hW K Q hK=>?_,?_⟩
 ·simp only[Lift.Act.dG,aj,ay,au]
  gi_wp2_with (gi_at_call 45;refine(jG _ (hb1.trans (hW.1.mono hb1.size))).mono ?_;rintro e w3 ⟨rfl,hb⟩)
  exact hW.step (by decide) (by decide) hb
 iterate 3
  apply ah;refine⟨λx=>rfl,?_⟩;refine bG rfl (λ_=>rfl) (by decide) rfl ?_;apply ah;refine⟨λD x w' hm hW K Q hK=>?_,?_⟩
  ·simp only[Lift.Act.dG,aj,ay,au];gi_wp2;exact hW.step (by decide) (by decide) (Below.refl _ _)
 apply ah;refine⟨λx=>rfl,?_⟩;refine zD rfl (λ_=>rfl) rfl rfl (λD x w' hm hW K Q hK=>oV _ _ _ _ (hK _ _ (WB.make hm (by kernel_rfl) hW))) ?_;refine kM rfl (λ_=>rfl) rfl (λD x w' hm hW K Q hK=>?_) ?_
 ·obtain⟨B,rfl,hB0,pq,hBk⟩:=WB.store hm (by kernel_rfl) hW;have z0:=pq.cell 0;have z1:=pq.cell 1;have z2:=pq.cell 2;have z3:=pq.cell 3;have y0:=pq.frozen 0;have y1:=pq.frozen 1;have y2:=pq.frozen 2;have y3:=pq.frozen 3;simp[jF]at z0 z1 z2 z3;simp only[Lift.Act.dG,aj,ay,au]at hK ⊢;gi_wp2;refine hBk _ ?_ ?_
  ·have:=(((pq.put 0 (.slice l.cb b.aK.length l.cc)).put 1 (.slice l.tb b.ts.length l.tc)).put 2 (.slice l.kb b.cs.length l.kc)).put 3 (.slice l.pb b.ps.length l.pc);simpa only[jF,aj,ay,au]using this
  ·exact(((hW.1.setCell (p:=⟨B,0,none⟩) hB0 _).setCell (p:=⟨B,1,none⟩) hB0 _).setCell (p:=⟨B,2,none⟩) hB0 _).setCell (p:=⟨B,3,none⟩) hB0 _
 refine bG rfl (λ_=>rfl) (by decide) rfl ?_;apply ah;refine⟨λD x w' hm hW K Q hK=>?_,?_⟩
 ·simp only[Lift.Act.dG,aj,ay,au];gi_wp2;exact hW.step (by decide) (by decide) (Below.refl _ _)
 apply ah;refine⟨λx=>rfl,?_⟩;rintro x w2 ⟨hb2,hx⟩;obtain⟨B,rfl,hB0,hB⟩:=hx rfl;have hB:Blk w2 B 123 (l.arr b):=hB;have g0:=hB.cell 0;have g1:=hB.cell 1;have g2:=hB.cell 2;have g3:=hB.cell 3;simp at g0 g1 g2 g3;have HB:=hb1.trans (hb2.mono hb1.size);simp only[Lift.Act.dG,aj,ay,au]
 gi_wp2_with (gi_at_call 47;refine(hafter _ HB).mono ?_;rintro e w3 ⟨T,Sb,rfl,H,hb3⟩;have t4:=H.c4;have s0:=H.dL hc;have s1:=H.jr hc;have s2:=H.sDay hc;have s3:=H.sFee hc;have ltT:=H.ltT;have ltS:=H.ltS;simp only[Tl.bare]at t4 s0 s1 s2 s3 ltT ltS;clear g0 g1 g2 g3)
 have he:=eql91;gi_big_quiet_th (fail)
 gi_wp2
 (try simp only[Exit.inBlock,Exit.then])
 refine bodyPost_ret (G7 rfl _ _ _) rfl ?_;exact⟨rfl,((HB.trans (hb3.mono HB.size)).alloc (by have:=HB.size;have:=hb3.size;omega) _).trans ((below_drewN _ nq).mono (by have:=HB.size;have:=hb3.size;simp;omega))⟩
end
