/- A plan on a book that is right: inside the fence. -/
import Derived.Test.YtccjdkghgbbliaaGreatDoorA19
set_option linter.all false
namespace Go.Proofs.YtccjdkghgbbliaaGreatDoor
section
set_option maxHeartbeats 1000000
set_option maxRecDepth 10000
open Go Go.RowKit Lift
def Book.short(b:Book)(s:St)(day:Int)(c:Nat):List (Int×Int):=sortL (b.lacks s c day b.cs.length)
theorem pY(b:Book)(s:St)(day:Int)(c:Nat):(b.short s day c).length≤b.cs.length:=by
 unfold Book.short;rw[iU];exact kG b s c day _
def rW(b:Book)(s:St)(day:Int):Nat→List Int→List Int→Prop
 |0,cs,ps=>cs=[]∧ps=[]
 |c+1,cs,ps=>∃cs0 ps0 k,rW b s day c cs0 ps0∧Took (b.short s day c) (s.acc c) k∧cs=cs0++((b.short s day c).take k).map (·.1)∧ps=ps0++if k<(b.short s day c).length then((b.short s day c).take (k+1)).map (·.1)else[]
theorem qX{b:Book}{s:St}{day:Int}:∀{c:Nat} {cs ps:List Int},rW b s day c cs ps→cs.length≤c * b.cs.length∧ps.length≤c * b.cs.length
 |0,cs,ps,h=>by obtain⟨rfl,rfl⟩:=h;simp
 |c+1,cs,ps,h=>by
  obtain⟨cs0,ps0,k,h0,_,rfl,rfl⟩:=h;have ih:=qX h0;have hl:=pY b s day c;rw[Nat.succ_mul];constructor
  ·simp only[List.length_append,List.length_map,List.length_take];omega
  ·simp only[List.length_append];split<;>simp<;>omega
theorem TK{w:World}{B:Nat}{v:Value}(h:Blk w B 28 #[v]):(loadVar 28 ⟨B,0,none⟩).run Tryz.prog w=.ok v w:=by
 have c0:=h.cell 0;simp at c0;have hs:=Tryz.sizeOf28;have ha:=Tryz.isAgg28;simp[loadVar,go_sem,c0,hs,ha]
theorem BP{w:World}{N:Nat}{e:TypeId}{k n:Nat}{v:Value}{xs:List Value}(h:w.ownsRow N e k v n xs):∃a m c,v=.slice a m c:=by
 rcases h.2 with⟨rfl,_⟩|⟨g,cap,cur,rfl,_⟩
 ·exact⟨_,_,_,rfl⟩
 ·exact⟨_,_,_,rfl⟩
theorem JQ{fn:Func}{a b t:Tmp}{ta tb:TypeId}(h:fn.results=#[.cell a ta,.cell b tb,.tmp t]){tmps:Array Value}{P:Program}{w:World}{x y:Addr}{u v:Value}(ha:tmps.getD a undef=.pointer (some x))(hb:tmps.getD b undef=.pointer (some y))(hu:(loadVar ta x).run P w=.ok u w)(hv:(loadVar tb y).run P w=.ok v w) :
  (results fn tmps).run P w=.ok (.tuple #[u,v,tmps.getD t undef]) w:=by
 simp only[results,h];simp at ha hb;simp[Sem.run_bind,Result.andThen,asAddr,ha,hb,hu,hv]
theorem wR{w:World}{B:Nat}{ty:TypeId}{v:Value}(h:Blk w B ty #[v]):w.setCell ⟨B,0,none⟩ v=w:=by
 have hh:(w.setCell ⟨B,0,none⟩ v).heap=w.heap:=by
  apply Array.ext_getElem?;intro k;by_cases e:k=B
  ·subst e;have:=h.vJ 0 v;unfold Blk at this h;rw[this,h];simp
  ·exact Below.heap_setCell w _ _ k e
 show({ w with heap:=(w.setCell ⟨B,0,none⟩ v).heap }:World)=w
 rw[hh]
theorem eU.mg{w3 w:World}{Pc Pp:Nat}{av:Nat→Prop}{cs ps:List Int}(h:eU w3 Pc Pp av cs ps w)(d:Nat):eU w3 Pc Pp av cs ps { w with drawn:=d }:=
 ⟨h.os,h.tape,h.output,h.size,h.old,h.lc,h.lp,h.ne,h.Il,h.rest⟩
theorem eU.turn{w3 w w':World}{Pc Pp:Nat}{cs cs' ps:List Int}(h:eU w3 Pc Pp (λ_=>False) cs ps w){vc:Value}(hb:Blk w Pc 28 #[vc])(hl:cs'.length=cs.length)(hr:w'.ownsRow w3.heap.size 3 1 vc cs.length (ints cs'))(hg:w.grownBy w' vc.ownBlock) :
  eU w3 Pc Pp (λ_=>False) cs' ps w'∧∀(k:Nat) (c:Array Value),Blk w k 28 c→Blk w' k 28 c:=by
 have hsz:=h.size;obtain⟨Nl,vp,h1,h2,k3,h4,h5,h6⟩:=h.rest;obtain rfl:Nl=vc:=by have:=(h1.inj hb).2;simpa using this
 have hge:=pU k3;have hst:∀(k:Nat) (c:Array Value),Blk w k 28 c→Blk w' k 28 c:=λk c hk=>(hg.block k hk.lt λe=>by
  obtain⟨cur,hc⟩:=oK k3 e.symm;exact absurd (hc.inj hk).1 (by decide)).trans hk
 refine⟨⟨hg.os.trans h.os,hg.tape.trans h.tape,hg.output.trans h.output,Nat.le_trans hsz hg.size,λk hk a b=>(hg.block k (by omega) (λe=>by have:=hge k e.symm;omega)).trans (h.old k hk a b),h.lc,h.lp,h.ne,λk hk=>hk.elim,
  Nl,vp,hst _ _ h1,hst _ _ h2,by rw[hl];exact hr,?_,h5,h6⟩,hst⟩
 exact h4.kept hg (by
  cases e:vp.ownBlock with
  |none=>exact .inl rfl
  |some g=>exact .inr λe2=>(h5 g e2.symm).2 e)
def WPl(w3:World)(Pc Pp:Nat)(vc vp:Value)(cs ps:List Int):Wg:=λD _ w=>eU w3 Pc Pp (λ_=>False) (if D 1=true then jT cs else cs) (if D 3=true then jT ps else ps) w∧Blk w Pc 28 #[vc]∧Blk w Pp 28 #[vp]
section
variable {w3 w:World} {Pc Pp:Nat} {vc vp x:Value} {cs ps:List Int} {D:Nat→Bool} {i:Nat} {ops:Array Oper}
theorem WPl.step(h:WPl w3 Pc Pp vc vp cs ps D x w)(h1:i≠1)(h3:i≠3):WPl w3 Pc Pp vc vp cs ps (aX D i) x w:=by
 have e1:aX D i 1=D 1:=by simp[aX,Ne.symm h1]
 have e3:aX D i 3=D 3:=by simp[aX,Ne.symm h3]
 unfold WPl at *;rw[e1,e3];exact h
theorem WPl.call1{R:Ending→World→Prop}(h:WPl w3 Pc Pp vc vp cs ps D x w)(hm:qK ops D 1)(hn:cs.length<20)(hK:∀w',WPl w3 Pc Pp vc vp cs ps (aX D 1) x w'→R (.returned vc) w'):CallsIn Fz 0 Tryz.prog 81 #[vc,.func (.func 82) #[] #[]] w R:=by
 obtain⟨hP,hb,hp⟩:=h;rw[hm.1]at hP;obtain⟨Nl,vp',h1,h2,h3,_⟩:=hP.rest;obtain rfl:Nl=vc:=by have:=(h1.inj hb).2;simpa using this
 simp only[Bool.false_eq_true,if_false]at hP h3;refine(vN h3 hn).mono ?_;rintro e w' ⟨rfl,hr,hg⟩;obtain⟨hP',hst⟩:=hP.turn hb (iT cs) hr hg;refine hK w' ⟨?_,hst _ _ hb,hst _ _ hp⟩;have e1:aX D 1 1=true:=by simp[aX]
 have e3:aX D 1 3=D 3:=by simp[aX]
 rw[e1,e3];exact hP'
theorem WPl.call3{R:Ending→World→Prop}(h:WPl w3 Pc Pp vc vp cs ps D x w)(hm:qK ops D 3)(hn:ps.length<20)(hK:∀w',WPl w3 Pc Pp vc vp cs ps (aX D 3) x w'→R (.returned vp) w'):CallsIn Fz 0 Tryz.prog 81 #[vp,.func (.func 82) #[] #[]] w R:=by
 obtain⟨hP,hb,hp⟩:=h;rw[hm.1]at hP;have hQ:=hP.swap;obtain⟨vp',Nl,h1,h2,h3,_⟩:=hQ.rest;obtain rfl:vp'=vp:=by have:=(h1.inj hp).2;simpa using this
 simp only[Bool.false_eq_true,if_false]at hQ h3;refine(vN h3 hn).mono ?_;rintro e w' ⟨rfl,hr,hg⟩;obtain⟨hP',hst⟩:=hQ.turn hp (iT ps) hr hg;refine hK w' ⟨?_,hst _ _ hb,hst _ _ hp⟩;have e1:aX D 3 1=D 1:=by simp[aX]
 have e3:aX D 3 3=true:=by simp[aX]
 rw[e1,e3];exact hP'.swap
end
theorem aJ.lower{N M:Nat}{l:Lay}{b:Book}{t:Tl}{s:St}{w:World}(H:aJ N l b t s w)(hbk:dZ M l b w)(hM:M≤N):aJ M l b t s w:=by
 obtain⟨vv,h1,⟨a1,a2⟩,h3⟩:=H.till;exact⟨hbk,Nat.le_trans hM H.NT,Nat.le_trans hM H.NS,H.ne,⟨vv,h1,⟨a1,a2.imp id λ⟨g,cap,cur,c1,c2,c3⟩=>⟨g,cap,cur,c1,Nat.le_trans hM c2,c3⟩⟩,h3⟩,H.pin,H.stand⟩
set_option maxHeartbeats 32000000 in
set_option maxRecDepth 100000 in
theorem Nz{N:Nat}{l:Lay}{b:Book}{w:World}(hbk:dZ N l b w)(hf:Full b)(hkd:bK w){day:Int}(h0:0≤day)(h1:day≤9999) :
  CallsIn Fz 0 Tryz.prog 35 #[l.val b,.int .i64 day] w λe w'=>∃vc vp cs ps,e=.returned (.tuple #[vc,vp,.int .i64 0])∧rW b (b.after day) day b.aK.length cs ps∧
   w'.ownsRow w.heap.size 3 1 vc cs.length (ints (jT cs))∧w'.ownsRow w.heap.size 3 1 vp ps.length (ints (jT ps))∧Below w.heap.size w w':=by
 have hw0:=hkd.lt;have hnc:=hf.v.nc;have hnk:=hf.v.nk;have hb1:Below w.heap.size w (w.alloc (.cells (l.arr b) 27)):=(Below.refl _ w).alloc (ak _) _;have hA1:=Blk.new w (l.arr b) 27;have hb2:=hb1.alloc (by simp) (.cells #[.slice none 0 0] 28);have hA2:=hA1.below ((Below.refl _ _).alloc (ak _) (.cells #[.slice none 0 0] 28));have hC2:=Blk.new (w.alloc (.cells (l.arr b) 27)) #[.slice none 0 0] 28;have hb3:=hb2.alloc (by simp;omega) (.cells #[.slice none 0 0] 28);have hA3:=hA2.below ((Below.refl _ _).alloc (ak _) (.cells #[.slice none 0 0] 28));have hC3:=hC2.below ((Below.refl _ _).alloc (ak _) (.cells #[.slice none 0 0] 28));have hP3:=Blk.new ((w.alloc (.cells (l.arr b) 27)).alloc (.cells #[.slice none 0 0] 28)) #[.slice none 0 0] 28;have hafter:=λw' (h:Below w.heap.size w w')=>oW (m:=0) (nU (hbk.top.below h) hf.v (hkd.below h hw0) day);have jG:=λw' (h:Below w.heap.size w w')=>kV (hbk.top.below h) hf h0 h1;simp only[World.size_alloc]at hA2 hC2 hA3 hC3 hP3;unfold Lay.val at *;have a0:=hA3.cell 0;have a1:=hA3.cell 1;have a2:=hA3.cell 2;have a3:=hA3.cell 3;simp at a0 a1 a2 a3;gi_enter Tryz.func35,Tryz.ntmps35
 gi_wp2_with (first
  |(gi_at_call 45;refine(jG _ hb3).mono ?_;rintro e w2 ⟨rfl,IY⟩;have HB2:=hb3.trans (IY.mono hb3.size);have HB:=HB2.alloc HB2.size (.cells (l.arr b) 123);have Ku:=(hA3.below IY).below ((Below.refl _ _).alloc (ak _) (.cells (l.arr b) 123));have hC4:=(hC3.below IY).below ((Below.refl _ _).alloc (ak _) (.cells (l.arr b) 123));have hP4:=(hP3.below IY).below ((Below.refl _ _).alloc (ak _) (.cells (l.arr b) 123)))
  |(gi_at_call 47;refine(hafter _ HB).mono ?_;rintro e w3 ⟨T,Sb,rfl,H,hbB⟩;have HB3:=HB.trans (hbB.mono HB.size);have Dl:=Ku.below hbB;have hC5:=hC4.below hbB;have NQ:=hP4.below hbB;have e0:=Dl.cell 0;have e1:=Dl.cell 1;have e2:=Dl.cell 2;have e3:=Dl.cell 3;have eL:=Dl.lt;simp at e0 e1 e2 e3))
 have HL:=H.lower (hbk.top.below HB3) HB.size;have hPC:eU w3 (w.heap.size+1) (w.heap.size+1+1) (λ_=>False) [] [] w3:=⟨rfl,rfl,rfl,ak _,λ_ _ _ _=>rfl,hC5.lt,NQ.lt,by omega,λ_ h=>h.elim,_,_,hC5,NQ,⟨rfl,.inl ⟨rfl,rfl⟩⟩,⟨rfl,.inl ⟨rfl,rfl⟩⟩,λg hg=>absurd hg (by simp[Value.ownBlock]),λg hg=>absurd hg (by simp[Value.ownBlock])⟩
 gi_loopw [27] (λi wr=>∃c:Nat,c≤b.aK.length∧i=.int .i64 c∧∃cs ps,rW b (b.after day) day c cs ps∧eU w3 (w.heap.size+1) (w.heap.size+1+1) (λ_=>False) cs ps wr) (λi _=>b.aK.length-(intOf i).toNat)
 case atStart=>exact⟨0,Nat.zero_le _,rfl,[],[],⟨rfl,rfl⟩,hPC⟩
 case round=>
  obtain⟨c,hc,rfl,cs,ps,hpl,HP⟩:=hrel;have hlen:=qX hpl;have hcm:c * b.cs.length≤18:=Nat.le_trans (Nat.mul_le_mul hc (ak _)) (Nat.le_trans (Nat.mul_le_mul hnc hnk) (by decide));by_cases hlt:c<b.aK.length
  ·have Ht:=HP.till HL hC5 NQ (Nat.le_succ _) (by omega);have t0:=Ht.yV (show c<3 by omega);have tlt:=Ht.ltT;have HPa:=HP.alloc (.cells #[.int .i64 ((b.after day).acc c)] 3);have Hta:=HPa.till HL hC5 NQ (Nat.le_succ _) (by omega);have hl0:=Blk.new wr #[.int .i64 ((b.after day).acc c)] 3;have hc3:(c:Int)<3:=by omega
   simp only[Tl.bare]at t0 tlt
   gi_wp2_with (first
    |(gi_at_call 84;refine(Oe Hta hf.v day).mono ?_;rintro e w4 ⟨v4,rfl,ho4,hb4⟩;have HP4:=HPa.same hb4;have hl4:=hl0.below hb4;have ho4':=qU ho4 (M:=w3.heap.size) (Nat.le_trans HP.size (by simp));rw[← iU]at ho4')
    |(gi_at_call 83;refine(take_in HP4 (.inr rfl) HP.size hl4 ho4' (by have:=pY b (b.after day) day c;unfold Book.short at this;omega) (by omega) (by omega)).mono ?_;rintro e w5 ⟨rfl,k5,hk5,HP5⟩))
   exact⟨⟨c+1,by omega,by go_num,_,_,⟨cs,ps,k5,hpl,hk5,rfl,rfl⟩,HP5.mono (λ_ h=>h.elim)⟩,by simp[intOf];omega⟩
  ·obtain rfl:c=b.aK.length:=by omega
   obtain⟨vc,vp,hbc,hbp,hoc,hop,_⟩:=HP.rest;obtain⟨ac,nc,cc,rfl⟩:=BP hoc;obtain⟨ap,np,cp,rfl⟩:=BP hop;have hc20:cs.length<20:=by omega
   have hp20:ps.length<20:=by omega
   gi_wp2;refine gB rfl mixed (by kernel_rfl) (WPl w3 (w.heap.size+1) (w.heap.size+1+1) (.slice ac nc cc) (.slice ap np cp) cs ps) 0 rfl ⟨HP.mg _,hbc,hbp⟩ ?_;simp only[aG,aC,aF,Nat.reduceAdd,Nat.zero_add,List.range,List.range.loop];refine bG rfl (λ_=>rfl) (by decide) rfl ?_;apply ah;refine⟨λD x w' hm hW K Q hK=>?_,?_⟩
   ·have y0:=hW.2.1.cell 0;have y1:=hW.2.2.cell 0;have z0:=hW.2.1.frozen 0;have z1:=hW.2.2.frozen 0;have k0:=hW.2.1.lt;have k1:=hW.2.2.lt;simp at y0 y1;simp only[Lift.Act.dG,aj,ay,au];gi_wp2;exact hW.step (by decide) (by decide)
   apply ah;refine⟨λx=>rfl,?_⟩;refine bG rfl (λ_=>rfl) (by decide) rfl ?_;apply ah;refine⟨λD x w' hm hW K Q hK=>?_,?_⟩
   ·simp only[Lift.Act.dG,aj,ay,au]
    gi_wp2_with (gi_at_call 81;refine hW.call1 hm hc20 ?_;intro w4 hw4)
    exact hw4
   apply ah;refine⟨λx=>rfl,?_⟩;refine bG rfl (λ_=>rfl) (by decide) rfl ?_;apply ah;refine⟨λD x w' hm hW K Q hK=>?_,?_⟩
   ·have y0:=hW.2.1.cell 0;have y1:=hW.2.2.cell 0;have z0:=hW.2.1.frozen 0;have z1:=hW.2.2.frozen 0;have k0:=hW.2.1.lt;have k1:=hW.2.2.lt;simp at y0 y1;simp only[Lift.Act.dG,aj,ay,au];gi_wp2;exact hW.step (by decide) (by decide)
   apply ah;refine⟨λx=>rfl,?_⟩;refine bG rfl (λ_=>rfl) (by decide) rfl ?_;apply ah;refine⟨λD x w' hm hW K Q hK=>?_,?_⟩
   ·simp only[Lift.Act.dG,aj,ay,au]
    gi_wp2_with (gi_at_call 81;refine hW.call3 hm hp20 ?_;intro w4 hw4)
    exact hw4
   apply ah;refine⟨λx=>rfl,?_⟩;refine kM rfl (λ_=>rfl) rfl (λD x w' hm hW K Q hK=>?_) ?_
   ·have y0:=hW.2.1.cell 0;have y1:=hW.2.2.cell 0;have z0:=hW.2.1.frozen 0;have z1:=hW.2.2.frozen 0;have k0:=hW.2.1.lt;have k1:=hW.2.2.lt;simp at y0 y1;simp only[Lift.Act.dG,aj,ay,au]at hK ⊢;gi_wp2;rw[wR hW.2.1];exact hW.step (by decide) (by decide)
   refine kM rfl (λ_=>rfl) rfl (λD x w' hm hW K Q hK=>?_) ?_
   ·have y0:=hW.2.1.cell 0;have y1:=hW.2.2.cell 0;have z0:=hW.2.1.frozen 0;have z1:=hW.2.2.frozen 0;have k0:=hW.2.1.lt;have k1:=hW.2.2.lt;simp at y0 y1;simp only[Lift.Act.dG,aj,ay,au]at hK ⊢;gi_wp2;rw[wR hW.2.2];exact hW.step (by decide) (by decide)
   refine bG rfl (λ_=>rfl) (by decide) rfl ?_;apply ah;refine⟨λD x w' hm hW K Q hK=>?_,?_⟩
   ·simp only[Lift.Act.dG,aj,ay,au];gi_wp2;exact hW.step (by decide) (by decide)
   apply ah;refine⟨λx=>rfl,?_⟩;rintro x w5 ⟨HP5,Ph,hbp5⟩;simp only[Lift.Act.dG,aj,ay,au];gi_wp2
   (try simp only[Exit.inBlock,Exit.then])
   refine bodyPost_ret (JQ (fn:=Tryz.f35) (x:=⟨w.heap.size+1,0,none⟩) (y:=⟨w.heap.size+1+1,0,none⟩) rfl rfl rfl (TK Ph) (TK hbp5)) rfl ?_;have q1:(λj=>decide (j<7)) 1=true:=by decide
   obtain⟨Nl,vp',k1,k2,k3,k4,_⟩:=HP5.rest;have e1:Nl=.slice ac nc cc:=by have:=(k1.inj Ph).2;simpa using this
   have e2:vp'=.slice ap np cp:=by have:=(k2.inj hbp5).2;simpa using this
   subst e1 e2;simp only[aG,aC,aF,Nat.reduceAdd,Nat.reduceLT,decide_true,if_true,iT]at k3 k4;refine⟨_,_,rfl,cs,ps,hpl,qU k3 HB3.size,qU k4 HB3.size,⟨HP5.os.trans HB3.os,HP5.tape.trans HB3.tape,HP5.output.trans HB3.output,Nat.le_trans HB3.size HP5.size,λk hk=>(HP5.old k (aB hk HB3.size) (by omega) (by omega)).trans (HB3.block k hk)⟩⟩
end
section
set_option maxHeartbeats 1000000
set_option maxRecDepth 10000
open Go Go.RowKit Lift
def eY(w:World)(v:Value)(xs:List Int):Prop:=∃base off cap,v=.slice base xs.length cap∧∀i,i<xs.length→∃B,base=some ⟨B,off,none⟩∧B<w.heap.size∧w.cell? ⟨B,off+i,none⟩=some (.int .i64 (xs.getD i 0))
theorem eY.below{w w':World}{v:Value}{xs:List Int}(h:eY w v xs)(hb:Below w.heap.size w w'):eY w' v xs:=by
 obtain⟨base,off,cap,rfl,h2⟩:=h;exact⟨base,off,cap,rfl,λi hi=>let ⟨B,h3,h4,h5⟩:=h2 i hi;⟨B,h3,aB h4 hb.size,(hb.cell (p:=⟨B,off+i,none⟩) h4).trans h5⟩⟩
theorem Tq(xs:List Int)(v:Value)(x:Int)(w:World)(h:eY w v xs)(hn:xs.length<1000000) :
  CallsIn Fz 0 Tryz.prog 116 #[v,.int .i64 x] w λe w'=>(∃r:Int,e=.returned (.int .i64 r)∧(0≤r↔x∈xs))∧w'=w:=by
 obtain⟨base,off,cap,rfl,h2⟩:=h;gi_enter Tryz.func116,Tryz.ntmps116
 gi_wp2;gi_loopw [8] (λi wr=>wr=w∧∃k:Nat,k≤xs.length∧i=.int .i64 k∧∀j,j<k→xs.getD j 0≠x) (λi _=>xs.length-(intOf i).toNat)
 case atStart=>exact⟨rfl,0,Nat.zero_le _,rfl,λj hj=>absurd hj (by omega)⟩
 case round=>
  obtain⟨rfl,k,hk,rfl,hno⟩:=hrel;by_cases hlt:k<xs.length
  ·obtain⟨B,rfl,h4,h5⟩:=h2 k hlt;by_cases he:x=xs.getD k 0
   ·have hm:x∈xs:=by rw[he];simp[hlt]
    rw[← he]at h5;have HM:=Lib.hid hm;clear hm he hno;gi_wp2;go_ret;exact⟨⟨k,rfl,λ_=>HM.out,λ_=>by omega⟩,rfl⟩
   ·obtain⟨y,hy⟩:∃y,xs.getD k 0=y:=⟨_,rfl⟩
    rw[hy]at h5 he;have HY:=Lib.hid hy;have HN:=Lib.hid hno;clear hy hno;gi_wp2;go_roundw
    case rel=>
     refine⟨by trivial,k+1,by omega,by go_num,λj hj=>?_⟩;by_cases e:j=k
     ·subst e;rw[HY.out];exact λh=>he h.symm
     ·exact HN.out j (by omega)
    case measure=>simp[intOf];omega
  ·obtain rfl:k=xs.length:=by omega
   have HN:=Lib.hid hno;clear hno;gi_wp2;go_ret;refine⟨⟨-1,rfl,λh=>absurd h (by decide),λhm=>?_⟩,rfl⟩;obtain⟨j,hj,e⟩:=List.mem_iff_getElem.1 hm;exact absurd (by simp[hj,e]) (HN.out j hj)
theorem kP(xs:List Int)(v:Value)(x:Int)(w:World)(h:eY w v xs)(hn:xs.length<1000000) :
  CallsIn Fz 0 Tryz.prog 58 #[v,.int .i64 x] w λe w'=>e=.returned (.bool (decide (x∈xs)))∧w'=w:=by
 have hi:=Tq xs v x w h hn;gi_enter Tryz.func58,Tryz.ntmps58
 gi_wp2_with (gi_at_call 116;refine hi.mono ?_;rintro e w3 ⟨⟨r,rfl,hr⟩,rfl⟩)
 go_ret;refine⟨?_,rfl⟩;by_cases hm:x∈xs
 ·have:=hr.2 hm;simp[hm,this]
 ·have:¬(0≤r):=λh=>hm (hr.1 h);simp[hm];try omega
def Book.dF(b:Book)(s:St)(l:List Int):Nat→Bool
 |0=>true
 |i+1=>b.dF s l i&&(decide (0≤l.getD i 0)&&decide (l.getD i 0≤b.cs.length - 1)&&decide ((s.cases (l.getD i 0).toNat).state=0)&&(decide (i=0)||decide (l.getD (i - 1) 0<l.getD i 0)))
theorem yH(b:Book)(s:St)(l:List Int)(i:Nat):b.dF s l (i+1)=(b.dF s l i&&(decide (0≤l.getD i 0)&&decide (l.getD i 0≤b.cs.length - 1)&&decide ((s.cases (l.getD i 0).toNat).state=0)&&(decide (i=0)||decide (l.getD (i - 1) 0<l.getD i 0)))):=rfl
theorem Gu{b:Book}{s:St}{l:List Int}{k:Nat}(h:b.dF s l k=false):∀m,k≤m→b.dF s l m=false:=λm hm=>by
 induction m with
 |zero=>have:k=0:=by omega
        subst this;exact h
 |succ m ih=>
  by_cases e:k=m+1
  ·subst e;exact h
  ·rw[yH,ih (by omega),Bool.false_and]
set_option maxHeartbeats 16000000 in
theorem TJ{N:Nat}{l:Lay}{b:Book}{t:Tl}{s:St}{w:World}(H:aJ N l b t s w)(hv:Valid b){v:Value}{xs:List Int}(h:eY w v xs)(hn:xs.length<1000000) :
  CallsIn Fz 0 Tryz.prog 85 #[.pointer (some ⟨t.T,0,none⟩),v] w λe w'=>e=.returned (.bool (b.dF s xs xs.length))∧w'=w:=by
 obtain⟨base,off,cap,rfl,h2⟩:=h;have hnk:=hv.nk;have f4:=H.c4;have lT:=H.ltT;have lS:=H.ltS;gi_enter Tryz.func85,Tryz.ntmps85
 gi_wp2;gi_loopw [9] (λi wr=>wr=w∧∃k:Nat,k≤xs.length∧i=.int .i64 k∧b.dF s xs k=true) (λi _=>xs.length-(intOf i).toNat)
 case atStart=>exact⟨rfl,0,Nat.zero_le _,rfl,rfl⟩
 case round=>
  obtain⟨rfl,k,hk,rfl,hok⟩:=hrel;by_cases hlt:k<xs.length
  ·obtain⟨B,rfl,h4,h5⟩:=h2 k hlt;have hs:=yH b s xs k;rw[hok,Bool.true_and]at hs;have Aw:0<k→wr.cell? ⟨B,off+(k-1),none⟩=some (.int .i64 (xs.getD (k-1) 0)):=λhk0=>by
    obtain⟨B',e,_,h6⟩:=h2 (k - 1) (by omega);cases e;exact h6
   generalize xs.getD k 0=y at h5 hs;generalize xs.getD (k-1) 0=z at Aw hs;have HS:=Lib.hid hs;have HO:=Lib.hid hok;have HE:=Lib.hid (λ(e:b.dF s xs (k+1)=false)=>Gu e xs.length (by omega));clear hs hok;by_cases hr:0≤y∧y≤b.cs.length - 1
   ·obtain⟨m,rfl⟩:∃m:Nat,y=m:=⟨y.toNat,by omega⟩
    have hm:m<b.cs.length:=by omega
    have s0:=H.dL hm;have r1:=hr.1;have r2:=hr.2;by_cases hst:(s.cases m).state=0
    ·by_cases hk0:0<k
     ·obtain⟨kp,rfl⟩:∃kp,k=kp+1:=⟨k - 1,by omega⟩
      have p0:=Aw hk0;simp only[Nat.add_sub_cancel]at p0;have hz:(0:Int)<(kp:Int)+1:=by omega
      by_cases hle:(m:Int)≤z
      ·have HF:Hid (b.dF s xs (kp+1+1)=false):=by rw[show Hid (b.dF s xs (kp+1+1)=false)=(b.dF s xs (kp+1+1)=false)from rfl,HS.out];simp;intros;omega
       clear Aw
       gi_wp2_with (gi_at_call 150;refine(jR _ _ _ _ (by omega) _).mono ?_;rintro e w3 ⟨rfl,rfl⟩)
       go_ret;exact⟨by rw[HE.out HF.out];rfl,rfl⟩
      ·have HF:Hid (b.dF s xs (kp+1+1)=true):=by rw[show Hid (b.dF s xs (kp+1+1)=true)=(b.dF s xs (kp+1+1)=true)from rfl,HS.out];simp[hst];omega
       clear Aw
       gi_wp2_with (gi_at_call 150;refine(jR _ _ _ _ (by omega) _).mono ?_;rintro e w3 ⟨rfl,rfl⟩)
       go_roundw
       case rel=>exact⟨by trivial,kp+1+1,by omega,by go_num,HF.out⟩
       case measure=>simp[intOf];omega
     ·obtain rfl:k=0:=by omega
      have HF:Hid (b.dF s xs (0+1)=true):=by rw[show Hid (b.dF s xs (0+1)=true)=(b.dF s xs (0+1)=true)from rfl,HS.out];simp[hst];omega
      clear Aw;simp only[Nat.add_zero]at h5;rw[show((0:Nat):Int)=0 from rfl]
      gi_wp2_with (gi_at_call 150;refine(jR _ _ _ _ (by omega) _).mono ?_;rintro e w3 ⟨rfl,rfl⟩)
      go_roundw
      case rel=>exact⟨by trivial,0+1,by omega,by go_num,HF.out⟩
      case measure=>simp[intOf];omega
    ·have HF:Hid (b.dF s xs (k+1)=false):=by rw[show Hid (b.dF s xs (k+1)=false)=(b.dF s xs (k+1)=false)from rfl,HS.out];simp[hst]
     clear Aw
     gi_wp2_with (gi_at_call 150;refine(jR _ _ _ _ (by omega) _).mono ?_;rintro e w3 ⟨rfl,rfl⟩)
     go_ret;exact⟨by rw[HE.out HF.out];rfl,rfl⟩
   ·have HF:Hid (b.dF s xs (k+1)=false):=by rw[show Hid (b.dF s xs (k+1)=false)=(b.dF s xs (k+1)=false)from rfl,HS.out];simp;intros;omega
    have hq:(decide (0≤y)&&decide (y≤(b.cs.length:Int)-1))=false:=by simp;omega
    clear Aw
    gi_wp2_with (gi_at_call 150;refine(jR _ _ _ _ (by omega) _).mono ?_;rintro e w3 ⟨rfl,rfl⟩)
    go_ret;exact⟨by rw[HE.out HF.out];rfl,rfl⟩
  ·obtain rfl:k=xs.length:=by omega
   have HO:=Lib.hid hok;clear hok;gi_wp2;go_ret;exact⟨by rw[HO.out];rfl,rfl⟩
end
section
set_option maxHeartbeats 1000000
set_option maxRecDepth 10000
open Go Go.RowKit Lift
def gI(x2:Int)(proof:List Int)(y:Int×Int):Bool:=decide (y.2<x2)&&!decide (y.1∈proof)
theorem MR{w:World}{X Q:Nat}{x1 x2:Int}{vp:Value}{proof:List Int}(y:Int×Int)(hX:Blk w X 193 #[.int .i64 x1,.int .i64 x2])(hQ:Blk w Q 28 #[vp])(hp:eY w vp proof)(hn:proof.length<1000000) :
  CallsIn Fz 0 Tryz.prog 87 #[.agg #[.int .i64 y.1,.int .i64 y.2],.pointer (some ⟨X,0,none⟩),.pointer (some ⟨Q,0,none⟩)] w λe w'=>e=.returned (.bool (gI x2 proof y))∧Below w.heap.size w w':=by
 obtain⟨y1,y2⟩:=y;have hb:Below w.heap.size w (w.alloc (.cells #[.int .i64 y1,.int .i64 y2] 193)):=(Below.refl _ w).alloc (ak _) _;have hc:=kP proof vp y1 _ (hp.below hb) hn;have q0:=hQ.cell 0;have ql:=hQ.lt;have x0:=hX.cell 1;have xl:=hX.lt;simp at q0 x0;unfold gI;simp only;by_cases h:y2<x2
 ·gi_enter Tryz.func87,Tryz.ntmps87
  gi_wp2_with (gi_at_call 58;refine hc.mono ?_;rintro e w3 ⟨rfl,rfl⟩)
  go_ret;exact⟨by simp[h],hb⟩
 ·gi_enter Tryz.func87,Tryz.ntmps87
  gi_wp2;go_ret;exact⟨by simp;omega,hb⟩
theorem Ri(L:List (Int×Int))(f:Int×Int→Bool){k:Nat}(hk:k<L.length):(L.take (k+1)).any f=((L.take k).any f||f (L.getD k (0,0))):=by
 rw[List.take_add_one,List.any_append,List.getElem?_eq_getElem hk];simp only[Option.toList_some,List.any_cons,List.any_nil,Bool.or_false,List.getD_eq_getElem?_getD,List.getElem?_eq_getElem hk,Option.getD_some]
theorem any_true{L:List (Int×Int)}{f:Int×Int→Bool}{k m:Nat}(hk:k<L.length)(hm:k<m)(h:f (L.getD k (0,0))=true):(L.take m).any f=true:=by
 rw[List.any_eq_true];refine⟨L.getD k (0,0),?_,h⟩;rw[List.mem_iff_getElem?];exact⟨k,by rw[List.getElem?_take,if_pos hm];simp[hk]⟩
set_option maxHeartbeats 16000000 in
theorem Pv{w:World}{N X Q g n cap m:Nat}{x1 x2:Int}{vp:Value}{proof:List Int}{L:List (Int×Int)}(hX:Blk w X 193 #[.int .i64 x1,.int .i64 x2])(hQ:Blk w Q 28 #[vp])(hp:eY w vp proof)(hn:proof.length<1000000)
  (hL:w.ownsRow N 193 2 (.slice (some ⟨g,0,none⟩) n cap) L.length (L.flatMap dV)) (hm:m≤L.length) (hLn:L.length<1000) :
  CallsIn Fz 0 Tryz.prog 151 #[.slice (some ⟨g,0,none⟩) m cap,.func (.func 87) #[] #[.pointer (some ⟨X,0,none⟩),.pointer (some ⟨Q,0,none⟩)]] w λe w'=>(∃r:Int,e=.returned (.int .i64 r)∧(0≤r↔(L.take m).any (gI x2 proof)=true))∧Below w.heap.size w w':=by
 gi_enter Tryz.func151,Tryz.ntmps151
 gi_wp2;gi_loopw [8] (λi wr=>∃k:Nat,k≤m∧i=.int .i64 k∧(L.take k).any (gI x2 proof)=false∧Below w.heap.size w wr) (λi _=>m-(intOf i).toNat)
 case atStart=>exact⟨0,Nat.zero_le _,rfl,rfl,Below.refl _ _⟩
 case round=>
  obtain⟨k,hk,rfl,hno,HB⟩:=hrel;by_cases hlt:k<m
  ·have HL:=dP hL HB;have c0:=(jq HL (show k<L.length by omega)).1;have c1:=(jq HL (show k<L.length by omega)).2;have gl:=(HL.lt g rfl).2;have hca:=MR (L.getD k (0,0)) (hX.below HB) (hQ.below HB) (hp.below HB) hn;have hsn:=Ri L (gI x2 proof) (show k<L.length by omega);rw[hno,Bool.false_or]at hsn;have hat:=λh=>any_true (L:=L) (f:=gI x2 proof) (k:=k) (m:=m) (by omega) hlt h;generalize L.getD k (0,0)=y at c0 c1 hca hsn hat
   obtain⟨y1,y2⟩:=y;simp only at c0 c1 hca;cases hf:gI x2 proof (y1,y2)with
   |true=>
    rw[hf]at hca;have HT:=Lib.hid (hat hf);clear hsn hat hf
    gi_wp2_with (gi_at_call 87;refine hca.mono ?_;rintro e w3 ⟨rfl,hb3⟩)
    go_ret;exact⟨⟨k,rfl,λ_=>HT.out,λ_=>by omega⟩,HB.trans (hb3.mono HB.size)⟩
   |false=>
    rw[hf]at hca hsn;have HS:=Lib.hid hsn;clear hsn hat hf hno
    gi_wp2_with (gi_at_call 87;refine hca.mono ?_;rintro e w3 ⟨rfl,hb3⟩)
    go_roundw
    case rel=>exact⟨k+1,by omega,by go_num,HS.out,HB.trans (hb3.mono HB.size)⟩
    case measure=>simp[intOf];omega
  ·obtain rfl:k=m:=by omega
   have HN:=Lib.hid hno;clear hno;gi_wp2;go_ret;exact⟨⟨-1,rfl,λh=>absurd h (by decide),λh=>by rw[HN.out]at h;cases h⟩,HB⟩
theorem RI{w:World}{N X Q g n cap m:Nat}{x1 x2:Int}{vp:Value}{proof:List Int}{L:List (Int×Int)}(hX:Blk w X 193 #[.int .i64 x1,.int .i64 x2])(hQ:Blk w Q 28 #[vp])(hp:eY w vp proof)(hn:proof.length<1000000)
  (hL:w.ownsRow N 193 2 (.slice (some ⟨g,0,none⟩) n cap) L.length (L.flatMap dV)) (hm:m≤L.length) (hLn:L.length<1000) :
  CallsIn Fz 0 Tryz.prog 86 #[.slice (some ⟨g,0,none⟩) m cap,.func (.func 87) #[] #[.pointer (some ⟨X,0,none⟩),.pointer (some ⟨Q,0,none⟩)]] w λe w'=>e=.returned (.bool ((L.take m).any (gI x2 proof)))∧Below w.heap.size w w':=by
 have hi:=Pv hX hQ hp hn hL hm hLn;gi_enter Tryz.func86,Tryz.ntmps86
 gi_wp2_with (gi_at_call 151;refine hi.mono ?_;rintro e w3 ⟨⟨r,rfl,hr⟩,hb⟩)
 go_ret;refine⟨?_,hb⟩;by_cases h:0≤r
 ·have:=hr.1 h;rw[this];simp;omega
 ·have:(L.take m).any (gI x2 proof)=false:=by
   cases e:(L.take m).any (gI x2 proof)
   ·rfl
   ·exact absurd (hr.2 e) h
  rw[this];simp;omega
end
