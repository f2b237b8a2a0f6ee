/- held, called beside leavers, over the till as the book's functions leave it. -/
import Derived.Test.YtccjdkghgbbliaaGreatDoorA15
import Derived.Test.YtccjdkghgbbliaaGreatDoorA33
set_option linter.all false
namespace Go.Proofs.YtccjdkghgbbliaaGreatDoor
section
set_option maxHeartbeats 1000000
set_option maxRecDepth 10000
open Go Go.RowKit Lift
def Wst(S:Blks)(w:World):Prop:=∀k,S k→∃e,w.heap[k]?=some (.cells #[] e (0,0))
theorem Wst.off{S:Blks}{w:World}(h:Wst S w){k o:Nat}{v:Value}(hc:w.cell? ⟨k,o,none⟩=some v):¬S k:=λhk=>by
 obtain⟨e,he⟩:=h k hk;simp[World.cell?,he]at hc
theorem CallsR.wst[Keep]{P:Program}{F:FuncId→Prop}{f:FuncId}{args:Array Value}{w:World}{S:Blks}{R:Value→World→Blks→Prop}(h:Wst S w→CallsR P F f args w S R):CallsR P F f args w S R:=
 λc cs Φ hF hc hcs hn gs wa sl t q h0 hL hP hp=>h (λk hk=>let ⟨_,e,_,h2⟩:=hp.iP k hk;⟨e,h2⟩) c cs Φ hF hc hcs hn gs wa sl t q h0 hL hP hp
theorem Blk.grow{w w':World}{B:Nat}{ty:TypeId}{cs:Array Value}{n:Nat}(h:Blk w B ty cs)(hg:Grow n w w')(hB:B<n):Blk w' B ty cs:=(hg.block B hB).trans h
theorem fC.grow{w w':World}(h:Grow w.heap.size w w'):fC w w':=λk cs ty m hk=>(h.block k (Array.getElem?_eq_some_iff.1 hk).1).trans hk
theorem aJ.grow{N:Nat}{l:Lay}{b:Book}{T Sb:Nat}{s:St}{w w':World}(h:aJ N l b (Tl.bare T Sb) s w)(hg:Grow w.heap.size w w'):aJ N l b (Tl.bare T Sb) s w':=h.stands hg.size (fC.grow hg)
theorem dZ.grow{N:Nat}{l:Lay}{b:Book}{w w':World}(h:dZ N l b w)(hg:Grow w.heap.size w w'):dZ N l b w':=h.stand hg.size (fC.grow hg)
theorem bK.grow{w w':World}{n:Nat}(h:bK w)(hg:Grow n w w')(hn:0<n):bK w':=λj v hv=>by
 have:=h j v hv;unfold World.cell? at this ⊢;rw[hg.block 0 hn];exact this
def Fa(l:Lay)(b:Book)(T Sb:Nat)(s:St):Crew.Til where
 b1:=0
 T:=T
 n:=b.cs.length
 nT:=b.ts.length
 qY:=some ⟨Sb,0,none⟩
 EC:=l.kb
 E5:=l.tb
 scap:=b.cs.length
 kcap:=l.kc
 tcap:=l.tc
 vc:=.slice l.cb b.aK.length l.cc
 vp:=.slice l.pb b.ps.length l.pc
 state:=λc=>(s.cases c).state
 held:=λc=>(s.cases c).held
 day:=λc=>(s.cases c).day
 fee:=λc=>(s.cases c).fee
 tar:=λc=>(b.aY c).tar
 bg:=λj=>((b.ts.getD j ⟨⟨#[]⟩,0,0,0,0⟩).bg:Nat)
theorem tilW_of{N:Nat}{l:Lay}{b:Book}{T Sb:Nat}{s:St}{w:World}{S:Blks}(H:aJ N l b (Tl.bare T Sb) s w)(hv:Valid b)(hS:Wst S w):Crew.Ox (λk=>k<w.heap.size∧¬S k) (Fa l b T Sb s) w:=by
 have hT:∀{k o:Nat} {v:Value},w.cell? ⟨k,o,none⟩=some v→k<w.heap.size∧¬S k:=λhc=>⟨(let ⟨_,_,_,hb⟩:=cellC hc;(Array.getElem?_eq_some_iff.1 hb).1),hS.off hc⟩
 refine⟨hT H.c0,λj v hj=>?_,H.c4,λc hc=>⟨Sb,0,rfl,hT (H.dL hc),λj v hj=>?_⟩,λc hc=>?_,λj hj=>?_⟩
 ·match j,hj with
  |0,hj=>cases hj;exact H.c0
  |1,hj=>cases hj;exact H.c1
  |2,hj=>cases hj;exact H.c2
  |3,hj=>cases hj;exact H.c3
  |j+4,hj=>simp[Crew.Til.book]at hj
 ·rw[Nat.zero_add];exact H.cellS hc hj
 ·obtain⟨kb,ko,tb,to,K⟩:=H.bk.case hv hc;exact⟨K.lt,kb,ko,K.ek,hT (K.rk 1 _ rfl),K.rk 1 _ rfl⟩
 ·have e:b.ts[j]?=some (b.ts.getD j ⟨⟨#[]⟩,0,0,0,0⟩):=by
   have:j<b.ts.length:=hj;simp[this]
  obtain⟨tb,to,h1,h2,h3⟩:=H.bk.ts j _ (by rw[List.getElem?_map,e];rfl);exact⟨tb,to,h1,hT (h3 1 _ rfl),h3 1 _ rfl⟩
def Book.held(b:Book)(s:St)(c:Nat):Nat→Int
 |0=>0
 |j+1=>if b.bg j=c then wrap64 (b.held s c j+(s.cases j).held)else b.held s c j
def Book.ji(b:Book)(s:St)(c:Nat):Int:=if c<b.aK.length then b.held s c b.cs.length else 0
theorem wrap_64(x:Int):IntKind.wrap .i64 x=wrap64 x:=by
 first|rfl|(simp[IntKind.wrap,wrap64];done)|(unfold IntKind.wrap wrap64;simp[IntKind.bits,IntKind.signed];omega)
theorem Ii(l:Lay)(b:Book)(T Sb:Nat)(s:St)(c:Nat):∀j,(Fa l b T Sb s).acc c j=b.held s c j
 |0=>rfl
 |j+1=>by
  unfold Crew.Til.acc Book.held;rw[Ii l b T Sb s c j];have e:((Fa l b T Sb s).bg ((Fa l b T Sb s).tar j))=(b.bg j:Int):=rfl;rw[e];by_cases h:b.bg j=c
  ·simp only[h,if_true];exact wrap_64 _
  ·have:¬((b.bg j:Int)=(c:Int)):=by omega
   simp[h,this]
theorem Pj[Keep]{N:Nat}{l:Lay}{b:Book}{T Sb:Nat}{s:St}{w:World}{S:Blks}(H:aJ N l b (Tl.bare T Sb) s w)(hv:Valid b)(hlim:Keep.lim≤w.heap.size) :
  CallsR Tryz.prog Inside 80 #[.pointer (some ⟨T,0,none⟩)] w S λv w' S'=>v=.agg #[.int .i64 (b.ji s 0),.int .i64 (b.ji s 1),.int .i64 (b.ji s 2)]∧fK w.heap.size w S w' S':=by
 refine CallsR.wst λhS=>?_;have hnc:=hv.nc;have hnk:=hv.nk;refine(Crew.heldR (Fa l b T Sb s) b.aK.length l.cb l.cc rfl hnc (by show((b.cs.length:Nat):Int)<_;omega) w S hlim (tilW_of H hv hS)).mono λv w' S' h=>⟨?_,⟨⟨h.os,h.output,h.size,h.old⟩,h.shun⟩⟩
 rw[h.val];have e:∀c,(Fa l b T Sb s).out b.aK.length c=.int .i64 (b.ji s c):=λc=>by
  unfold Crew.Til.out Book.ji Crew.Til.val;rw[Ii];split<;>rfl
 rw[e,e,e]
end
section
set_option maxHeartbeats 1000000
set_option maxRecDepth 10000
open Go Go.RowKit Lift
theorem iE.blk{w w':World}(h:iE w w'){B:Nat}{ty:TypeId}{cs:Array Value}(hb:Blk w B ty cs):Blk w' B ty cs:=by unfold Blk at *;rw[h.heap];exact hb
variable [Keep]
theorem sV{c:Code}{q:Exit→Act→World→Prop}{a:Act}{w:World}{S:Blks}(h:∀w',iE w w'→c.wpIn Fz 0 Tryz.prog q a w'):wpR Tryz.prog Inside c (λe a' w' S'=>S'=S∧q e a' w') a w S:=yU fit (λτ d=>h _ ⟨rfl,rfl,rfl⟩)
section
variable {P:Program} {F:FuncId→Prop} {ops:Array Oper} {W:Wr} {i:Nat} {rest:List Nat} {a:Act} {R:Act→Prop} {o:Oper}
theorem dQ{ops:Array Oper}{W:Wr}{i:Nat}{rest:List Nat}{a:Act}{R:Act→Prop}{o:Oper}(ho:ops[i]?=some o)(hw:Region.wanted o (yielded ops a.tmps)=true)
  (hr:∃a',(∀D w S wr,PO ops D i→W D w S→iE w wr→∀K Q,(∀w',W (also D i) w' S→K a' w')→o.wpIn Fz 0 Tryz.prog a wr K Q)∧∃v,a'=a.put o.dst v∧Fp Tryz.prog Inside ops W rest a' R):Fp Tryz.prog Inside ops W (i::rest) a R:=by
 obtain⟨a',hs,v,e,hr⟩:=hr;exact⟨o,ho,.inl ⟨hw,v,a',e,.inl λD w S hm hW τ d=>hs D w S (bI w τ d) hm hW ⟨rfl,rfl,rfl⟩ _ _ λw' hw'=>⟨rfl,hw'⟩,hr⟩⟩
theorem OQ{f:FuncId}{fn:Func}{body:Code}{args:Array Operand}{ats:Array TypeId}{v:Value}(ho:ops[i]?=some o)(hw:Region.wanted o (yielded ops a.tmps)=true)(hop:o.op=.call { callee:=.value (.func f),args,argTypes:=ats })(hf:P.funcs[f]?=some fn)
  (hname:(fn.name == "runtime.NumGoroutine")=false) (hb:fn.body=some body) {vals:Array Value} (hargs:args.map a.eval=vals) (hc:∀D w S,PO ops D i→W D w S→CallsR P F f vals w S (λu w' S'=>u=v∧W (also D i) w' S'))
  (hr:∃a',a'=a.put o.dst v∧Fp P F ops W rest a' R):Fp P F ops W (i::rest) a R:=by
 obtain⟨a',e,hr⟩:=hr;exact⟨o,ho,.inl ⟨hw,v,a',e,.inr ⟨f,fn,body,args,ats,hop,hf,hname,hb,λD w S hm hW=>by rw[hargs];exact(hc D w S hm hW).mono λu w' S' h=>⟨by rw[e,h.1],h.2⟩⟩,hr⟩⟩
end
omit [Keep]in
def iw:Array Value:=#[.int .i64 0,.int .i64 0,.int .i64 0,.int .i64 0]
omit [Keep]in
theorem idx940(a b c:Value)(w:World):(Instr.index 131 (.agg #[a,b,c]) (.int .i64 0)).run Tryz.prog w=.ok a w:=by kernel_rfl
omit [Keep]in
theorem idx941(a b c:Value)(w:World):(Instr.index 131 (.agg #[a,b,c]) (.int .i64 1)).run Tryz.prog w=.ok b w:=by kernel_rfl
omit [Keep]in
theorem idx942(a b c:Value)(w:World):(Instr.index 131 (.agg #[a,b,c]) (.int .i64 2)).run Tryz.prog w=.ok c w:=by kernel_rfl
omit [Keep]in
theorem idx94(f:Nat→Int){c:Nat}(hc:c<3)(w:World):(Instr.index 131 (.agg #[.int .i64 (f 0),.int .i64 (f 1),.int .i64 (f 2)]) (.int .i64 c)).run Tryz.prog w=.ok (.int .i64 (f c)) w:=
 match c,hc with
 |0,_=>idx940 _ _ _ w
 |1,_=>idx941 _ _ _ w
 |2,_=>idx942 _ _ _ w
omit [Keep]in
theorem load41{w:World}{B:Nat}{a b c d:Value}(h:Blk w B 105 #[a,b,c,d]):(loadVar 105 ⟨B,0,none⟩).run Tryz.prog w=.ok (.agg #[a,b,c,d]) w:=by
 have c0:=h.cell 0;have c1:=h.cell 1;have c2:=h.cell 2;have c3:=h.cell 3;simp at c0 c1 c2 c3;have hs:=Tryz.sizeOf105;have ha:=Tryz.isAgg105;simp[loadVar,go_sem,c0,c1,c2,c3,hs,ha,loadCells,loadCellsFrom,Addr.add]
omit [Keep]in
theorem aJ.low{N M:Nat}{l:Lay}{b:Book}{t:Tl}{s:St}{w:World}(H:aJ N l b t s w)(hbk:dZ M l b w)(hM:M≤N):aJ M l b t s w:=by
 obtain⟨vv,h1,⟨a1,a2⟩,h3⟩:=H.till;exact⟨hbk,Nat.le_trans hM H.NT,Nat.le_trans hM H.NS,H.ne,⟨vv,h1,⟨a1,a2.imp id λ⟨g,cap,cur,c1,c2,c3⟩=>⟨g,cap,cur,c1,Nat.le_trans hM c2,c3⟩⟩,h3⟩,H.pin,H.stand⟩
def CY(M:Nat)(w0:World)(S0:Blks)(l:Lay)(b:Book)(T Sb:Nat)(s:St)(B:Nat)(cs:Array Value):Wr:=λD w S=>fK M w0 S0 w S∧aJ M l b (Tl.bare T Sb) s w∧Blk w B 105 (if D 23=true then cs else iw)
section
variable {M:Nat} {w0 w w':World} {l:Lay} {b:Book} {T Sb:Nat} {s:St} {B:Nat} {cs:Array Value} {D:Nat→Bool} {S0 S S':Blks} {i:Nat}
theorem ND(hi:i≠23):also D i 23=D 23:=by simp[also,Ne.symm hi]
theorem CY.same(h:CY M w0 S0 l b T Sb s B cs D w S)(hi:i≠23)(hw:iE w w'):CY M w0 S0 l b T Sb s B cs (also D i) w' S:=by
 obtain⟨h1,h2,h3⟩:=h;refine⟨hw.preS h1,h2.stands (by rw[hw.heap];exact ak _) (λk cs ty m hk=>by rw[hw.heap];exact hk),?_⟩;rw[ND hi];exact hw.blk h3
theorem CY.grow(h:CY M w0 S0 l b T Sb s B cs D w S)(hi:i≠23)(hg:fK w.heap.size w S w' S'):CY M w0 S0 l b T Sb s B cs (also D i) w' S':=by
 obtain⟨h1,h2,h3⟩:=h;refine⟨h1.trans (hg.mono h2.bk.hN),h2.grow hg.toGrow,?_⟩;rw[ND hi];exact h3.grow hg.toGrow h3.lt
theorem CY.put{a0 a1 a2 a3:Value}(h:CY M w0 S0 l b T Sb s B #[a0,a1,a2,a3] D w S)(hD:D 23=false)(hB:M≤B)(hw:iE w w') :
  CY M w0 S0 l b T Sb s B #[a0,a1,a2,a3] (also D 23) ((((w'.setCell ⟨B,0,none⟩ a0).setCell ⟨B,1,none⟩ a1).setCell ⟨B,2,none⟩ a2).setCell ⟨B,3,none⟩ a3) S:=by
 obtain⟨h1,h2,h3⟩:=h;rw[hD]at h3;have h3':Blk w' B 105 iw:=hw.blk h3;have H:aJ M l b (Tl.bare T Sb) s w':=h2.stands (by rw[hw.heap];exact ak _) (λk cs ty m hk=>by rw[hw.heap];exact hk);have np:∀p∈(Tl.bare T Sb).pins,p.1≠B:=λp hp=>by cases hp
 have e1:=h3'.put 0 a0;have e2:=e1.put 1 a1;have e3:=e2.put 2 a2;have e4:=e3.put 3 a3;have k1:=H.vM h3' (by decide) (by decide) (by decide) hB np 0 a0;have k2:=k1.vM e1 (by decide) (by decide) (by decide) hB np 1 a1;have k3:=k2.vM e2 (by decide) (by decide) (by decide) hB np 2 a2;have k4:=k3.vM e3 (by decide) (by decide) (by decide) hB np 3 a3;have hb:=((((Below.refl M w').setCell (p:=⟨B,0,none⟩) hB a0).setCell (p:=⟨B,1,none⟩) hB a1).setCell (p:=⟨B,2,none⟩) hB a2).setCell (p:=⟨B,3,none⟩) hB a3;refine⟨h1.trans (hw.grow hb).s,k4,?_⟩;have:also D 23 23=true:=by simp[also]
 rw[this];simpa only[iw,aj,ay,au,if_true]using e4
end
set_option maxHeartbeats 32000000 in
set_option maxRecDepth 1000000 in
theorem D7{N:Nat}{l:Lay}{b:Book}{w:World}{S:Blks}(hbk:dZ N l b w)(hf:Full b)(hkd:bK w)(hlim:Keep.lim≤w.heap.size){c:Nat}(hc:c<b.aK.length){day:Int}(h0:0≤day)(h1:day≤9999) :
  CallsR Tryz.prog Inside 33 #[l.val b,.int .i64 c,.int .i64 day] w S λv w' S'=>v=.tuple #[.agg #[.int .i64 ((b.after day).acc c),.int .i64 (b.ji (b.after day) c),.int .i64 ((b.after day).tkn c),.int .i64 ((b.after day).pd c)],.int .i64 0]∧fK w.heap.size w S w' S':=by
 have hnc:=hf.v.nc;have hc3:c<3:=by omega
 have c1:(c:Int)≤b.aK.length-1:=by omega
 have hw0:=hkd.lt;have hafter:=λw' (h:Grow w.heap.size w w')=>oW (m:=0) (nU (hbk.top.grow h) hf.v (hkd.grow h hw0) day);have jG:=λw' (h:Grow w.heap.size w w')=>kV (hbk.top.grow h) hf h0 h1;unfold Lay.val at *;refine tV fit (by simp) Tryz.func33 rfl ?_;simp only[Tryz.ntmps33,aG,aC,aF,Nat.reduceAdd,Nat.reduceSub,Array.replicate_succ,Array.replicate_zero,List.push_toArray,List.append_toArray,List.nil_append,List.cons_append];refine iC fit (rG (sV (q:=λe a' w'=>e=.normal∧a'=⟨#[.agg #[.slice l.cb b.aK.length l.cc,.slice l.tb b.ts.length l.tc,.slice l.kb b.cs.length l.kc,.slice l.pb b.ps.length l.pc],.int .i64 c,.int .i64 day,.pointer (some ⟨w.heap.size,0,none⟩),undef,undef,.pointer (some ⟨w.heap.size+1,0,none⟩),.int .i64 0,undef,undef,undef,undef,undef,undef,undef,undef,undef,undef,undef,undef,undef,undef,undef,undef,undef,undef,undef,undef,undef,undef,undef,undef,undef,undef,undef,undef,undef,undef,undef,undef,undef,undef,undef,undef,undef,undef,undef,undef,undef,undef],[]⟩∧Grow w.heap.size w w'∧Blk w' w.heap.size 27 (l.arr b)∧Blk w' (w.heap.size+1) 105 iw∧w'.heap.size=w.heap.size+2) (λwr hs=>?p0)) ?_)
 case p0=>
  rw[← hs.heap];gi_wp2;refine⟨hs.grow (((Below.refl _ wr).alloc (ak _) _).alloc (by simp) _),?_,?_⟩
  ·exact(Blk.new wr (l.arr b) 27).below ((Below.refl _ _).alloc (ak _) _)
  ·have:=Blk.new (wr.alloc (.cells (l.arr b) 27)) iw 105;rw[World.size_alloc]at this;exact this
 rintro e a w1 S1 ⟨rfl,rfl,rfl,hG1,hA,hR,hs1⟩;refine iC fit (rG (sV (q:=λe a' w'=>e=.normal∧∃B,a'=⟨#[.agg #[.slice l.cb b.aK.length l.cc,.slice l.tb b.ts.length l.tc,.slice l.kb b.cs.length l.kc,.slice l.pb b.ps.length l.pc],.int .i64 c,.int .i64 day,.pointer (some ⟨w.heap.size,0,none⟩),undef,undef,.pointer (some ⟨w.heap.size+1,0,none⟩),.int .i64 0,.pointer (some ⟨B,0,none⟩),undef,.tuple #[.agg #[.slice l.cb b.aK.length l.cc,.slice l.tb b.ts.length l.tc,.slice l.kb b.cs.length l.kc,.slice l.pb b.ps.length l.pc],.int .i64 0],.agg #[.slice l.cb b.aK.length l.cc,.slice l.tb b.ts.length l.tc,.slice l.kb b.cs.length l.kc,.slice l.pb b.ps.length l.pc],.pointer (some ⟨w.heap.size,0,none⟩),.slice l.cb b.aK.length l.cc,.int .i64 c,.bool true,.int .i64 day,.tuple #[.agg #[.slice l.cb b.aK.length l.cc,.slice l.tb b.ts.length l.tc,.slice l.kb b.cs.length l.kc,.slice l.pb b.ps.length l.pc],.int .i64 0],.agg #[.slice l.cb b.aK.length l.cc,.slice l.tb b.ts.length l.tc,.slice l.kb b.cs.length l.kc,.slice l.pb b.ps.length l.pc],.int .i64 0,undef,undef,undef,undef,undef,undef,undef,undef,undef,undef,undef,undef,undef,undef,undef,undef,undef,undef,undef,undef,undef,undef,undef,undef,undef,undef,undef,undef,undef,undef],[]⟩∧Grow w1.heap.size w1 w'∧Blk w' B 123 (l.arr b)) (λwr hs=>?p1)) ?_)
 case p1=>
  have hA1:=hs.blk hA;have hG1:=hs.pre hG1;rw[← hs.heap];refine gB rfl mixed (by kernel_rfl) (WB wr 10 11 (l.arr b)) 8 (x₀:=undef) rfl ⟨(show Below wr.heap.size wr { wr with drawn:=wr.drawn+1 }from⟨rfl,rfl,rfl,ak _,λ_ _=>rfl⟩),λh=>by cases h⟩ ?_;simp only[aG,aC,aF,Nat.reduceAdd,Nat.zero_add,List.range,List.range.loop]
  iterate 2
   refine bG rfl (λ_=>rfl) (by decide) rfl ?_;apply ah;refine⟨λD x w' hm hW K Q hK=>?_,?_⟩
   ·have q:=hA1.below hW.1;have q0:=q.cell 0;have q1:=q.cell 1;have q2:=q.cell 2;have q3:=q.cell 3;simp at q0 q1 q2 q3;simp only[Lift.Act.dG,aj,ay,au];gi_wp2;exact hW.step (by decide) (by decide) (Below.refl _ _)
   apply ah;refine⟨λx=>rfl,?_⟩;refine bG rfl (λ_=>rfl) (by decide) rfl ?_;apply ah;refine⟨λD x w' hm hW K Q hK=>?_,?_⟩
   ·simp only[Lift.Act.dG,aj,ay,au];gi_wp2;exact hW.step (by decide) (by decide) (Below.refl _ _)
   apply ah;refine⟨λx=>rfl,?_⟩
  refine bG rfl (λ_=>rfl) (by decide) rfl ?_;apply ah;refine⟨λD x w' hm hW K Q hK=>?_,?_⟩
  ·simp only[Lift.Act.dG,aj,ay,au]
   gi_wp2_with (gi_at_call 79;refine(uX _ _ _ _ (by omega) _).mono ?_;rintro e w3 ⟨rfl,rfl⟩)
   exact hW.step (by decide) (by decide) (Below.refl _ _)
  apply ah;refine⟨λx=>rfl,?_⟩;refine bG rfl (λ_=>rfl) (by decide) rfl ?_;apply ah;refine⟨λD x w' hm hW K Q hK=>?_,?_⟩
  ·simp only[Lift.Act.dG,aj,ay,au];gi_wp2;exact hW.step (by decide) (by decide) (Below.refl _ _)
  apply ah;refine⟨λx=>rfl,?_⟩;refine bG rfl (λ_=>rfl) (by decide) rfl ?_;apply ah;refine⟨λD x w' hm hW K Q hK=>?_,?_⟩
  ·simp only[Lift.Act.dG,aj,ay,au]
   gi_wp2_with (gi_at_call 45;refine(jG _ (Grow.trans hG1 ((Grow.of hW.1).mono hG1.size))).mono ?_;rintro e w3 ⟨rfl,hb⟩)
   exact hW.step (by decide) (by decide) hb
  iterate 3
   apply ah;refine⟨λx=>rfl,?_⟩;refine bG rfl (λ_=>rfl) (by decide) rfl ?_;apply ah;refine⟨λD x w' hm hW K Q hK=>?_,?_⟩
   ·simp only[Lift.Act.dG,aj,ay,au];gi_wp2;exact hW.step (by decide) (by decide) (Below.refl _ _)
  apply ah;refine⟨λx=>rfl,?_⟩;refine zD rfl (λ_=>rfl) rfl rfl (λD x w' hm hW K Q hK=>oV _ _ _ _ (hK _ _ (WB.make hm (by kernel_rfl) hW))) ?_;refine kM rfl (λ_=>rfl) rfl (λD x w' hm hW K Q hK=>?_) ?_
  ·obtain⟨B,rfl,hB0,pq,hBk⟩:=WB.store hm (by kernel_rfl) hW;have z0:=pq.cell 0;have z1:=pq.cell 1;have z2:=pq.cell 2;have z3:=pq.cell 3;have y0:=pq.frozen 0;have y1:=pq.frozen 1;have y2:=pq.frozen 2;have y3:=pq.frozen 3;simp[jF]at z0 z1 z2 z3;simp only[Lift.Act.dG,aj,ay,au]at hK ⊢;gi_wp2;refine hBk _ ?_ ?_
   ·have:=(((pq.put 0 (.slice l.cb b.aK.length l.cc)).put 1 (.slice l.tb b.ts.length l.tc)).put 2 (.slice l.kb b.cs.length l.kc)).put 3 (.slice l.pb b.ps.length l.pc);simpa only[jF,aj,ay,au]using this
   ·exact(((hW.1.setCell (p:=⟨B,0,none⟩) hB0 _).setCell (p:=⟨B,1,none⟩) hB0 _).setCell (p:=⟨B,2,none⟩) hB0 _).setCell (p:=⟨B,3,none⟩) hB0 _
  refine bG rfl (λ_=>rfl) (by decide) rfl ?_;apply ah;refine⟨λD x w' hm hW K Q hK=>?_,?_⟩
  ·simp only[Lift.Act.dG,aj,ay,au];gi_wp2;exact hW.step (by decide) (by decide) (Below.refl _ _)
  apply ah;refine⟨λx=>rfl,?_⟩;rintro x w2 ⟨hb2,hx⟩;obtain⟨B,rfl,hB0,hB⟩:=hx rfl;exact⟨by trivial,B,rfl,hs.grow hb2,hB⟩
 rintro e a w2 S2 ⟨rfl,rfl,B,rfl,hG2,hB⟩;refine iC fit (rG (sV (q:=λe a' w'=>e=.normal∧a'=⟨#[.agg #[.slice l.cb b.aK.length l.cc,.slice l.tb b.ts.length l.tc,.slice l.kb b.cs.length l.kc,.slice l.pb b.ps.length l.pc],.int .i64 c,.int .i64 day,.pointer (some ⟨w.heap.size,0,none⟩),undef,undef,.pointer (some ⟨w.heap.size+1,0,none⟩),.int .i64 0,.pointer (some ⟨B,0,none⟩),undef,.tuple #[.agg #[.slice l.cb b.aK.length l.cc,.slice l.tb b.ts.length l.tc,.slice l.kb b.cs.length l.kc,.slice l.pb b.ps.length l.pc],.int .i64 0],.agg #[.slice l.cb b.aK.length l.cc,.slice l.tb b.ts.length l.tc,.slice l.kb b.cs.length l.kc,.slice l.pb b.ps.length l.pc],.pointer (some ⟨w.heap.size,0,none⟩),.slice l.cb b.aK.length l.cc,.int .i64 c,.bool true,.int .i64 day,.tuple #[.agg #[.slice l.cb b.aK.length l.cc,.slice l.tb b.ts.length l.tc,.slice l.kb b.cs.length l.kc,.slice l.pb b.ps.length l.pc],.int .i64 0],.agg #[.slice l.cb b.aK.length l.cc,.slice l.tb b.ts.length l.tc,.slice l.kb b.cs.length l.kc,.slice l.pb b.ps.length l.pc],.int .i64 0,.int .i64 0,.bool false,undef,undef,undef,undef,undef,undef,undef,undef,undef,undef,undef,undef,undef,undef,undef,undef,undef,undef,undef,undef,undef,undef,undef,undef,undef,undef,undef,undef],[]⟩∧Grow w2.heap.size w2 w') (λwr hs=>?p2)) ?_)
 case p2=>
  gi_wp2;exact hs.grow (Below.refl _ _)
 rintro e a w3 S3 ⟨rfl,rfl,rfl,hG3⟩;have hG12:=hG1.trans (hG2.mono hG1.size);have NP:=hG12.trans (hG3.mono hG12.size);have hB3:=hB.grow hG3 hB.lt;have hR3:=(hR.grow hG2 hR.lt).grow hG3 (aB hR.lt hG2.size);have hsz3:w1.heap.size≤w3.heap.size:=Nat.le_trans hG2.size hG3.size;refine iC fit (rG (sV (q:=λe a' w'=>e=.normal∧∃T Sb,a'=⟨#[.agg #[.slice l.cb b.aK.length l.cc,.slice l.tb b.ts.length l.tc,.slice l.kb b.cs.length l.kc,.slice l.pb b.ps.length l.pc],.int .i64 c,.int .i64 day,.pointer (some ⟨w.heap.size,0,none⟩),undef,undef,.pointer (some ⟨w.heap.size+1,0,none⟩),.int .i64 0,.pointer (some ⟨B,0,none⟩),.pointer (some ⟨T,0,none⟩),.tuple #[.agg #[.slice l.cb b.aK.length l.cc,.slice l.tb b.ts.length l.tc,.slice l.kb b.cs.length l.kc,.slice l.pb b.ps.length l.pc],.int .i64 0],.agg #[.slice l.cb b.aK.length l.cc,.slice l.tb b.ts.length l.tc,.slice l.kb b.cs.length l.kc,.slice l.pb b.ps.length l.pc],.pointer (some ⟨w.heap.size,0,none⟩),.slice l.cb b.aK.length l.cc,.int .i64 c,.bool true,.int .i64 day,.tuple #[.agg #[.slice l.cb b.aK.length l.cc,.slice l.tb b.ts.length l.tc,.slice l.kb b.cs.length l.kc,.slice l.pb b.ps.length l.pc],.int .i64 0],.agg #[.slice l.cb b.aK.length l.cc,.slice l.tb b.ts.length l.tc,.slice l.kb b.cs.length l.kc,.slice l.pb b.ps.length l.pc],.int .i64 0,.int .i64 0,.bool false,undef,undef,.agg #[.slice l.cb b.aK.length l.cc,.slice l.tb b.ts.length l.tc,.slice l.kb b.cs.length l.kc,.slice l.pb b.ps.length l.pc],.int .i64 day,.pointer (some ⟨T,0,none⟩),undef,undef,undef,undef,undef,undef,undef,undef,undef,undef,undef,undef,undef,undef,undef,undef,undef,undef,undef,undef,undef,undef,undef],[]⟩∧Grow w3.heap.size w3 w'∧aJ w3.heap.size l b (Tl.bare T Sb) (b.after day) w') (λwr hs=>?p3)) ?_)
 case p3=>
  have hB3:=hs.blk hB3;have g0:=hB3.cell 0;have g1:=hB3.cell 1;have g2:=hB3.cell 2;have g3:=hB3.cell 3;simp at g0 g1 g2 g3;have hGr:=hs.pre NP
  gi_wp2_with (gi_at_call 47;refine(hafter _ hGr).mono ?_;rintro e w4 ⟨T,Sb,rfl,H,hb3⟩)
  exact⟨by rw[← hs.heap];exact hs.grow hb3,Sb,by rw[← hs.heap];exact H⟩
 rintro e a w4 S4 ⟨rfl,rfl,T,Sb,rfl,hG4,H⟩;have hG:=NP.trans (hG4.mono NP.size);have hR4:=hR3.grow hG4 (aB hR.lt hsz3);have hL:=H.low (hbk.top.grow hG) (Nat.le_trans NP.size (ak _));refine iC fit (zy fit mixed (by kernel_rfl) (CY w.heap.size w S4 l b T Sb (b.after day) (w.heap.size+1) #[.int .i64 ((b.after day).acc c),.int .i64 (b.ji (b.after day) c),.int .i64 ((b.after day).tkn c),.int .i64 ((b.after day).pd c)]) ⟨hG.s,hL,hR4⟩ ?_);simp only[aG,aC,aF,Nat.reduceAdd,Nat.zero_add,List.range,List.range.loop]
 iterate 5
  refine dQ rfl rfl ?_;apply ah;refine⟨λD w' S' wr hm hW hs K Q hK=>?_,?_⟩
  ·gi_wp2;exact hW.same (by decide) hs
  apply ah;refine⟨rfl,?_⟩
 refine dQ rfl rfl ?_;apply ah;refine⟨λD w' S' wr hm hW hs K Q hK=>?_,?_⟩
 ·have H:=hW.2.1.stands (w':=wr) (by rw[hs.heap];exact ak _) (λk cs ty m hk=>by rw[hs.heap];exact hk);have k0:=H.yV hc3;have k1:=H.Rw hc3;have k2:=H.cPd hc3;simp only[Tl.bare]at k0 k1 k2;gi_wp2;exact hW.same (by decide) hs
 apply ah;refine⟨rfl,?_⟩;refine dQ rfl rfl ?_;apply ah;refine⟨λD w' S' wr hm hW hs K Q hK=>?_,?_⟩
 ·gi_wp2;exact hW.same (by decide) hs
 apply ah;refine⟨rfl,?_⟩;refine OQ rfl rfl rfl Tryz.func80 (by kernel_rfl) Crew.Ru (vals:=#[.pointer (some ⟨T,0,none⟩)]) (by simp[Act.eval]) (v:=.agg #[.int .i64 (b.ji (b.after day) 0),.int .i64 (b.ji (b.after day) 1),.int .i64 (b.ji (b.after day) 2)]) (λD w' S' hm hW=>(Pj hW.2.1 hf.v (Nat.le_trans hlim hW.1.size)).mono λv w'' S'' h=>⟨h.1,hW.grow (by decide) h.2⟩) ?_;apply ah;refine⟨rfl,?_⟩;refine dQ rfl rfl ?_;apply ah;refine⟨λD w' S' wr hm hW hs K Q hK=>?_,?_⟩
 ·gi_wp2;exact hW.same (by decide) hs
 apply ah;refine⟨rfl,?_⟩;refine dQ rfl rfl ?_;apply ah;refine⟨λD w' S' wr hm hW hs K Q hK=>?_,?_⟩
 ·have hi:=idx94 (λj=>b.ji (b.after day) j) hc3;gi_wp2;exact hW.same (by decide) hs
 iterate 5
  apply ah;refine⟨rfl,?_⟩;refine dQ rfl rfl ?_;apply ah;refine⟨λD w' S' wr hm hW hs K Q hK=>?_,?_⟩
  ·gi_wp2;exact hW.same (by decide) hs
 apply ah;refine⟨rfl,?_⟩;refine dQ rfl rfl ?_;apply ah;refine⟨λD w' S' wr hm hW hs K Q hK=>?_,?_⟩
 ·have H:=hW.2.1.stands (w':=wr) (by rw[hs.heap];exact ak _) (λk cs ty m hk=>by rw[hs.heap];exact hk);have k0:=H.yV hc3;have k1:=H.Rw hc3;have k2:=H.cPd hc3;simp only[Tl.bare]at k0 k1 k2;gi_wp2;exact hW.same (by decide) hs
 iterate 5
  apply ah;refine⟨rfl,?_⟩;refine dQ rfl rfl ?_;apply ah;refine⟨λD w' S' wr hm hW hs K Q hK=>?_,?_⟩
  ·gi_wp2;exact hW.same (by decide) hs
 apply ah;refine⟨rfl,?_⟩;refine dQ rfl rfl ?_;apply ah;refine⟨λD w' S' wr hm hW hs K Q hK=>?_,?_⟩
 ·have H:=hW.2.1.stands (w':=wr) (by rw[hs.heap];exact ak _) (λk cs ty m hk=>by rw[hs.heap];exact hk);have k0:=H.yV hc3;have k1:=H.Rw hc3;have k2:=H.cPd hc3;simp only[Tl.bare]at k0 k1 k2;gi_wp2;exact hW.same (by decide) hs
 apply ah;refine⟨rfl,?_⟩;refine dQ rfl rfl ?_;apply ah;refine⟨λD w' S' wr hm hW hs K Q hK=>?_,?_⟩
 ·gi_wp2;exact hW.same (by decide) hs
 apply ah;refine⟨rfl,?_⟩;refine dQ rfl rfl ?_;apply ah;refine⟨λD w' S' wr hm hW hs K Q hK=>?_,?_⟩
 ·have hz:=hs.blk hW.2.2;have z0:=hz.cell 0;have z1:=hz.cell 1;have z2:=hz.cell 2;have z3:=hz.cell 3;have y0:=hz.frozen 0;have y1:=hz.frozen 1;have y2:=hz.frozen 2;have y3:=hz.frozen 3;rw[hm.1]at z0 z1 z2 z3;simp[iw]at z0 z1 z2 z3;gi_wp2;exact hW.put hm.1 (by omega) hs
 refine⟨undef,rfl,?_⟩;refine dQ rfl rfl ?_;apply ah;refine⟨λD w' S' wr hm hW hs K Q hK=>?_,?_⟩
 ·gi_wp2;exact hW.same (by decide) hs
 apply ah;refine⟨rfl,?_⟩;rintro w5 S5 ⟨hG5,H5,hR5⟩;refine zK fit ⟨rfl,.tuple #[.agg #[.int .i64 ((b.after day).acc c),.int .i64 (b.ji (b.after day) c),.int .i64 ((b.after day).tkn c),.int .i64 ((b.after day).pd c)],.int .i64 0],λτ d=>?_,rfl,hG5⟩;have hR5:Blk (bI w5 τ d) (w.heap.size+1) 105 #[.int .i64 ((b.after day).acc c),.int .i64 (b.ji (b.after day) c),.int .i64 ((b.after day).tkn c),.int .i64 ((b.after day).pd c)]:=hR5;rw[results_cell_tmp rfl];simp[asAddr,Result.andThen,load41 hR5]
end
