/- same, beside leavers: what stands alike is told alike. PRINTED BY A PROGRAM. -/
import Derived.Test.YtnkejaohnhpbpaaGreatDoorA43
import Derived.Test.YtnkejaohnhpbpaaGreatDoorA46
import Derived.Test.YtnkejaohnhpbpaaGreatDoorA48
set_option linter.all false
namespace Go.Proofs.YtnkejaohnhpbpaaGreatDoor
section
open Go Go.RowKit Lift
structure qI (w0:World) (S0:Blks) (N N2:Nat) (l l2:Lay) (b b2:Book) (B B':Nat) (w:World) (S:Blks):Prop where
 g:gu w0.heap.size w0 S0 w S
 bk:dQ N l b w
 bk2:dQ N2 l2 b2 w
 bx:Blk w B 27 (l.arr b)
 bx2:Blk w B' 27 (l2.arr b2)
 kd:bT w
section
variable {w0 w w':World} {S0 S S':Blks} {N N2 B B':Nat} {l l2:Lay} {b b2:Book}
theorem qI.grow(h:qI w0 S0 N N2 l l2 b b2 B B' w S)(hg:gu w.heap.size w S w' S'):qI w0 S0 N N2 l l2 b b2 B B' w' S':=
 ⟨h.g.trans (hg.mono h.g.size),h.bk.grow hg.toGrow,h.bk2.grow hg.toGrow,h.bx.grow hg.toGrow h.bx.lt,h.bx2.grow hg.toGrow h.bx2.lt,h.kd.grow hg.toGrow h.kd.lt⟩
theorem qI.same(h:qI w0 S0 N N2 l l2 b b2 B B' w S)(hs:iD w w'):qI w0 S0 N N2 l l2 b b2 B B' w' S:=h.grow (hs.g _).s
theorem qI.below(h:qI w0 S0 N N2 l l2 b b2 B B' w S)(hb:Below w.heap.size w w'):qI w0 S0 N N2 l l2 b b2 B B' w' S:=h.grow (Grow.of hb).s
end
variable [Keep]
end
section
open Go Go.RowKit Lift
structure WA1 (N0 ib ia is:Nat) (sb sa:Tmp) (w0:World) (BO:Nat) (v:Value) (xs:List dM) (m:dM) (D:Nat→Bool) (x:Tmp→Value) (w:World):Prop where
 fin:D is=true→∃w1,Below N0 w0 w1∧w1.ownsRow N0 56 5 (x sa) (xs.length+1) (dh (xs++[m]))∧w=w1.setCell ⟨BO,3,none⟩ (x sa)
 bel:D is=false→Below N0 w0 w
 ov:D is=false→D ia=false→w.ownsRow N0 56 5 v xs.length (dh xs)
 ob:D is=false→D ib=true→D ia=false→w.ownsRow N0 56 5 (x sb) 1 (dh [m])
 oa:D is=false→D ia=true→w.ownsRow N0 56 5 (x sa) (xs.length+1) (dh (xs++[m]))
section
variable {N0 ib ia is BO:Nat} {sb sa:Tmp} {w0 w w':World} {v:Value} {xs:List dM} {m:dM} {D:Nat→Bool} {x:Tmp→Value}
theorem WA1.start{x0:Tmp→Value}(hN:N0≤w0.heap.size)(h:w0.ownsRow N0 56 5 v xs.length (dh xs)):WA1 N0 ib ia is sb sa w0 BO v xs m (λ_=>false) x0 { w0 with drawn:=w0.drawn+1 }:=
 ⟨λh=>by(cases h),λ_=>⟨rfl,rfl,rfl,ay _,λ_ _=>rfl⟩,λ_ _=>h,λ_ h=>by(cases h),λ_ h=>by(cases h)⟩
theorem WA1.pure(h:WA1 N0 ib ia is sb sa w0 BO v xs m D x w){i:Nat}(hi:i∉[ib,ia,is]):WA1 N0 ib ia is sb sa w0 BO v xs m (aQ D i) x w:=by
 simp only[List.mem_cons,List.not_mem_nil,or_false,not_or]at hi;obtain⟨h1,h2,h3⟩:=hi;have e1:=aT (D:=D) (Ne.symm h1);have e2:=aT (D:=D) (Ne.symm h2);have e3:=aT (D:=D) (Ne.symm h3);exact⟨by rw[e3];exact h.fin,by rw[e3];exact h.bel,by rw[e3,e2];exact h.ov,by rw[e3,e1,e2];exact h.ob,by rw[e3,e2];exact h.oa⟩
theorem WA1.build(hN:N0≤w0.heap.size)(hok:ib≠ia∧ib≠is∧ia≠is∧sb≠sa)(h:WA1 N0 ib ia is sb sa w0 BO v xs m D x w)(da:D ia=false)(ds:D is=false):WA1 N0 ib ia is sb sa w0 BO v xs m (aQ D ib) (iU x sb (.slice (some ⟨w.heap.size,0,none⟩) 1 1)) (w.alloc (.cells m.row.toArray 56)):=by
 obtain⟨o1,o2,o3,o4⟩:=hok;have hb:=h.bel ds;have Rx:N0≤w.heap.size:=Nat.le_trans hN hb.size;have ea:aQ D ib ia=D ia:=aT (Ne.symm o1);have es:aQ D ib is=D is:=aT (Ne.symm o2);refine⟨λq=>nof (es.trans ds) q,λ_=>hb.alloc Rx _,λ_ _=>(h.ov ds da).alloc _,λ_ _ _=>?_,λ_ q=>nof (ea.trans da) q⟩;rw[eH];have:=World.ownsRow_lit (e:=56) (base:=N0) (size:=5) w m.row.toArray 1 Rx (by decide) rfl;simpa[dh]using this
theorem WA1.app(hok:ib≠ia∧ib≠is∧ia≠is∧sb≠sa)(hN:N0≤w0.heap.size)(h:WA1 N0 ib ia is sb sa w0 BO v xs m D x w)(da:D ia=false)(ds:D is=false){u:Value}(hown:w'.ownsRow N0 56 5 u (xs.length+1) (dh (xs++[m])))(hg:w.grownBy w' v.ownBlock) :
  WA1 N0 ib ia is sb sa w0 BO v xs m (aQ D ia) (iU x sa u) w':=by
 obtain⟨o1,o2,o3,o4⟩:=hok;have hb:=h.bel ds;have es:aQ D ia is=D is:=aT (Ne.symm o3);exact⟨λq=>nof (es.trans ds) q,λ_=>hb.trans (eY (h.ov ds da) hg (Nat.le_trans hN hb.size)),λ_ q=>nof q bJ,λ_ _ q=>nof q bJ,λ_ _=>by rw[eH];exact hown⟩
theorem WA1.store(hok:ib≠ia∧ib≠is∧ia≠is∧sb≠sa)(h:WA1 N0 ib ia is sb sa w0 BO v xs m D x w)(qa:D ia=true)(ds:D is=false):WA1 N0 ib ia is sb sa w0 BO v xs m (aQ D is) x (w.setCell ⟨BO,3,none⟩ (x sa)):=by
 obtain⟨o1,o2,o3,o4⟩:=hok;exact⟨λ_=>⟨w,h.bel ds,h.oa ds qa,rfl⟩,λq=>nof q bJ,λq=>nof q bJ,λq=>nof q bJ,λq=>nof q bJ⟩
end
end
section
open Go Go.RowKit Lift
structure SameOn (b b2:Book) (n:Int):Prop where
 cs:b.cs.length=b2.cs.length
 co:b.aJ.length=b2.aJ.length
 st:∀c,c<b.cs.length→((b.after n).cases c).state=((b2.after n).cases c).state∧((b.after n).cases c).held=((b2.after n).cases c).held
 ba:∀k,k<b.aJ.length→(b.after n).acc k=(b2.after n).acc k∧b.dB (b.after n) k=b2.dB (b2.after n) k∧(b.after n).tkn k=(b2.after n).tkn k∧(b.after n).pd k=(b2.after n).pd k
theorem Fb(b:Book)(ps':List Pay){s s':St}(h:∀c,s.cases c=s'.cases c)(c:Nat):∀j,b.held s c j=Book.held { b with ps:=ps' } s' c j
 |0=>rfl
 |j+1=>by
  simp only[Book.held];rw[Fb b ps' h c j,h j];rfl
theorem Alike.same{b:Book}{ps':List Pay}{n:Int}(h:Alike b { b with ps:=ps' } n):SameOn b { b with ps:=ps' } n where
 cs:=rfl
 co:=rfl
 st:=λc _=>by rw[h.cases c];exact⟨rfl,rfl⟩
 ba:=λk hk=>by
  refine⟨h.acc k,?_,h.tkn k,h.pd k⟩;unfold Book.dB;rw[if_pos hk,if_pos (show k<(Book.aJ { b with ps:=ps' }).length from hk)];exact Fb b ps' h.cases k _
def dM.inOn(d:Int)(p:dM):Bool:=decide (p.day=d∧p.kind≠2)
def dM.mvOn(d:Int)(p:dM):Bool:=decide (p.day=d∧p.kind=2)
def aP.upTo(b:aP)(n:Int)(j:Nat):List dM:=(b.ps.take j).filter λp=>decide (p.day≤n)
def dM.comes(p:dM):Bool:=decide (p.kind≠2)
def dM.moves(p:dM):Bool:=decide (p.kind=2)
def aP.ins(b:aP)(j:Nat):List dM:=(b.ps.take j).filter dM.comes
def aP.outs(b:aP)(j:Nat):List dM:=(b.ps.take j).filter dM.moves
def turned(t:Nat)(l:List dM):List dM:=l.drop t++l.take t
section
variable {b:aP} {is:List dM}
end
end
section
open Go Go.Conc Go.RowKit Lift
section
variable {w0 w w1:World} {S0 S:Blks} {B BO j N0:Nat} {l:Lay} {b:aP} {v:Value}
theorem mZ.wE(E:mZ w0 S0 w0.heap.size l b B w S)(h0:0<w0.heap.size)(hb:Below N0 w w1)(hN:w0.heap.size≤N0)(hB:B<N0):mZ w0 S0 w0.heap.size l b B w1 S:=by
 have hbM:Below w0.heap.size w w1:=hb.mono hN;exact⟨E.g.trans (Grow.of hbM).s,E.bk.below hbM,(hb.block B hB).trans E.bx,E.lo,E.kd.below hbM h0⟩
end
theorem Blk.wE{w w1:World}{B N0:Nat}{ty:TypeId}{cs:Array Value}(h:Blk w B ty cs)(hb:Below N0 w w1)(hB:B<N0):Blk w1 B ty cs:=(hb.block B hB).trans h
section
variable [Keep] {Q:Qr} {a:Act} {w:World} {S:Blks}
end
end
