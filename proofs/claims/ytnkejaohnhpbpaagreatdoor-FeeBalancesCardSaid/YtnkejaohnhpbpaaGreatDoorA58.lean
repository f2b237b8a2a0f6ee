/- same, beside leavers: what stands alike is told alike. PRINTED BY A PROGRAM. -/
import Derived.Test.YtnkejaohnhpbpaaGreatDoorA10
import Derived.Test.YtnkejaohnhpbpaaGreatDoorA36
import Derived.Test.YtnkejaohnhpbpaaGreatDoorA43
import Derived.Test.YtnkejaohnhpbpaaGreatDoorA46
import Derived.Test.YtnkejaohnhpbpaaGreatDoorA47
import Derived.Test.YtnkejaohnhpbpaaGreatDoorA48
set_option linter.all false
section
namespace Go.Proofs.YtnkejaohnhpbpaaGreatDoor
open Go Go.RowKit Lift
structure oH (w0:World) (S0:Blks) (N N2:Nat) (l l2:Lay) (b b2:Book) (B B':Nat) (w:World) (S:Blks):Prop where
 g:fD w0.heap.size w0 S0 w S
 bk:dL N l b w
 bk2:dL N2 l2 b2 w
 bx:Blk w B 27 (l.arr b)
 bx2:Blk w B' 27 (l2.arr b2)
 kd:bT w
section
variable {w0 w w':World} {S0 S S':Blks} {N N2 B B':Nat} {l l2:Lay} {b b2:Book}
theorem oH.grow(h:oH w0 S0 N N2 l l2 b b2 B B' w S)(hg:fD w.heap.size w S w' S'):oH w0 S0 N N2 l l2 b b2 B B' w' S':=
 ⟨h.g.trans (hg.mono h.g.size),h.bk.grow hg.toGrow,h.bk2.grow hg.toGrow,h.bx.grow hg.toGrow h.bx.lt,h.bx2.grow hg.toGrow h.bx2.lt,h.kd.grow hg.toGrow h.kd.lt⟩
theorem oH.same(h:oH w0 S0 N N2 l l2 b b2 B B' w S)(hs:iH w w'):oH w0 S0 N N2 l l2 b b2 B B' w' S:=h.grow (hs.g _).s
theorem oH.below(h:oH w0 S0 N N2 l l2 b b2 B B' w S)(hb:Below w.heap.size w w'):oH w0 S0 N N2 l l2 b b2 B B' w' S:=h.grow (Grow.of hb).s
end
variable [Keep]
end Go.Proofs.YtnkejaohnhpbpaaGreatDoor
end
section
namespace Go.Proofs.YtnkejaohnhpbpaaGreatDoor
open Go Go.RowKit Lift
structure WA1 (N0 ib ia is:Nat) (sb sa:Tmp) (w0:World) (BO:Nat) (v:Value) (xs:List dS) (m:dS) (D:Nat→Bool) (x:Tmp→Value) (w:World):Prop where
 fin:D is=true→∃w1,Below N0 w0 w1∧w1.ownsRow N0 56 5 (x sa) (xs.length+1) (fG (xs++[m]))∧w=w1.setCell ⟨BO,3,none⟩ (x sa)
 bel:D is=false→Below N0 w0 w
 ov:D is=false→D ia=false→w.ownsRow N0 56 5 v xs.length (fG xs)
 ob:D is=false→D ib=true→D ia=false→w.ownsRow N0 56 5 (x sb) 1 (fG [m])
 oa:D is=false→D ia=true→w.ownsRow N0 56 5 (x sa) (xs.length+1) (fG (xs++[m]))
section
variable {N0 ib ia is BO:Nat} {sb sa:Tmp} {w0 w w':World} {v:Value} {xs:List dS} {m:dS} {D:Nat→Bool} {x:Tmp→Value}
theorem WA1.start{x0:Tmp→Value}(hN:N0≤w0.heap.size)(h:w0.ownsRow N0 56 5 v xs.length (fG xs)):WA1 N0 ib ia is sb sa w0 BO v xs m (λ_=>false) x0 { w0 with drawn:=w0.drawn+1 }:=
 ⟨λh=>by(cases h),λ_=>⟨rfl,rfl,rfl,ay _,λ_ _=>rfl⟩,λ_ _=>h,λ_ h=>by(cases h),λ_ h=>by(cases h)⟩
theorem WA1.pure(h:WA1 N0 ib ia is sb sa w0 BO v xs m D x w){i:Nat}(hi:i∉[ib,ia,is]):WA1 N0 ib ia is sb sa w0 BO v xs m (aJ D i) x w:=by
 simp only[List.mem_cons,List.not_mem_nil,or_false,not_or]at hi;obtain⟨h1,h2,h3⟩:=hi;have e1:=fM (D:=D) (Ne.symm h1);have e2:=fM (D:=D) (Ne.symm h2);have e3:=fM (D:=D) (Ne.symm h3);exact⟨by rw[e3];exact h.fin,by rw[e3];exact h.bel,by rw[e3,e2];exact h.ov,by rw[e3,e1,e2];exact h.ob,by rw[e3,e2];exact h.oa⟩
theorem WA1.build(hN:N0≤w0.heap.size)(hok:ib≠ia∧ib≠is∧ia≠is∧sb≠sa)(h:WA1 N0 ib ia is sb sa w0 BO v xs m D x w)(da:D ia=false)(ds:D is=false):WA1 N0 ib ia is sb sa w0 BO v xs m (aJ D ib) (uH x sb (.slice (some ⟨w.heap.size,0,none⟩) 1 1)) (w.alloc (.cells m.row.toArray 56)):=by
 obtain⟨o1,o2,o3,o4⟩:=hok;have hb:=h.bel ds;have hNw:N0≤w.heap.size:=Nat.le_trans hN hb.size;have ea:aJ D ib ia=D ia:=fM (Ne.symm o1);have es:aJ D ib is=D is:=fM (Ne.symm o2);refine⟨λq=>nof (es.trans ds) q,λ_=>hb.alloc hNw _,λ_ _=>(h.ov ds da).alloc _,λ_ _ _=>?_,λ_ q=>nof (ea.trans da) q⟩;rw[JL];have:=World.ownsRow_lit (e:=56) (base:=N0) (size:=5) w m.row.toArray 1 hNw (by decide) rfl;simpa[fG]using this
theorem WA1.app(hok:ib≠ia∧ib≠is∧ia≠is∧sb≠sa)(hN:N0≤w0.heap.size)(h:WA1 N0 ib ia is sb sa w0 BO v xs m D x w)(da:D ia=false)(ds:D is=false){u:Value}(hown:w'.ownsRow N0 56 5 u (xs.length+1) (fG (xs++[m])))(hg:w.grownBy w' v.ownBlock) :
  WA1 N0 ib ia is sb sa w0 BO v xs m (aJ D ia) (uH x sa u) w':=by
 obtain⟨o1,o2,o3,o4⟩:=hok;have hb:=h.bel ds;have es:aJ D ia is=D is:=fM (Ne.symm o3);exact⟨λq=>nof (es.trans ds) q,λ_=>hb.trans (FV (h.ov ds da) hg (Nat.le_trans hN hb.size)),λ_ q=>nof q eF,λ_ _ q=>nof q eF,λ_ _=>by rw[JL];exact hown⟩
theorem WA1.store(hok:ib≠ia∧ib≠is∧ia≠is∧sb≠sa)(h:WA1 N0 ib ia is sb sa w0 BO v xs m D x w)(qa:D ia=true)(ds:D is=false):WA1 N0 ib ia is sb sa w0 BO v xs m (aJ D is) x (w.setCell ⟨BO,3,none⟩ (x sa)):=by
 obtain⟨o1,o2,o3,o4⟩:=hok;exact⟨λ_=>⟨w,h.bel ds,h.oa ds qa,rfl⟩,λq=>nof q eF,λq=>nof q eF,λq=>nof q eF,λq=>nof q eF⟩
end
end Go.Proofs.YtnkejaohnhpbpaaGreatDoor
end
section
namespace Go.Proofs.YtnkejaohnhpbpaaGreatDoor
open Go Go.RowKit Lift
structure SameOn (b b2:Book) (n:Int):Prop where
 cs:b.cs.length=b2.cs.length
 co:b.coins.length=b2.coins.length
 st:∀c,c<b.cs.length→((b.after n).cases c).state=((b2.after n).cases c).state∧((b.after n).cases c).held=((b2.after n).cases c).held
 ba:∀k,k<b.coins.length→(b.after n).acc k=(b2.after n).acc k∧b.cO (b.after n) k=b2.cO (b2.after n) k∧(b.after n).tkn k=(b2.after n).tkn k∧(b.after n).pd k=(b2.after n).pd k
theorem BG(b:Book)(ps':List Pay){s s':St}(h:∀c,s.cases c=s'.cases c)(c:Nat):∀j,b.held s c j=Book.held { b with ps:=ps' } s' c j
 |0=>rfl
 |j+1=>by
  simp only[Book.held];rw[BG b ps' h c j,h j];rfl
theorem Alike.same{b:Book}{ps':List Pay}{n:Int}(h:Alike b { b with ps:=ps' } n):SameOn b { b with ps:=ps' } n where
 cs:=rfl
 co:=rfl
 st:=λc _=>by rw[h.cases c];exact⟨rfl,rfl⟩
 ba:=λk hk=>by
  refine⟨h.acc k,?_,h.tkn k,h.pd k⟩;unfold Book.cO;rw[if_pos hk,if_pos (show k<(Book.coins { b with ps:=ps' }).length from hk)];exact BG b ps' h.cases k _
def dS.inOn(d:Int)(p:dS):Bool:=decide (p.day=d∧p.kind≠2)
def dS.mvOn(d:Int)(p:dS):Bool:=decide (p.day=d∧p.kind=2)
def aN.upTo(b:aN)(n:Int)(j:Nat):List dS:=(b.ps.take j).filter λp=>decide (p.day≤n)
def dS.comes(p:dS):Bool:=decide (p.kind≠2)
def dS.moves(p:dS):Bool:=decide (p.kind=2)
def aN.ins(b:aN)(j:Nat):List dS:=(b.ps.take j).filter dS.comes
def aN.outs(b:aN)(j:Nat):List dS:=(b.ps.take j).filter dS.moves
def turned(t:Nat)(l:List dS):List dS:=l.drop t++l.take t
section
variable {b:aN} {is:List dS}
end
end Go.Proofs.YtnkejaohnhpbpaaGreatDoor
end
section
namespace Go.Proofs.YtnkejaohnhpbpaaGreatDoor
open Go Go.Conc Go.RowKit Lift
section
variable {w0 w w1:World} {S0 S:Blks} {B BO j N0:Nat} {l:Lay} {b:aN} {v:Value}
theorem kZ.yK(E:kZ w0 S0 w0.heap.size l b B w S)(h0:0<w0.heap.size)(hb:Below N0 w w1)(hN:w0.heap.size≤N0)(hB:B<N0):kZ w0 S0 w0.heap.size l b B w1 S:=by
 have hbM:Below w0.heap.size w w1:=hb.mono hN;exact⟨E.g.trans (Grow.of hbM).s,E.bk.below hbM,(hb.block B hB).trans E.bx,E.lo,E.kd.below hbM h0⟩
end
theorem Blk.yK{w w1:World}{B N0:Nat}{ty:TypeId}{cs:Array Value}(h:Blk w B ty cs)(hb:Below N0 w w1)(hB:B<N0):Blk w1 B ty cs:=(hb.block B hB).trans h
section
variable [Keep] {Q:Qr} {a:Act} {w:World} {S:Blks}
end
end Go.Proofs.YtnkejaohnhpbpaaGreatDoor
end
