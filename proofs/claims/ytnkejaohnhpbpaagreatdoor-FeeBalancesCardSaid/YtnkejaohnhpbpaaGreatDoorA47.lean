/- Whether a book has a move; whether all cases that are kept in a book are kept in another one: inside the fence. -/
import Derived.Laws.OwnMore
import Derived.Test.YtnkejaohnhpbpaaGreatDoorA36
set_option linter.all false
section
namespace Go.Proofs.YtnkejaohnhpbpaaGreatDoor
open Go Go.RowKit Lift
def Book.keeps(b:Book)(c:Nat):Bool:=((b.after 9999).cases c).state==1&&((b.after 9999).cases c).held==0
end Go.Proofs.YtnkejaohnhpbpaaGreatDoor
end
section
namespace Go.Proofs.YtnkejaohnhpbpaaGreatDoor
open Go Go.RowKit Lift
theorem Blk.gr{w w':World}{B:Nat}{ty:TypeId}{cs:Array Value}(h:Blk w B ty cs)(hg:Grow w.heap.size w w'):Blk w' B ty cs:=h.grow hg h.lt
theorem dZ.gr{w w':World}{v:Value}{xs:List Int}(h:dZ w v xs)(hg:Grow w.heap.size w w'):dZ w' v xs:=h.grow hg
theorem bV.gr{N:Nat}{l:Lay}{b:aN}{w w':World}(h:bV N l b w)(hg:Grow w.heap.size w w'):bV N l b w':=h.grow hg
def fG(ps:List dS):List Value:=ps.flatMap dS.row
theorem qH:∀(ps:List dS) (k:Nat) (v:Value),(fG ps)[k]?=some v→∃i p j,ps[i]?=some p∧p.row[j]?=some v∧k=i * 5+j
 | [],k,v,h=>by simp[fG]at h
 |q::ps,k,v,h=>by
  have hl:q.row.length=5:=by simp[dS.row]
  unfold fG at h;rw[List.flatMap_cons]at h;by_cases hk:k<5
  ·rw[List.getElem?_append_left (by omega)]at h;exact⟨0,q,k,rfl,h,by omega⟩
  ·rw[List.getElem?_append_right (by omega),hl]at h;obtain⟨i,p,j,h1,h2,h3⟩:=qH ps (k - 5) v h;exact⟨i+1,p,j,by simpa using h1,h2,by omega⟩
theorem FV{w w':World}{N n size:Nat}{e:TypeId}{v:Value}{xs:List Value}(h:w.ownsRow N e size v n xs)(hg:w.grownBy w' v.ownBlock)(hN:N≤w.heap.size):Below N w w':=by
 refine(Below.refl N w).grown hg hN (λk e=>?_);rcases h.2 with⟨rfl,_⟩|⟨g,cap,cur,rfl,hb,_⟩
 ·cases e
 ·cases e;exact hb
def PaysAt(w:World)(v:Value)(ps:List dS):Prop:=∃base cap,v=.slice base ps.length cap∧dB w.heap.size base 5 (ps.map dS.row) w
theorem PaysAt.cells{w:World}{a:Addr}{ps:List dS}(h:dB w.heap.size (some a) 5 (ps.map dS.row) w)(_:ps≠[]):∀j u,(fG ps)[j]?=some u→w.cell? (a.add j)=some u:=λj u hu=>by
 obtain⟨i,p,k,h1,h2,rfl⟩:=qH ps j u hu;obtain⟨b,o,e1,e2,e3⟩:=h i p.row (by rw[List.getElem?_map,h1];rfl);cases e1;have:=e3 k u h2;rw[Addr.add_mid,← Nat.add_assoc];exact this
theorem dB.mono{N N':Nat}{base:Option Addr}{size:Nat}{rows:List (List Value)}{w:World}(h:dB N base size rows w)(hN:N≤N'):dB N' base size rows w:=λi r hr=>by
 obtain⟨b,o,h1,h2,h3⟩:=h i r hr;exact⟨b,o,h1,aG h2 hN,h3⟩
section
variable {F:Fence} {n:Nat}
end
end Go.Proofs.YtnkejaohnhpbpaaGreatDoor
end
section
namespace Go.Proofs.YtnkejaohnhpbpaaGreatDoor
open Go Go.RowKit Lift
section
variable {w0 w w1:World} {S0 S:Blks} {B BO j:Nat} {l:Lay} {b:aN} {v:Value}
end
end Go.Proofs.YtnkejaohnhpbpaaGreatDoor
end
