/- Whether a book has a move; whether all cases that are kept in a book are kept in another one: inside the fence. -/
import Derived.Laws.OwnMore
import Derived.Test.YtnkejaohnhpbpaaGreatDoorA40
set_option linter.all false
section
namespace Go.Proofs.YtnkejaohnhpbpaaGreatDoor
open Go Go.RowKit Lift
def Book.keeps (b:Book) (c:Nat):Bool:=((b.after 9999).cases c).state == 1 && ((b.after 9999).cases c).held == 0
end Go.Proofs.YtnkejaohnhpbpaaGreatDoor
end
section
namespace Go.Proofs.YtnkejaohnhpbpaaGreatDoor
open Go Go.RowKit Lift
theorem Blk.gr {w w':World} {B:Nat} {ty:TypeId} {cs:Array Value} (h:Blk w B ty cs) (hg:Grow w.heap.size w w'):Blk w' B ty cs:=h.grow hg h.lt
theorem SeqAt.gr {w w':World} {v:Value} {xs:List Int} (h:SeqAt w v xs) (hg:Grow w.heap.size w w'):SeqAt w' v xs:=h.grow hg
theorem RBkAt.gr {N:Nat} {l:Lay} {b:RBook} {w w':World} (h:RBkAt N l b w) (hg:Grow w.heap.size w w'):RBkAt N l b w':=h.grow hg
def payCells (ps:List RPay):List Value:=ps.flatMap RPay.row
theorem payCells_split:∀ (ps:List RPay) (k:Nat) (v:Value),(payCells ps)[k]? = some v → ∃ i p j,ps[i]? = some p ∧ p.row[j]? = some v ∧ k = i * 5 + j
 | [],k,v,h => by simp [payCells] at h
 | q :: ps,k,v,h => by
  have hl:q.row.length = 5:=by simp [RPay.row]
  unfold payCells at h;rw [List.flatMap_cons] at h;by_cases hk:k < 5
  ·rw [List.getElem?_append_left (by omega)] at h;exact ⟨0,q,k,rfl,h,by omega⟩
  ·rw [List.getElem?_append_right (by omega),hl] at h;obtain ⟨i,p,j,h1,h2,h3⟩:=payCells_split ps (k - 5) v h;exact ⟨i + 1,p,j,by simpa using h1,h2,by omega⟩
theorem owns_bel {w w':World} {N n size:Nat} {e:TypeId} {v:Value} {xs:List Value} (h:w.ownsRow N e size v n xs) (hg:w.grownBy w' v.ownBlock) (hN:N ≤ w.heap.size):Below N w w':=by
 refine (Below.refl N w).grown hg hN (fun k e => ?_);rcases h.2 with ⟨rfl,_⟩ | ⟨g,cap,cur,rfl,hb,_⟩
 ·cases e
 ·cases e;exact hb
def PaysAt (w:World) (v:Value) (ps:List RPay):Prop:=∃ base cap,v = .slice base ps.length cap ∧ RowsAt w.heap.size base 5 (ps.map RPay.row) w
theorem PaysAt.cells {w:World} {a:Addr} {ps:List RPay} (h:RowsAt w.heap.size (some a) 5 (ps.map RPay.row) w) (_:ps ≠ []):∀ j u,(payCells ps)[j]? = some u → w.cell? (a.add j) = some u:=fun j u hu => by
 obtain ⟨i,p,k,h1,h2,rfl⟩:=payCells_split ps j u hu;obtain ⟨b,o,e1,e2,e3⟩:=h i p.row (by rw [List.getElem?_map,h1];rfl);cases e1;have:=e3 k u h2;rw [Addr.add_mid,← Nat.add_assoc];exact this
theorem RowsAt.mono {N N':Nat} {base:Option Addr} {size:Nat} {rows:List (List Value)} {w:World} (h:RowsAt N base size rows w) (hN:N ≤ N'):RowsAt N' base size rows w:=fun i r hr => by
 obtain ⟨b,o,h1,h2,h3⟩:=h i r hr;exact ⟨b,o,h1,Nat.lt_of_lt_of_le h2 hN,h3⟩
section
variable {F:Fence} {n:Nat}
end
end Go.Proofs.YtnkejaohnhpbpaaGreatDoor
end
section
namespace Go.Proofs.YtnkejaohnhpbpaaGreatDoor
open Go Go.RowKit Lift
section
variable {w0 w w1:World} {S0 S:Blks} {B BO j:Nat} {l:Lay} {b:RBook} {v:Value}
theorem LawAt.poke (E:LawAt w0 S0 w0.heap.size l b B w S) (h0:0 < w0.heap.size) (hb:Below w.heap.size w w1) (hlo:w0.heap.size ≤ BO) (hne:BO ≠ B):LawAt w0 S0 w0.heap.size l b B (w1.setCell ⟨BO,j,none⟩ v) S:=by
 have hbM:Below w0.heap.size w (w1.setCell ⟨BO,j,none⟩ v):=(hb.mono E.g.size).setCell (p:=⟨BO,j,none⟩) hlo v;exact ⟨E.g.trans (Grow.of hbM).s,E.bk.below hbM,(E.bx.below hb).set hne v,E.lo,E.kd.below hbM h0⟩
theorem RowsAt.growN {N size:Nat} {base:Option Addr} {rows:List (List Value)} {w w':World} (h:RowsAt N base size rows w) (hg:Grow N w w'):RowsAt N base size rows w':=fun i r hr => by
 obtain ⟨b,o,h1,h2,h3⟩:=h i r hr;refine ⟨b,o,h1,h2,fun j v hv => ?_⟩;have:=h3 j v hv;unfold World.cell? at this ⊢;rw [hg.block b h2];exact this
end
theorem owns_same {w w':World} {N n size:Nat} {e:TypeId} {v:Value} {xs:List Value} (h:w.ownsRow N e size v n xs) (hs:SameW w w'):w'.ownsRow N e size v n xs:=by
 unfold World.ownsRow at *;rw [hs.heap];exact h
theorem rows_same {N size:Nat} {base:Option Addr} {rows:List (List Value)} {w w':World} (h:RowsAt N base size rows w) (hs:SameW w w'):RowsAt N base size rows w':=fun i r hr => by
 obtain ⟨b,o,h1,h2,h3⟩:=h i r hr;refine ⟨b,o,h1,h2,fun j v hv => ?_⟩;have:=h3 j v hv;unfold World.cell? at this ⊢;rw [hs.heap];exact this
end Go.Proofs.YtnkejaohnhpbpaaGreatDoor
end
