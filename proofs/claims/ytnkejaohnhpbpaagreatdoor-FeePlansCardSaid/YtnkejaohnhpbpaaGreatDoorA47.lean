/- Whether a book has a move; whether all cases that are kept in a book are kept in another one: inside the fence. -/
import Derived.Test.YtnkejaohnhpbpaaGreatDoorA36
set_option linter.all false
namespace Go.Proofs.YtnkejaohnhpbpaaGreatDoor
section
open Go Go.RowKit Lift
def Book.keeps(b:Book)(c:Nat):Bool:=((b.after 9999).cases c).state==1&&((b.after 9999).cases c).held==0
end
section
open Go Go.RowKit Lift
theorem Blk.gr{w w':World}{B:Nat}{ty:TypeId}{cs:Array Value}(h:Blk w B ty cs)(hg:Grow w.heap.size w w'):Blk w' B ty cs:=h.grow hg h.lt
theorem bQ.gr{w w':World}{v:Value}{xs:List Int}(h:bQ w v xs)(hg:Grow w.heap.size w w'):bQ w' v xs:=h.grow hg
theorem bU.gr{N:Nat}{l:Lay}{b:aP}{w w':World}(h:bU N l b w)(hg:Grow w.heap.size w w'):bU N l b w':=h.grow hg
def dh(ps:List dM):List Value:=ps.flatMap dM.row
theorem tC:∀(ps:List dM) (k:Nat) (v:Value),(dh ps)[k]?=some v→∃i p j,ps[i]?=some p∧p.row[j]?=some v∧k=i * 5+j
 | [],k,v,h=>by simp[dh]at h
 |q::ps,k,v,h=>by
  have hl:q.row.length=5:=by simp[dM.row]
  unfold dh at h;rw[List.flatMap_cons]at h;by_cases hk:k<5
  ·rw[List.getElem?_append_left (by omega)]at h;exact⟨0,q,k,rfl,h,by omega⟩
  ·rw[List.getElem?_append_right (by omega),hl]at h;obtain⟨i,p,j,h1,h2,h3⟩:=tC ps (k - 5) v h;exact⟨i+1,p,j,by simpa using h1,h2,by omega⟩
theorem eY{w w':World}{N n size:Nat}{e:TypeId}{v:Value}{xs:List Value}(h:w.ownsRow N e size v n xs)(hg:w.grownBy w' v.ownBlock)(hN:N≤w.heap.size):Below N w w':=by
 refine(Below.refl N w).grown hg hN (λk e=>?_);rcases h.2 with⟨rfl,_⟩|⟨g,cap,cur,rfl,hb,_⟩
 ·cases e
 ·cases e;exact hb
def jF(w:World)(v:Value)(ps:List dM):Prop:=∃base cap,v=.slice base ps.length cap∧bZ w.heap.size base 5 (ps.map dM.row) w
theorem jF.cells{w:World}{a:Addr}{ps:List dM}(h:bZ w.heap.size (some a) 5 (ps.map dM.row) w)(_:ps≠[]):∀j u,(dh ps)[j]?=some u→w.cell? (a.add j)=some u:=λj u hu=>by
 obtain⟨i,p,k,h1,h2,rfl⟩:=tC ps j u hu;obtain⟨b,o,e1,e2,e3⟩:=h i p.row (by rw[List.getElem?_map,h1];rfl);cases e1;have:=e3 k u h2;rw[Addr.add_mid,← Nat.add_assoc];exact this
theorem bZ.mono{N N':Nat}{base:Option Addr}{size:Nat}{rows:List (List Value)}{w:World}(h:bZ N base size rows w)(hN:N≤N'):bZ N' base size rows w:=λi r hr=>by
 obtain⟨b,o,h1,h2,h3⟩:=h i r hr;exact⟨b,o,h1,aA h2 hN,h3⟩
section
variable {F:Fence} {n:Nat}
theorem yB{w:World}{t ty e:TypeId}{i:TypeInfo}(ht:Tryz.prog.underlying t=some (.slice e))(hi:Tryz.prog.info? e=some i){v:Value}{k size base c:Nat}{xs:List Value}(hown:w.ownsRow base e size v k xs) :
  (Builtin.append_ #[t,t] ty #[v,.slice none 0 c]).run Tryz.prog w=.ok v w:=by
 rcases hown.2 with⟨rfl,_⟩|⟨g,cap,cur,rfl,_,hg,hnc,_,_⟩
 ·simp[Builtin.append_,run_underlying ht,sizeOf,typeInfo,hi,Builtin.lenOf,Builtin.firstCells,loadCells,loadCellsFrom]
 ·simp[Builtin.append_,run_underlying ht,sizeOf,typeInfo,hi,Builtin.lenOf,Builtin.firstCells,loadCells,loadCellsFrom,hnc,storeCells]
end
end
section
open Go Go.RowKit Lift
section
variable {w0 w w1:World} {S0 S:Blks} {B BO j:Nat} {l:Lay} {b:aP} {v:Value}
theorem bZ.growN{N size:Nat}{base:Option Addr}{rows:List (List Value)}{w w':World}(h:bZ N base size rows w)(hg:Grow N w w'):bZ N base size rows w':=λi r hr=>by
 obtain⟨b,o,h1,h2,h3⟩:=h i r hr;refine⟨b,o,h1,h2,λj v hv=>?_⟩;have:=h3 j v hv;unfold World.cell? at this ⊢;rw[hg.block b h2];exact this
end
theorem FV{w w':World}{N n size:Nat}{e:TypeId}{v:Value}{xs:List Value}(h:w.ownsRow N e size v n xs)(hs:iD w w'):w'.ownsRow N e size v n xs:=by
 unfold World.ownsRow at *;rw[hs.heap];exact h
theorem QT{N size:Nat}{base:Option Addr}{rows:List (List Value)}{w w':World}(h:bZ N base size rows w)(hs:iD w w'):bZ N base size rows w':=λi r hr=>by
 obtain⟨b,o,h1,h2,h3⟩:=h i r hr;refine⟨b,o,h1,h2,λj v hv=>?_⟩;have:=h3 j v hv;unfold World.cell? at this ⊢;rw[hs.heap];exact this
end
