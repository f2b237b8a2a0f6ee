/- An append and where its list lies; lists that lie in older memory, or in newer. -/
import Derived.Maps.AppendAt
import Derived.Sort.LotA
import Derived.Test.YtnkejaohnhpbpaaGreatDoorA17
import Derived.Test.YtnkejaohnhpbpaaGreatDoorA47
import Derived.Test.YtnkejaohnhpbpaaGreatDoorA48
import Derived.Test.YtnkejaohnhpbpaaGreatDoorA58
set_option linter.all false
section
namespace Go.Proofs.YtnkejaohnhpbpaaGreatDoor
open Go Go.RowKit Lift
def Dp(N:Nat)(w:World)(v:Value)(xs:List Int):Prop:=∃base off cap,v=.slice base xs.length cap∧∀i,i<xs.length→∃B,base=some ⟨B,off,none⟩∧B<N∧w.cell? ⟨B,off+i,none⟩=some (.int .i64 (xs.getD i 0))
section
variable {N M:Nat} {w w':World} {v:Value} {xs:List Int}
theorem eG.n(h:eG w v xs):Dp w.heap.size w v xs:=h
theorem Dp.at(h:Dp N w v xs)(hN:N≤w.heap.size):eG w v xs:=by
 obtain⟨b,o,c,e,h⟩:=h;exact⟨b,o,c,e,λi hi=>let ⟨B,h1,h2,h3⟩:=h i hi;⟨B,h1,aH h2 hN,h3⟩⟩
theorem Dp.grow(h:Dp N w v xs)(hg:Grow M w w')(hN:N≤M):Dp N w' v xs:=by
 obtain⟨b,o,c,e,h⟩:=h;refine⟨b,o,c,e,λi hi=>let ⟨B,h1,h2,h3⟩:=h i hi;⟨B,h1,h2,?_⟩⟩;unfold World.cell? at h3 ⊢;rw[hg.block B (aH h2 hN)];exact h3
theorem Dp.same(h:Dp N w v xs)(hs:iI w w'):Dp N w' v xs:=by
 obtain⟨b,o,c,e,h⟩:=h;refine⟨b,o,c,e,λi hi=>let ⟨B,h1,h2,h3⟩:=h i hi;⟨B,h1,h2,?_⟩⟩;unfold World.cell? at h3 ⊢;rw[hs.heap];exact h3
end
end Go.Proofs.YtnkejaohnhpbpaaGreatDoor
end
section
namespace Go.Proofs.YtnkejaohnhpbpaaGreatDoor
open Go Go.RowKit Lift
end Go.Proofs.YtnkejaohnhpbpaaGreatDoor
end
section
namespace Go.Proofs.YtnkejaohnhpbpaaGreatDoor
open Go Go.RowKit Lift
def failing(b:Book)(d:Int)(i:Nat)(s:St):Prop:=((b.aO i).day=d∧(b.aO i).kind=2)∧¬St.IC b i s
instance (b:Book) (d:Int) (i:Nat) (s:St):Decidable (failing b d i s):=by unfold failing;exact inferInstance
def St.pre(b:Book)(d:Int)(s:St):St:=((s.gB b d).ins b d).keep b d
def failed(b:Book)(d:Int)(u:St)(k:Nat):List Nat:=(List.range k).filter λi=>decide (failing b d i (iter (St.jr b d) i u))
def Book.fresh(b:Book)(d:Int):List Nat:=if d∈b.bH then failed b d ((b.after (d-1)).pre b d) b.ps.length else[]
structure VoidsTo (b:Book) (m:Nat):Prop where
 of:∀x∈(b.after ((m:Int)-1)).voids,∃i:Nat,x=i∧i∈b.fresh (b.aO i).day∧(b.aO i).day<m
 to:∀i:Nat,i∈b.fresh (b.aO i).day→0≤(b.aO i).day→(b.aO i).day<m→(i:Int)∈(b.after ((m:Int)-1)).voids
 nd:(b.after ((m:Int)-1)).voids.Nodup
structure yL (b:Book) (V:List Int):Prop where
 iff:∀i:Nat,i<b.ps.length→((i:Int)∈V↔i∈b.fresh (b.aO i).day)
 of:∀x∈V,∃i:Nat,x=i∧i<b.ps.length∧(b.aO i).kind=2
 nd:V.Nodup
theorem Jv:∀(n:Nat) (V:List Int),V.Nodup→(∀x∈V,0≤x∧x<n)→V.length≤n
 |0,V,_,h=>by
  cases V with
  |nil=>exact ay _
  |cons x V=>have:=h x (by simp);omega
 |n+1,V,hn,h=>by
  have ih:=Jv n (V.erase (n:Int)) (hn.erase _) λx hx=>by
   have hm:=(List.Nodup.mem_erase_iff hn).1 hx;have:=h x hm.2;have:=hm.1;omega
  have:=List.length_erase (a:=(n:Int)) (l:=V);split at this<;>omega
theorem yL.len{b:Book}{V:List Int}(h:yL b V):V.length≤b.ps.length:=
 Jv _ V h.nd λx hx=>by
  obtain⟨i,rfl,h1,-⟩:=h.of x hx;omega
def Book.without(b:Book)(V:List Int)(j:Nat):List Pay:=((List.range j).filter λi:Nat=>decide ((i:Int)∉V)).map b.aO
section
variable {b:Book} {V:List Int} (hv:Valid b) (hV:yL b V)
include hv hV
end
def aN.without(b:aN)(V:List Int)(j:Nat):List dX:=((List.range j).filter λi:Nat=>decide ((i:Int)∉V)).map b.aO
end Go.Proofs.YtnkejaohnhpbpaaGreatDoor
end
