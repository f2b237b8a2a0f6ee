/- FeePlanned in plain words: moves of what the planned cases lack. -/
import Derived.Test.YtnkejaohnhpbpaaGreatDoorA20
import Derived.Test.YtnkejaohnhpbpaaGreatDoorA48
import Derived.Test.YtnkejaohnhpbpaaGreatDoorA58
import Derived.Test.YtnkejaohnhpbpaaGreatDoorA59
set_option linter.all false
section
namespace Go.Proofs.YtnkejaohnhpbpaaGreatDoor
open Go Go.RowKit Lift
def Book.lack(b:Book)(n:Int)(c:Nat):Int:=(b.fee c n).1 - ((b.after n).cases c).held
def sumL(b:Book)(n:Int)(k:Nat):List Int→Int
 | []=>0
 |x::l=>(if b.aS x.toNat=k then b.lack n x.toNat else 0)+sumL b n k l
def sum2:List (Int×Int)→Int
 | []=>0
 |p::l=>p.2+sum2 l
structure PlanIs (b:Book) (n m:Nat) (cs:List Int):Prop where
 of:∀x∈cs,∃c:Nat,x=c∧c<b.cs.length∧((b.after n).cases c).state=0∧b.aS c<m
 nd:cs.Nodup
 fit:∀k,k<m→sumL b n k cs≤(b.after n).acc k
def mvOf(b:Book)(n:Int)(x:Int):Pay:=⟨2,n,b.aS x.toNat,b.lack n x.toNat,x.toNat⟩
structure MvAt (b:Book) (n:Nat) (l:List Int) (t:St):Prop where
 cs:∀c,c<b.cs.length→t.cases c=if(c:Int)∈l then⟨1,0,n,(b.fee c n).1⟩else(b.after n).cases c
 acc:∀k,t.acc k=(b.after n).acc k-sumL b n k l
def vcount(b:Book)(d:Int):List Pay→St→Nat
 | [],_=>0
 |p::L,s=>(if(p.day=d∧p.kind=2)∧¬okP p s then 1 else 0)+vcount b d L (mvsP b d s p)
end Go.Proofs.YtnkejaohnhpbpaaGreatDoor
end
section
namespace Go.Proofs.YtnkejaohnhpbpaaGreatDoor
open Go Go.RowKit Lift
def WG0(w0:World):Wm:=λ_ _ w=>Below w0.heap.size w0 w
theorem WG0.step{w0 w w':World}{D D':Nat→Bool}{x x':Tmp→Value}(h:WG0 w0 D x w)(hb:Below w.heap.size w w'):WG0 w0 D' x' w':=h.trans (hb.mono h.size)
end Go.Proofs.YtnkejaohnhpbpaaGreatDoor
end
