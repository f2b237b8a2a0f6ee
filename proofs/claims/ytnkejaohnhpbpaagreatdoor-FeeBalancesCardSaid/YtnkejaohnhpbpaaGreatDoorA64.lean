/- FeeTakes: lists of numbers that are made and added to; what they come to, in plain words. -/
import Derived.Test.YtnkejaohnhpbpaaGreatDoorA43
import Derived.Test.YtnkejaohnhpbpaaGreatDoorA59
set_option linter.all false
namespace Go.Proofs.YtnkejaohnhpbpaaGreatDoor
open Go Go.RowKit Lift
def nums(f:Nat→Int)(n:Nat):Array Value:=((List.range n).map λk=>Value.int .i64 (f k)).toArray
theorem OM(b:aN):b.to.cs.length=b.cs.length:=by simp[aN.to]
def NP(b:Book)(n:Int)(j:Nat):Nat→Int:=λk=>jV b k (cO (b.after n)) j
def OO(b:Book)(n:Int)(j:Nat):Nat→Int:=λk=>jV b k (iw (b.after n)) j
structure TakesAre (b:Book) (n:Nat):Prop where
 held:∀k,k<b.coins.length→b.cO (b.after n) k=NP b n b.cs.length k
 took:∀k,k<b.coins.length→(b.after n).tkn k=OO b n b.cs.length k
 hb:∀j k,j≤b.cs.length→k<b.coins.length→0≤NP b n j k∧NP b n j k≤10000000000
 tb:∀j k,j≤b.cs.length→k<b.coins.length→0≤OO b n j k∧OO b n j k≤10000000000
end Go.Proofs.YtnkejaohnhpbpaaGreatDoor
