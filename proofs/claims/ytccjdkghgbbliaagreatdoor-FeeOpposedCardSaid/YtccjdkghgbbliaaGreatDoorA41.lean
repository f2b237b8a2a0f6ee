/- The program's small functions of dates, inside the fence. -/
import Derived.Test.YtccjdkghgbbliaaGreatDoorA39
set_option linter.all false
namespace Go.Proofs.YtccjdkghgbbliaaGreatDoor
section
set_option maxHeartbeats 1000000
set_option maxRecDepth 10000
set_option maxHeartbeats 16000000
set_option maxRecDepth 100000
open Go Go.RowKit Lift
def befX(y:Int):Int:=(y-2000) / 4 * 1461+(y-2000) % 4 * 365+min 1 ((y-2000) % 4)
end
section
set_option maxHeartbeats 1000000
set_option maxRecDepth 10000
set_option maxHeartbeats 16000000
set_option maxRecDepth 100000
open Go Go.RowKit Lift
end
section
set_option maxHeartbeats 1000000
set_option maxRecDepth 10000
set_option maxHeartbeats 16000000
set_option maxRecDepth 100000
open Go Go.RowKit Lift
end
section
set_option maxHeartbeats 1000000
set_option maxRecDepth 10000
set_option maxHeartbeats 32000000
set_option maxRecDepth 100000
open Go Go.RowKit Lift
end
section
set_option maxHeartbeats 1000000
set_option maxRecDepth 10000
set_option maxHeartbeats 32000000
set_option maxRecDepth 100000
open Go Go.RowKit Lift
end
section
set_option maxHeartbeats 1000000
set_option maxRecDepth 10000
set_option maxHeartbeats 32000000
set_option maxRecDepth 100000
open Go Go.RowKit Lift
def lensL:List Int:=[31,28,31,30,31,30,31,31,30,31,30,31]
def LensAt(w:World):Prop:=∀j,j<12→w.cell? ⟨1,j,none⟩=some (.int .i64 (lensL.getD j 0))
end
