/- A file of dates that comes in as an argument, opened: its rows as they lie in memory. -/
import Derived.Test.YtccjdkghgbbliaaGreatDoorA37
import Derived.Test.YtccjdkghgbbliaaGreatDoorA39
set_option linter.all false
namespace Go.Proofs.YtccjdkghgbbliaaGreatDoor
section
set_option maxHeartbeats 1000000
set_option maxRecDepth 10000
set_option maxHeartbeats 16000000
set_option maxRecDepth 100000
open Go Go.RowKit Go.ChangeShapes Go.WideShapes Go.Deep Go.Joins
section
variable {H:Type} {enc:TypeId×Value→H} {W:World} {spare:Nat→Bool}
end
end
