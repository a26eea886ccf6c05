/- The pieces of a run, put together. -/
import Derived.Test.YtjadcoglgnabpaaGreatDoorWkP0
import Derived.Test.YtjadcoglgnabpaaGreatDoorWkP1
import Derived.Test.YtjadcoglgnabpaaGreatDoorWkP2
namespace Go.Proofs.YtjadcoglgnabpaaGreatDoor
open Go Go.Abs
noncomputable section
theorem wkC2 : Pieces Tryz.prog (wkEv.with wkKn3) wkS1 (.bool true) := .last _ wkR2
theorem wkC1 : Pieces Tryz.prog (wkEv.with wkKn3) wkS0 (.bool true) := .more _ _ wkR1 wkC2
end
end Go.Proofs.YtjadcoglgnabpaaGreatDoor
