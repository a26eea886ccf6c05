/- The pieces of a run, put together. -/
import Derived.Test.YthenjfppjikkbaaGreatDoorWkP0
import Derived.Test.YthenjfppjikkbaaGreatDoorWkP1
namespace Go.Proofs.YthenjfppjikkbaaGreatDoor
open Go Go.Abs
noncomputable section
theorem wkC1 : Pieces Tryz.prog (wkEv.with wkKn3) wkS0 (.bool true) := .last _ wkR1
end
end Go.Proofs.YthenjfppjikkbaaGreatDoor
