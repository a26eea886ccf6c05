/- The pieces of a run, put together. -/
import Derived.Test.YtgiioiohgnfmgaaGreatDoorPaP0
import Derived.Test.YtgiioiohgnfmgaaGreatDoorPaP1
import Derived.Test.YtgiioiohgnfmgaaGreatDoorPaP2
import Derived.Test.YtgiioiohgnfmgaaGreatDoorPaP3
namespace Go.Proofs.YtgiioiohgnfmgaaGreatDoor
open Go Go.Abs
noncomputable section
theorem paC3 : Pieces Tryz.prog (paEv.with paKn5) paS2 (.bool true) := .last _ paR3
theorem paC2 : Pieces Tryz.prog (paEv.with paKn5) paS1 (.bool true) := .more _ _ paR2 paC3
theorem paC1 : Pieces Tryz.prog (paEv.with paKn5) paS0 (.bool true) := .more _ _ paR1 paC2
end
end Go.Proofs.YtgiioiohgnfmgaaGreatDoor
