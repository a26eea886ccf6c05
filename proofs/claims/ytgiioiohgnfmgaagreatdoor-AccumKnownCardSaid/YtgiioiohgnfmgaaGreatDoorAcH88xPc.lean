/- The pieces of a run, put together. -/
import Derived.Test.YtgiioiohgnfmgaaGreatDoorAcH88xP0
import Derived.Test.YtgiioiohgnfmgaaGreatDoorAcH88xP1
namespace Go.Proofs.YtgiioiohgnfmgaaGreatDoor
open Go Go.Abs
noncomputable section
theorem acH88xC1 : Pieces Tryz.prog (acEv.with acKn4) acH88xS0 (.bool true) := .last _ acH88xR1
end
end Go.Proofs.YtgiioiohgnfmgaaGreatDoor
