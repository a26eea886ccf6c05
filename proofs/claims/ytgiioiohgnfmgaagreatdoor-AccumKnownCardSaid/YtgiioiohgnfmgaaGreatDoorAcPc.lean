/- The pieces of a run, put together. -/
import Derived.Test.YtgiioiohgnfmgaaGreatDoorAcP0
import Derived.Test.YtgiioiohgnfmgaaGreatDoorAcP1
import Derived.Test.YtgiioiohgnfmgaaGreatDoorAcP2
namespace Go.Proofs.YtgiioiohgnfmgaaGreatDoor
open Go Go.Abs
noncomputable section
theorem acC2 : Pieces Tryz.prog (acEv.with acKn5) acS1 (.bool true) := .last _ acR2
theorem acC1 : Pieces Tryz.prog (acEv.with acKn5) acS0 (.bool true) := .more _ _ acR1 acC2
end
end Go.Proofs.YtgiioiohgnfmgaaGreatDoor
