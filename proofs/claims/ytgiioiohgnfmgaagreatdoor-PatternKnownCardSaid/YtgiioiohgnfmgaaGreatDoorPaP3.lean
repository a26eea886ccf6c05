/- A piece of a run. -/
import Derived.Test.YtgiioiohgnfmgaaGreatDoorPaSt
import Derived.KernelRfl
namespace Go.Proofs.YtgiioiohgnfmgaaGreatDoor
open Go Go.Abs
noncomputable section
set_option maxRecDepth 1000000 in
theorem paR3 : resV (run Tryz.prog (paEv.with paKn5) 5625 paS2) = some (.bool true) := by kernel_rfl
end
end Go.Proofs.YtgiioiohgnfmgaaGreatDoor
