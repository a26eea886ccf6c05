/- A piece of a run. -/
import Derived.Test.YtgiioiohgnfmgaaGreatDoorAcSt
import Derived.KernelRfl
namespace Go.Proofs.YtgiioiohgnfmgaaGreatDoor
open Go Go.Abs
noncomputable section
set_option maxRecDepth 1000000 in
theorem acR2 : resV (run Tryz.prog (acEv.with acKn5) 1286 acS1) = some (.bool true) := by kernel_rfl
end
end Go.Proofs.YtgiioiohgnfmgaaGreatDoor
