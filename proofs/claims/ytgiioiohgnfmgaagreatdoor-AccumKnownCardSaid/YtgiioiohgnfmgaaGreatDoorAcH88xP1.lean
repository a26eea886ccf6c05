/- A piece of a run. -/
import Derived.Test.YtgiioiohgnfmgaaGreatDoorAcH88xSt
import Derived.KernelRfl
namespace Go.Proofs.YtgiioiohgnfmgaaGreatDoor
open Go Go.Abs
noncomputable section
set_option maxRecDepth 1000000 in
theorem acH88xR1 : resV (run Tryz.prog (acEv.with acKn4) 15659 acH88xS0) = some (.bool true) := by kernel_rfl
end
end Go.Proofs.YtgiioiohgnfmgaaGreatDoor
