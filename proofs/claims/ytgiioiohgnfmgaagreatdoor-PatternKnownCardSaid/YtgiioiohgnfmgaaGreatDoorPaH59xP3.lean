/- A piece of a run. -/
import Derived.Test.YtgiioiohgnfmgaaGreatDoorPaH59xSt
import Derived.KernelRfl
namespace Go.Proofs.YtgiioiohgnfmgaaGreatDoor
open Go Go.Abs
noncomputable section
set_option maxRecDepth 1000000 in
theorem paH59xR3 : resV (run Tryz.prog (paEv.with paKn2) 107 paH59xS2) = some (.str 1 53) := by kernel_rfl
end
end Go.Proofs.YtgiioiohgnfmgaaGreatDoor
