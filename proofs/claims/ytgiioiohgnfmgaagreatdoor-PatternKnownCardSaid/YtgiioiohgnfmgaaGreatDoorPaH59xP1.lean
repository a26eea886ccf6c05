/- A piece of a run. -/
import Derived.Test.YtgiioiohgnfmgaaGreatDoorPaH59xSt
import Derived.KernelRfl
namespace Go.Proofs.YtgiioiohgnfmgaaGreatDoor
open Go Go.Abs
noncomputable section
set_option maxRecDepth 1000000 in
theorem paH59xR1 : cut [0, 2, 22, 23, 155, 173, 197, 205, 206, 207, 358, 359, 397, 398, 399, 400, 401, 402, 403, 404, 405, 408, 409, 410, 411, 412, 413, 1058] (run Tryz.prog (paEv.with paKn2) 16389 paH59xS0) = .next paH59xS1 := by kernel_rfl
end
end Go.Proofs.YtgiioiohgnfmgaaGreatDoor
