/- A piece of a run. -/
import Derived.Test.YtgiioiohgnfmgaaGreatDoorPaSt
import Derived.KernelRfl
namespace Go.Proofs.YtgiioiohgnfmgaaGreatDoor
open Go Go.Abs
noncomputable section
set_option maxRecDepth 1000000 in
theorem paR2 : cut [0, 2, 22, 23, 24, 1016, 1020, 1028, 1074, 1075, 1076, 1077, 1078, 1079, 1080, 1107, 1108] (run Tryz.prog (paEv.with paKn5) 16409 paS1) = .next paS2 := by kernel_rfl
end
end Go.Proofs.YtgiioiohgnfmgaaGreatDoor
