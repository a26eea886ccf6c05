/- A piece of a run. -/
import Derived.Test.YtgiioiohgnfmgaaGreatDoorPaSt
import Derived.KernelRfl
namespace Go.Proofs.YtgiioiohgnfmgaaGreatDoor
open Go Go.Abs
noncomputable section
set_option maxRecDepth 1000000 in
theorem paR1 : cut [0, 2, 22, 23, 24, 349, 481, 499, 523, 565, 609, 629, 630, 631, 632, 633] (run Tryz.prog (paEv.with paKn5) 16000 paS0) = .next paS1 := by kernel_rfl
end
end Go.Proofs.YtgiioiohgnfmgaaGreatDoor
