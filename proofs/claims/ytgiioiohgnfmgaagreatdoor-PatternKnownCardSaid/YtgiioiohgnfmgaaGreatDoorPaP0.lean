/- A piece of a run. -/
import Derived.Test.YtgiioiohgnfmgaaGreatDoorPaSt
import Derived.KernelRfl
namespace Go.Proofs.YtgiioiohgnfmgaaGreatDoor
open Go Go.Abs
noncomputable section
set_option maxRecDepth 1000000 in
theorem paR0 : cut [0, 2, 22, 23, 24, 207, 295, 317, 349, 350, 351, 352, 353, 354, 355, 356, 375, 376] (callA Tryz.prog (paEv.with paKn5) 16012 4 [] paH 24) = .next paS0 := by kernel_rfl
end
end Go.Proofs.YtgiioiohgnfmgaaGreatDoor
