/- A piece of a run. -/
import Derived.Test.YtdhgjhipfoeffaaGreatDoorMkSt
import Derived.KernelRfl
namespace Go.Proofs.YtdhgjhipfoeffaaGreatDoor
open Go Go.Abs
noncomputable section
set_option maxRecDepth 1000000 in
theorem mkR2 : resV (run Tryz.prog (mkEv.with mkKn4) 17618 mkS1) = some (.bool true) := by kernel_rfl
end
end Go.Proofs.YtdhgjhipfoeffaaGreatDoor
