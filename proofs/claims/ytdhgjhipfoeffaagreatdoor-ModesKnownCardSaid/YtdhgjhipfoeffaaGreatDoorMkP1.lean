/- A piece of a run. -/
import Derived.Test.YtdhgjhipfoeffaaGreatDoorMkSt
import Derived.KernelRfl
namespace Go.Proofs.YtdhgjhipfoeffaaGreatDoor
open Go Go.Abs
noncomputable section
set_option maxRecDepth 1000000 in
theorem mkR1 : cut [4, 5, 6, 7] (run Tryz.prog (mkEv.with mkKn4) 20092 mkS0) = .next mkS1 := by kernel_rfl
end
end Go.Proofs.YtdhgjhipfoeffaaGreatDoor
