/- A piece of a run. -/
import Derived.Test.YtdhgjhipfoeffaaGreatDoorMkSt
import Derived.KernelRfl
namespace Go.Proofs.YtdhgjhipfoeffaaGreatDoor
open Go Go.Abs
noncomputable section
set_option maxRecDepth 1000000 in
theorem mkR0 : cut [4, 5, 6, 7] (callA Tryz.prog (mkEv.with mkKn4) 20053 5 [] .leaf 0) = .next mkS0 := by kernel_rfl
end
end Go.Proofs.YtdhgjhipfoeffaaGreatDoor
