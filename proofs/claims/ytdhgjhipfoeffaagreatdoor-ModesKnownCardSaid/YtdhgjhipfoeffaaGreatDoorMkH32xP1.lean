/- A piece of a run. -/
import Derived.Test.YtdhgjhipfoeffaaGreatDoorMkH32xSt
import Derived.KernelRfl
namespace Go.Proofs.YtdhgjhipfoeffaaGreatDoor
open Go Go.Abs
noncomputable section
set_option maxRecDepth 1000000 in
theorem mkH32xR1 : resV (run Tryz.prog (mkEv.with mkKn3) 7991 mkH32xS0) = some (.bool true) := by kernel_rfl
end
end Go.Proofs.YtdhgjhipfoeffaaGreatDoor
