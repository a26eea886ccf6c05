/- A piece of a run. -/
import Derived.Test.YtjadcoglgnabpaaGreatDoorWkSt
import Derived.KernelRfl
namespace Go.Proofs.YtjadcoglgnabpaaGreatDoor
open Go Go.Abs
noncomputable section
set_option maxRecDepth 1000000 in
theorem wkR2 : resV (run Tryz.prog (wkEv.with wkKn3) 4025 wkS1) = some (.bool true) := by kernel_rfl
end
end Go.Proofs.YtjadcoglgnabpaaGreatDoor
