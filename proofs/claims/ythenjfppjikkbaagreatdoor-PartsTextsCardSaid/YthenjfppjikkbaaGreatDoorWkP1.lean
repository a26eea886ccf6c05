/- A piece of a run. -/
import Derived.Test.YthenjfppjikkbaaGreatDoorWkSt
import Derived.KernelRfl
namespace Go.Proofs.YthenjfppjikkbaaGreatDoor
open Go Go.Abs
noncomputable section
set_option maxRecDepth 1000000 in
theorem wkR1 : resV (run Tryz.prog (wkEv.with wkKn3) 8696 wkS0) = some (.bool true) := by kernel_rfl
end
end Go.Proofs.YthenjfppjikkbaaGreatDoor
