/- A piece of a run. -/
import Derived.Test.YtlhedmifkfipcaaGreatDoorPkSt
import Derived.KernelRfl
namespace Go.Proofs.YtlhedmifkfipcaaGreatDoor
open Go Go.Abs
noncomputable section
set_option maxRecDepth 1000000 in
theorem pkR5 : resV (run Tryz.prog (pkEv.with pkKn4) 10089 pkS4) = some (.bool true) := by kernel_rfl
end
end Go.Proofs.YtlhedmifkfipcaaGreatDoor
