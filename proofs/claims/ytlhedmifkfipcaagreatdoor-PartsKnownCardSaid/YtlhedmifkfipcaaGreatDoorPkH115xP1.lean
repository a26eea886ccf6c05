/- A piece of a run. -/
import Derived.Test.YtlhedmifkfipcaaGreatDoorPkH115xSt
import Derived.KernelRfl
namespace Go.Proofs.YtlhedmifkfipcaaGreatDoor
open Go Go.Abs
noncomputable section
set_option maxRecDepth 1000000 in
theorem pkH115xR1 : resV (run Tryz.prog (pkEv.with pkKn3) 8696 pkH115xS0) = some (.bool true) := by kernel_rfl
end
end Go.Proofs.YtlhedmifkfipcaaGreatDoor
