/- A piece of a run. -/
import Derived.Test.YtlhedmifkfipcaaGreatDoorKkH85xSt
import Derived.KernelRfl
namespace Go.Proofs.YtlhedmifkfipcaaGreatDoor
open Go Go.Abs
noncomputable section
set_option maxRecDepth 1000000 in
theorem kkH85xR3 : resV (run Tryz.prog (kkEv.with kkKn2) 169 kkH85xS2m) = some (.bool true) := by kernel_rfl
end
end Go.Proofs.YtlhedmifkfipcaaGreatDoor
