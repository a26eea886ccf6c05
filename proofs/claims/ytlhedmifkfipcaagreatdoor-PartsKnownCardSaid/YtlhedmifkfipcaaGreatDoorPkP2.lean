/- A piece of a run. -/
import Derived.Test.YtlhedmifkfipcaaGreatDoorPkSt
import Derived.KernelRfl
namespace Go.Proofs.YtlhedmifkfipcaaGreatDoor
open Go Go.Abs
noncomputable section
set_option maxRecDepth 1000000 in
theorem pkR2 : cut Tryz.prog (pkEv.with pkKn4) [1, 3, 4, 22, 23, 24, 25, 26, 695, 704, 705, 706] (run Tryz.prog (pkEv.with pkKn4) 12000 pkS1) = .next pkS2 := by kernel_rfl
end
end Go.Proofs.YtlhedmifkfipcaaGreatDoor
