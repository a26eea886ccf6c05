/- A piece of a run. -/
import Derived.Test.YtlhedmifkfipcaaGreatDoorPkSt
import Derived.KernelRfl
namespace Go.Proofs.YtlhedmifkfipcaaGreatDoor
open Go Go.Abs
noncomputable section
set_option maxRecDepth 1000000 in
theorem pkR1 : cut Tryz.prog (pkEv.with pkKn4) [1, 3, 4, 22, 23, 24, 25, 26, 256, 274, 275, 276, 277, 278, 279, 280, 317, 326, 327, 328, 329, 330, 331, 332, 333, 334, 335, 336, 337, 338, 339, 340, 341, 342, 343, 344, 345, 346, 347, 425, 427] (run Tryz.prog (pkEv.with pkKn4) 12004 pkS0) = .next pkS1 := by kernel_rfl
end
end Go.Proofs.YtlhedmifkfipcaaGreatDoor
