/- A piece of a run. -/
import Derived.Test.YtgiioiohgnfmgaaGreatDoorPaH59xSt
import Derived.KernelRfl
namespace Go.Proofs.YtgiioiohgnfmgaaGreatDoor
open Go Go.Abs
noncomputable section
set_option maxRecDepth 1000000 in
theorem paH59xR0 : cut [0, 2, 22, 23, 24, 25, 26, 66, 76, 77, 78, 79, 80, 81, 82, 83, 84, 85, 86, 87, 88, 89, 90, 91, 92, 93, 94, 95, 96, 98, 99, 100, 101, 102, 103, 104, 105, 106, 107, 108, 109, 110, 111, 112, 113, 114, 115, 116, 117, 118, 119, 120, 121, 122, 123, 124, 125, 126, 127, 128, 129, 130, 131, 132, 133, 134, 135, 136, 137, 138] (callA Tryz.prog (paEv.with paKn2) 8526 15 [.str 14 1889525185595141078815714046794594] paH 24) = .next paH59xS0 := by kernel_rfl
end
end Go.Proofs.YtgiioiohgnfmgaaGreatDoor
