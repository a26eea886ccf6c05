/- A piece of a run. -/
import Derived.Test.YtgiioiohgnfmgaaGreatDoorPaH59xSt
import Derived.KernelRfl
namespace Go.Proofs.YtgiioiohgnfmgaaGreatDoor
open Go Go.Abs
noncomputable section
set_option maxRecDepth 1000000 in
theorem paH59xR2 : cut [0, 2, 22, 23, 155, 173, 197, 205, 206, 207, 1110, 1111, 1149, 1150, 1151, 1152, 1153, 1154, 1155, 1156, 1157, 1160, 1161, 1162, 1163, 1164, 1165, 1723] (run Tryz.prog (paEv.with paKn2) 8855 paH59xS1) = .next paH59xS2 := by kernel_rfl
end
end Go.Proofs.YtgiioiohgnfmgaaGreatDoor
