/- A piece of a run. -/
import Derived.Test.YtdhgjhipfoeffaaGreatDoorMkH32xSt
import Derived.KernelRfl
namespace Go.Proofs.YtdhgjhipfoeffaaGreatDoor
open Go Go.Abs
noncomputable section
set_option maxRecDepth 1000000 in
theorem mkH32xR0 : cut [4, 596, 1188, 1189, 1190, 1191, 1196, 1197, 1198, 1201, 1208, 1212, 1216, 1217, 1219] (callA Tryz.prog (mkEv.with mkKn3) 20034 6 [] .leaf 0) = .next mkH32xS0 := by kernel_rfl
end
end Go.Proofs.YtdhgjhipfoeffaaGreatDoor
