/- A piece of a run. -/
import Derived.Test.YthenjfppjikkbaaGreatDoorWkSt
import Derived.KernelRfl
namespace Go.Proofs.YthenjfppjikkbaaGreatDoor
open Go Go.Abs
noncomputable section
set_option maxRecDepth 1000000 in
theorem wkR0 : cut Tryz.prog (wkEv.with wkKn3) [2, 3, 4, 5, 6, 14, 15, 16, 17, 18, 50, 58, 59, 60, 61, 62, 63, 64, 65, 66, 67, 68, 69, 70, 71, 72, 73, 74, 75, 76, 77, 78, 79, 80, 81, 118, 119, 120, 121, 122, 150] (callA Tryz.prog (wkEv.with wkKn3) 12000 4 [] wkH 4) = .next wkS0 := by kernel_rfl
end
end Go.Proofs.YthenjfppjikkbaaGreatDoor
