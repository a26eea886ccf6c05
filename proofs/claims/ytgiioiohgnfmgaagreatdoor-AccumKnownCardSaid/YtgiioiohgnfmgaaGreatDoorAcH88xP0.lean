/- A piece of a run. -/
import Derived.Test.YtgiioiohgnfmgaaGreatDoorAcH88xSt
import Derived.KernelRfl
namespace Go.Proofs.YtgiioiohgnfmgaaGreatDoor
open Go Go.Abs
noncomputable section
set_option maxRecDepth 1000000 in
theorem acH88xR0 : cut [0, 2, 22, 23, 25, 26, 27, 28, 35, 120, 133, 134, 135, 136, 167, 168, 169, 170, 171, 173, 179, 180, 181, 182, 183, 184, 185, 290, 326, 493, 500, 674, 693, 729, 748, 915, 922, 923, 924, 925, 926, 927, 928, 929, 930, 931, 932, 933, 934, 935, 952, 953, 954, 1089] (callA Tryz.prog (acEv.with acKn4) 16639 22 [] acH 24) = .next acH88xS0 := by kernel_rfl
end
end Go.Proofs.YtgiioiohgnfmgaaGreatDoor
