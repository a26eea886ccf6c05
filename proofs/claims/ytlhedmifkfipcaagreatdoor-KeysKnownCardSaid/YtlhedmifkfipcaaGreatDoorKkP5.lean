/- A piece of a run. -/
import Derived.Test.YtlhedmifkfipcaaGreatDoorKkSt
import Derived.KernelRfl
namespace Go.Proofs.YtlhedmifkfipcaaGreatDoor
open Go Go.Abs
noncomputable section
set_option maxRecDepth 1000000 in
theorem kkR5 : cut Tryz.prog (kkEv.with kkKn6) [1, 3, 4, 5, 10, 15, 16, 22, 23, 24, 25, 30, 175, 263, 302, 303, 304, 2042, 2107, 2108, 2109, 2112, 2115, 2116, 2144, 2145, 2146, 2150, 2153, 2156, 2161, 2251, 2283, 2284, 2285, 3201, 3236, 3243, 3259, 3260, 3261, 3262, 3263, 3270, 3319, 3320, 3321, 3322, 3323, 3324, 3325, 3326, 3327, 3378, 3379, 3380, 3386, 3387, 3388, 3389, 3390, 3398, 3403, 3406, 3407] (run Tryz.prog (kkEv.with kkKn6) 12000 kkS4) = .next kkS5 := by kernel_rfl
end
end Go.Proofs.YtlhedmifkfipcaaGreatDoor
