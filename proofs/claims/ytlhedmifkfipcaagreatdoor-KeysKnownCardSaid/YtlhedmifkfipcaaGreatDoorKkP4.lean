/- A piece of a run. -/
import Derived.Test.YtlhedmifkfipcaaGreatDoorKkSt
import Derived.KernelRfl
namespace Go.Proofs.YtlhedmifkfipcaaGreatDoor
open Go Go.Abs
noncomputable section
set_option maxRecDepth 1000000 in
theorem kkR4 : cut Tryz.prog (kkEv.with kkKn6) [1, 3, 4, 5, 10, 15, 16, 22, 23, 24, 25, 30, 175, 263, 302, 303, 304, 2042, 2107, 2108, 2109, 2112, 2115, 2116, 2144, 2145, 2146, 2150, 2153, 2156, 2161, 2251, 2283, 2284, 2285, 2286, 2287, 2316, 2397, 2398, 2399, 2400, 2401, 2402, 2403, 2426, 2427, 2478] (run Tryz.prog (kkEv.with kkKn6) 12007 kkS3m) = .next kkS4 := by kernel_rfl
end
end Go.Proofs.YtlhedmifkfipcaaGreatDoor
