/- A piece of a run. -/
import Derived.Test.YtjadcoglgnabpaaGreatDoorWkSt
import Derived.KernelRfl
namespace Go.Proofs.YtjadcoglgnabpaaGreatDoor
open Go Go.Abs
noncomputable section
set_option maxRecDepth 1000000 in
theorem wkR1 : cut Tryz.prog (wkEv.with wkKn3) [4, 596, 1188, 1780, 2098, 2100, 2101, 2102, 2107, 2108, 2109, 2112, 2119, 2123, 2127, 2128, 2130, 2131, 2132, 2133, 2134, 2135, 2136, 2137, 2138, 2139, 2219, 2220, 2221, 2222, 2223, 2224, 2225, 2226, 2227, 2228, 2229, 2230, 2231, 2257, 2258] (run Tryz.prog (wkEv.with wkKn3) 12000 wkS0) = .next wkS1 := by kernel_rfl
end
end Go.Proofs.YtjadcoglgnabpaaGreatDoor
