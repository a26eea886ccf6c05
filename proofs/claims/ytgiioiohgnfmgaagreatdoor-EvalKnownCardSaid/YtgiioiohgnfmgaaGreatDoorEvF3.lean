/- Runs of the abstract machine: values of calls. -/
import Derived.Test.YtgiioiohgnfmgaaGreatDoorEvKn
import Derived.KernelRfl
namespace Go.Proofs.YtgiioiohgnfmgaaGreatDoor
open Go Go.Abs
noncomputable section
set_option maxRecDepth 1000000 in
theorem evF53 : callV Tryz.prog (evEv.with evKn1) 3140 222 [.str 5 237082326326] evH 2 = some (.bool true) := by kernel_rfl
set_option maxRecDepth 1000000 in
theorem evF54 : callV Tryz.prog (evEv.with evKn2) 170 92 [.agg [.int 0 (.ofNat 3), .str 5 237082326326]] evH 2 = some (.bool true) := by kernel_rfl
set_option maxRecDepth 1000000 in
theorem evF55 : callV Tryz.prog (evEv.with evKn1) 8254 373 [.str 1 49, .str 5 237082326326] evH 2 = some (.tup [.str 6 59593563911725, .int 0 (.ofNat 0)]) := by kernel_rfl
set_option maxRecDepth 1000000 in
theorem evF56 : callV Tryz.prog (evEv.with evKn1) 8252 373 [.str 5 237082326326, .str 1 49] evH 2 = some (.tup [.str 5 232787359030, .int 0 (.ofNat 0)]) := by kernel_rfl
end
end Go.Proofs.YtgiioiohgnfmgaaGreatDoor
