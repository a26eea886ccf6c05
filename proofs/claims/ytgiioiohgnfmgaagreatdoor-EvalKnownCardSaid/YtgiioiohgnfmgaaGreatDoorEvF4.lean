/- Runs of the abstract machine: values of calls. -/
import Derived.Test.YtgiioiohgnfmgaaGreatDoorEvKn
import Derived.KernelRfl
namespace Go.Proofs.YtgiioiohgnfmgaaGreatDoor
open Go Go.Abs
noncomputable section
set_option maxRecDepth 1000000 in
theorem evF57 : callV Tryz.prog (evEv.with evKn1) 35310 340 [.str 1 50, .str 1 51] evH 2 = some (.tup [.str 1 54, .int 0 (.ofNat 0)]) := by kernel_rfl
set_option maxRecDepth 1000000 in
theorem evF58 : callV Tryz.prog (evEv.with evKn2) 130 622 [.str 1 42, .agg [.int 0 (.ofNat 3), .str 1 50], .agg [.int 0 (.ofNat 3), .str 1 51]] evH 2 = some (.tup [.agg [.int 0 (.ofNat 3), .str 1 54], .int 0 (.ofNat 0)]) := by kernel_rfl
set_option maxRecDepth 1000000 in
theorem evF59 : callV Tryz.prog (evEv.with evKn3) 178 472 [.str 1 42, .agg [.int 0 (.ofNat 3), .str 1 50], .agg [.int 0 (.ofNat 3), .str 1 51]] evH 2 = some (.tup [.agg [.int 0 (.ofNat 3), .str 1 54], .int 0 (.ofNat 0)]) := by kernel_rfl
end
end Go.Proofs.YtgiioiohgnfmgaaGreatDoor
