/- Runs of the abstract machine: values of calls. -/
import Derived.Test.YtgiioiohgnfmgaaGreatDoorEvKn
import Derived.KernelRfl
namespace Go.Proofs.YtgiioiohgnfmgaaGreatDoor
open Go Go.Abs
noncomputable section
set_option maxRecDepth 1000000 in
theorem evF43 : callV Tryz.prog (evEv.with evKn1) 7906 341 [.str 1 49, .str 1 49] evH 2 = some (.tup [.str 1 50, .int 0 (.ofNat 0)]) := by kernel_rfl
set_option maxRecDepth 1000000 in
theorem evF44 : callV Tryz.prog (evEv.with evKn1) 7906 341 [.str 1 50, .str 1 49] evH 2 = some (.tup [.str 1 51, .int 0 (.ofNat 0)]) := by kernel_rfl
set_option maxRecDepth 1000000 in
theorem evF45 : callV Tryz.prog evEv 136 381 [.str 6 52980375314796] evH 2 = some (.agg [.str 0 0, .fnN]) := by kernel_rfl
set_option maxRecDepth 1000000 in
theorem evF46 : callV Tryz.prog (evEv.with evKn1) 576 272 [.str 4 1953718636, .int 0 (.ofNat 0)] evH 2 = some (.tup [.agg [.str 0 0, .fnN], .bool false]) := by kernel_rfl
set_option maxRecDepth 1000000 in
theorem evF47 : callV Tryz.prog (evEv.with evKn2) 146 362 [.agg [.int 0 (.ofNat 3), .str 1 51], .agg [.int 0 (.ofNat 3), .str 1 49]] evH 2 = some (.tup [.int 0 (.ofNat 1), .bool false, .int 0 (.ofNat 0)]) := by kernel_rfl
set_option maxRecDepth 1000000 in
theorem evF48 : callV Tryz.prog (evEv.with evKn1) 7988 373 [.str 1 51, .str 1 50] evH 2 = some (.tup [.str 1 49, .int 0 (.ofNat 0)]) := by kernel_rfl
set_option maxRecDepth 1000000 in
theorem evF49 : callV Tryz.prog (evEv.with evKn2) 146 362 [.agg [.int 0 (.ofNat 3), .str 1 51], .agg [.int 0 (.ofNat 3), .str 1 50]] evH 2 = some (.tup [.int 0 (.ofNat 1), .bool false, .int 0 (.ofNat 0)]) := by kernel_rfl
set_option maxRecDepth 1000000 in
theorem evF50 : callV Tryz.prog (evEv.with evKn1) 7806 373 [.str 1 51, .str 1 51] evH 2 = some (.tup [.str 1 48, .int 0 (.ofNat 0)]) := by kernel_rfl
set_option maxRecDepth 1000000 in
theorem evF51 : callV Tryz.prog (evEv.with evKn3) 178 254 [.str 2 29029, .agg [.int 0 (.ofNat 3), .str 1 51], .agg [.int 0 (.ofNat 3), .str 1 51]] evH 2 = some (.tup [.bool true, .int 0 (.ofNat 0)]) := by kernel_rfl
set_option maxRecDepth 1000000 in
theorem evF52 : callV Tryz.prog (evEv.with evKn1) 3082 221 [.str 5 237082326326] evH 2 = some (.tup [.str 5 237082326326, .int 0 (.ofNat 0)]) := by kernel_rfl
end
end Go.Proofs.YtgiioiohgnfmgaaGreatDoor
