/- Runs of the abstract machine: values of calls. -/
import Derived.Test.YtgiioiohgnfmgaaGreatDoorPaKn
import Derived.KernelRfl
namespace Go.Proofs.YtgiioiohgnfmgaaGreatDoor
open Go Go.Abs
noncomputable section
set_option maxRecDepth 1000000 in
theorem paF43 : callV Tryz.prog (paEv.with paKn1) 7806 373 [.str 1 49, .str 1 49] paH 24 = some (.tup [.str 1 48, .int 0 (.ofNat 0)]) := by kernel_rfl
set_option maxRecDepth 1000000 in
theorem paF44 : callV Tryz.prog (paEv.with paKn3) 178 254 [.str 2 29029, .agg [.int 0 (.ofNat 3), .str 1 49], .agg [.int 0 (.ofNat 3), .str 1 49]] paH 24 = some (.tup [.bool true, .int 0 (.ofNat 0)]) := by kernel_rfl
set_option maxRecDepth 1000000 in
theorem paF45 : callV Tryz.prog (paEv.with paKn1) 2882 221 [.str 1 50] paH 24 = some (.tup [.str 1 50, .int 0 (.ofNat 0)]) := by kernel_rfl
set_option maxRecDepth 1000000 in
theorem paF46 : callV Tryz.prog (paEv.with paKn2) 170 92 [.agg [.int 0 (.ofNat 3), .str 1 50]] paH 24 = some (.bool true) := by kernel_rfl
set_option maxRecDepth 1000000 in
theorem paF47 : callV Tryz.prog (paEv.with paKn1) 7990 373 [.str 1 49, .str 1 50] paH 24 = some (.tup [.str 2 12589, .int 0 (.ofNat 0)]) := by kernel_rfl
set_option maxRecDepth 1000000 in
theorem paF48 : callV Tryz.prog (paEv.with paKn2) 142 362 [.agg [.int 0 (.ofNat 3), .str 1 49], .agg [.int 0 (.ofNat 3), .str 1 50]] paH 24 = some (.tup [.int 0 (.negSucc 0), .bool false, .int 0 (.ofNat 0)]) := by kernel_rfl
end
end Go.Proofs.YtgiioiohgnfmgaaGreatDoor
