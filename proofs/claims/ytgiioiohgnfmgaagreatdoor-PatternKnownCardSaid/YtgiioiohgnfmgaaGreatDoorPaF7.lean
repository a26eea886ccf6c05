/- Runs of the abstract machine: values of calls. -/
import Derived.Test.YtgiioiohgnfmgaaGreatDoorPaKn
import Derived.KernelRfl
namespace Go.Proofs.YtgiioiohgnfmgaaGreatDoor
open Go Go.Abs
noncomputable section
set_option maxRecDepth 1000000 in
theorem paF85 : callV Tryz.prog (paEv.with paKn1) 9510 14 [.str 4 774778721] paH 24 = some (.tup [.slcN, .int 0 (.ofNat 150)]) := by kernel_rfl
set_option maxRecDepth 1000000 in
theorem paF86 : callV Tryz.prog paEv 212 47 [.str 1 36] paH 24 = some (.bool false) := by kernel_rfl
set_option maxRecDepth 1000000 in
theorem paF87 : callV Tryz.prog (paEv.with paKn1) 8838 32 [.str 2 30756] paH 24 = some (.tup [.agg [.int 0 (.ofNat 1), .str 0 0, .str 1 120, .int 0 (.ofNat 0), .int 0 (.ofNat 0), .str 0 0, .int 0 (.ofNat 0), .int 0 (.ofNat 0), .str 0 0, .int 0 (.ofNat 0), .int 0 (.ofNat 0), .int 0 (.ofNat 0), .str 0 0, .str 0 0, .slcN, .slcN], .int 0 (.ofNat 0), .int 0 (.ofNat 0)]) := by kernel_rfl
set_option maxRecDepth 1000000 in
theorem paF88 : callV Tryz.prog paEv 370 84 [.str 11 50034072126071034185785441] paH 24 = some (.bool true) := by kernel_rfl
set_option maxRecDepth 1000000 in
theorem paF89 : callV Tryz.prog paEv 270 47 [.str 2 8289] paH 24 = some (.bool false) := by kernel_rfl
set_option maxRecDepth 1000000 in
theorem paF90 : callV Tryz.prog paEv 212 47 [.str 1 124] paH 24 = some (.bool false) := by kernel_rfl
set_option maxRecDepth 1000000 in
theorem paF91 : callV Tryz.prog paEv 220 47 [.str 1 99] paH 24 = some (.bool true) := by kernel_rfl
end
end Go.Proofs.YtgiioiohgnfmgaaGreatDoor
