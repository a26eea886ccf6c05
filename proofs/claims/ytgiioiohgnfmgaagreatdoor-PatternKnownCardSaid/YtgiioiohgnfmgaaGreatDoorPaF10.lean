/- Runs of the abstract machine: values of calls. -/
import Derived.Test.YtgiioiohgnfmgaaGreatDoorPaKn
import Derived.KernelRfl
namespace Go.Proofs.YtgiioiohgnfmgaaGreatDoor
open Go Go.Abs
noncomputable section
set_option maxRecDepth 1000000 in
theorem paF100 : callV Tryz.prog (paEv.with paKn2) 27018 14 [.str 8 6715248752684707681] paH 24 = some (.tup [.slcN, .int 0 (.ofNat 150)]) := by kernel_rfl
set_option maxRecDepth 1000000 in
theorem paF101 : callV Tryz.prog (paEv.with paKn1) 7374 32 [.str 1 46] paH 24 = some (.tup [.agg [.int 0 (.ofNat 2), .str 0 0, .str 0 0, .int 0 (.ofNat 0), .int 0 (.ofNat 0), .str 0 0, .int 0 (.ofNat 0), .int 0 (.ofNat 0), .str 0 0, .int 0 (.ofNat 0), .int 0 (.ofNat 0), .int 0 (.ofNat 0), .str 0 0, .str 0 0, .slcN, .slcN], .int 0 (.ofNat 0), .int 0 (.ofNat 0)]) := by kernel_rfl
set_option maxRecDepth 1000000 in
theorem paF102 : callV Tryz.prog paEv 426 84 [.str 13 7703152561981488125539918243172] paH 24 = some (.bool true) := by kernel_rfl
set_option maxRecDepth 1000000 in
theorem paF103 : callV Tryz.prog paEv 278 47 [.str 2 29537] paH 24 = some (.bool true) := by kernel_rfl
set_option maxRecDepth 1000000 in
theorem paF104 : callV Tryz.prog paEv 278 47 [.str 2 24929] paH 24 = some (.bool true) := by kernel_rfl
set_option maxRecDepth 1000000 in
theorem paF105 : callV Tryz.prog paEv 302 47 [.str 2 14945] paH 24 = some (.bool false) := by kernel_rfl
set_option maxRecDepth 1000000 in
theorem paF106 : callV Tryz.prog paEv 216 47 [.str 1 58] paH 24 = some (.bool false) := by kernel_rfl
end
end Go.Proofs.YtgiioiohgnfmgaaGreatDoor
