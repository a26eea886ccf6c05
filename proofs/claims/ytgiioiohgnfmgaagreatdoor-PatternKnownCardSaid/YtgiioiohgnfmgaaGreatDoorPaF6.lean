/- Runs of the abstract machine: values of calls. -/
import Derived.Test.YtgiioiohgnfmgaaGreatDoorPaKn
import Derived.KernelRfl
namespace Go.Proofs.YtgiioiohgnfmgaaGreatDoor
open Go Go.Abs
noncomputable section
set_option maxRecDepth 1000000 in
theorem paF76 : callV Tryz.prog (paEv.with paKn1) 9614 32 [.str 15 213703500711699987202889552895373156] paH 24 = some (.tup [.agg [.int 0 (.ofNat 17), .str 0 0, .str 0 0, .int 0 (.ofNat 0), .int 0 (.ofNat 0), .str 0 0, .int 0 (.ofNat 0), .int 0 (.ofNat 6), .str 0 0, .int 0 (.ofNat 0), .int 0 (.ofNat 0), .int 0 (.ofNat 0), .str 0 0, .str 0 0, .slcN, .slcN], .int 0 (.ofNat 0), .int 0 (.ofNat 0)]) := by kernel_rfl
set_option maxRecDepth 1000000 in
theorem paF77 : callV Tryz.prog paEv 336 23 [.agg [.int 0 (.ofNat 17), .str 0 0, .str 0 0, .int 0 (.ofNat 0), .int 0 (.ofNat 0), .str 0 0, .int 0 (.ofNat 0), .int 0 (.ofNat 6), .str 0 0, .int 0 (.ofNat 0), .int 0 (.ofNat 0), .int 0 (.ofNat 0), .str 0 0, .str 0 0, .slcN, .slcN]] paH 24 = some (.int 0 (.ofNat 0)) := by kernel_rfl
set_option maxRecDepth 1000000 in
theorem paF78 : callV Tryz.prog (paEv.with paKn2) 1536 15 [.str 15 213703500711699987202889552895373156] paH 24 = some (.str 1 48) := by kernel_rfl
set_option maxRecDepth 1000000 in
theorem paF79 : callV Tryz.prog paEv 146 84 [.str 3 2711848] paH 24 = some (.bool true) := by kernel_rfl
set_option maxRecDepth 1000000 in
theorem paF80 : callV Tryz.prog paEv 270 47 [.str 2 10593] paH 24 = some (.bool false) := by kernel_rfl
set_option maxRecDepth 1000000 in
theorem paF81 : callV Tryz.prog (paEv.with paKn1) 13886 32 [.str 3 2711848] paH 24 = some (.tup [.agg [.int 0 (.ofNat 17), .str 0 0, .str 0 0, .int 0 (.ofNat 0), .int 0 (.ofNat 0), .str 0 0, .int 0 (.ofNat 0), .int 0 (.ofNat 1), .str 1 97, .int 0 (.ofNat 0), .int 0 (.ofNat 0), .int 0 (.ofNat 0), .str 0 0, .str 0 0, .slcN, .slcN], .int 0 (.ofNat 0), .int 0 (.ofNat 0)]) := by kernel_rfl
set_option maxRecDepth 1000000 in
theorem paF82 : callV Tryz.prog (paEv.with paKn2) 1486 15 [.str 3 2711848] paH 24 = some (.str 1 49) := by kernel_rfl
set_option maxRecDepth 1000000 in
theorem paF83 : callV Tryz.prog paEv 174 84 [.str 4 774778721] paH 24 = some (.bool true) := by kernel_rfl
set_option maxRecDepth 1000000 in
theorem paF84 : callV Tryz.prog paEv 212 47 [.str 1 46] paH 24 = some (.bool false) := by kernel_rfl
end
end Go.Proofs.YtgiioiohgnfmgaaGreatDoor
