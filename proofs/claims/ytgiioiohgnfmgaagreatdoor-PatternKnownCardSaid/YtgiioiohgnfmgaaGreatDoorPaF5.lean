/- Runs of the abstract machine: values of calls. -/
import Derived.Test.YtgiioiohgnfmgaaGreatDoorPaKn
import Derived.KernelRfl
namespace Go.Proofs.YtgiioiohgnfmgaaGreatDoor
open Go Go.Abs
noncomputable section
set_option maxRecDepth 1000000 in
theorem paF64 : callV Tryz.prog (paEv.with paKn1) 23038 15 [.str 9 759231594258043449185] paH 24 = some (.str 1 52) := by kernel_rfl
set_option maxRecDepth 1000000 in
theorem paF65 : callV Tryz.prog (paEv.with paKn1) 8846 32 [.str 2 10816] paH 24 = some (.tup [.agg [.int 0 (.ofNat 17), .str 0 0, .str 0 0, .int 0 (.ofNat 0), .int 0 (.ofNat 0), .str 0 0, .int 0 (.ofNat 4), .int 0 (.ofNat 0), .str 0 0, .int 0 (.ofNat 0), .int 0 (.ofNat 0), .int 0 (.ofNat 0), .str 0 0, .str 0 0, .slcN, .slcN], .int 0 (.ofNat 0), .int 0 (.ofNat 0)]) := by kernel_rfl
set_option maxRecDepth 1000000 in
theorem paF66 : callV Tryz.prog paEv 336 23 [.agg [.int 0 (.ofNat 17), .str 0 0, .str 0 0, .int 0 (.ofNat 0), .int 0 (.ofNat 0), .str 0 0, .int 0 (.ofNat 4), .int 0 (.ofNat 0), .str 0 0, .int 0 (.ofNat 0), .int 0 (.ofNat 0), .int 0 (.ofNat 0), .str 0 0, .str 0 0, .slcN, .slcN]] paH 24 = some (.int 0 (.ofNat 0)) := by kernel_rfl
set_option maxRecDepth 1000000 in
theorem paF67 : callV Tryz.prog (paEv.with paKn2) 1446 15 [.str 2 10816] paH 24 = some (.str 1 50) := by kernel_rfl
set_option maxRecDepth 1000000 in
theorem paF68 : callV Tryz.prog paEv 482 84 [.str 15 213703500711699987202889552895373156] paH 24 = some (.bool true) := by kernel_rfl
set_option maxRecDepth 1000000 in
theorem paF69 : callV Tryz.prog paEv 220 47 [.str 1 100] paH 24 = some (.bool true) := by kernel_rfl
set_option maxRecDepth 1000000 in
theorem paF70 : callV Tryz.prog paEv 278 47 [.str 2 25441] paH 24 = some (.bool true) := by kernel_rfl
set_option maxRecDepth 1000000 in
theorem paF71 : callV Tryz.prog paEv 278 47 [.str 2 30049] paH 24 = some (.bool true) := by kernel_rfl
set_option maxRecDepth 1000000 in
theorem paF72 : callV Tryz.prog paEv 278 47 [.str 2 28001] paH 24 = some (.bool true) := by kernel_rfl
set_option maxRecDepth 1000000 in
theorem paF73 : callV Tryz.prog paEv 278 47 [.str 2 28257] paH 24 = some (.bool true) := by kernel_rfl
set_option maxRecDepth 1000000 in
theorem paF74 : callV Tryz.prog paEv 278 47 [.str 2 11617] paH 24 = some (.bool true) := by kernel_rfl
set_option maxRecDepth 1000000 in
theorem paF75 : callV Tryz.prog paEv 142 136 [.str 13 8033127625987616181313345908580] paH 24 = some (.bool true) := by kernel_rfl
end
end Go.Proofs.YtgiioiohgnfmgaaGreatDoor
