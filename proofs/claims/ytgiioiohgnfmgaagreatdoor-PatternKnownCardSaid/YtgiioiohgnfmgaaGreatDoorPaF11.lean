/- Runs of the abstract machine: values of calls. -/
import Derived.Test.YtgiioiohgnfmgaaGreatDoorPaKn
import Derived.KernelRfl
namespace Go.Proofs.YtgiioiohgnfmgaaGreatDoor
open Go Go.Abs
noncomputable section
set_option maxRecDepth 1000000 in
theorem paF107 : callV Tryz.prog (paEv.with paKn1) 8014 32 [.str 13 7703152561981488125539918243172] paH 24 = some (.tup [.agg [.int 0 (.ofNat 17), .str 0 0, .str 0 0, .int 0 (.ofNat 0), .int 0 (.ofNat 0), .str 0 0, .int 0 (.ofNat 1), .int 0 (.ofNat 1), .str 1 97, .int 0 (.ofNat 0), .int 0 (.ofNat 0), .int 0 (.ofNat 0), .str 0 0, .str 0 0, .slcN, .slcN], .int 0 (.ofNat 0), .int 0 (.ofNat 0)]) := by kernel_rfl
set_option maxRecDepth 1000000 in
theorem paF108 : callV Tryz.prog paEv 314 84 [.str 9 1811976697842129645409] paH 24 = some (.bool true) := by kernel_rfl
set_option maxRecDepth 1000000 in
theorem paF109 : callV Tryz.prog paEv 220 47 [.str 1 115] paH 24 = some (.bool true) := by kernel_rfl
set_option maxRecDepth 1000000 in
theorem paF110 : callV Tryz.prog paEv 278 47 [.str 2 27745] paH 24 = some (.bool true) := by kernel_rfl
set_option maxRecDepth 1000000 in
theorem paF111 : callV Tryz.prog paEv 278 47 [.str 2 26209] paH 24 = some (.bool true) := by kernel_rfl
set_option maxRecDepth 1000000 in
theorem paF112 : callV Tryz.prog (paEv.with paKn1) 12110 14 [.str 9 1811976697842129645409] paH 24 = some (.tup [.slcN, .int 0 (.ofNat 150)]) := by kernel_rfl
set_option maxRecDepth 1000000 in
theorem paF113 : callV Tryz.prog paEv 426 84 [.str 13 7774404151492985201902756634721] paH 24 = some (.bool true) := by kernel_rfl
set_option maxRecDepth 1000000 in
theorem paF114 : callV Tryz.prog paEv 220 47 [.str 1 105] paH 24 = some (.bool true) := by kernel_rfl
set_option maxRecDepth 1000000 in
theorem paF115 : callV Tryz.prog paEv 278 47 [.str 2 29281] paH 24 = some (.bool true) := by kernel_rfl
set_option maxRecDepth 1000000 in
theorem paF116 : callV Tryz.prog (paEv.with paKn1) 10958 14 [.str 13 7774404151492985201902756634721] paH 24 = some (.tup [.slcN, .int 0 (.ofNat 150)]) := by kernel_rfl
end
end Go.Proofs.YtgiioiohgnfmgaaGreatDoor
