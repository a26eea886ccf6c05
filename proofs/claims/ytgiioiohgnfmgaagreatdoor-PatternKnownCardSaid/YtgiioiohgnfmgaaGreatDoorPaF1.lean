/- Runs of the abstract machine: values of calls. -/
import Derived.Test.YtgiioiohgnfmgaaGreatDoorPaKn
import Derived.KernelRfl
namespace Go.Proofs.YtgiioiohgnfmgaaGreatDoor
open Go Go.Abs
noncomputable section
set_option maxRecDepth 1000000 in
theorem paF25 : callV Tryz.prog (paEv.with paKn1) 9250 32 [.str 6 45253476511598] paH 24 = some (.tup [.agg [.int 0 (.ofNat 17), .str 0 0, .str 0 0, .int 0 (.ofNat 0), .int 0 (.ofNat 0), .str 0 0, .int 0 (.ofNat 0), .int 0 (.ofNat 2), .str 0 0, .int 0 (.ofNat 0), .int 0 (.ofNat 0), .int 0 (.ofNat 0), .str 0 0, .str 0 0, .slcN, .slcN], .int 0 (.ofNat 0), .int 0 (.ofNat 0)]) := by kernel_rfl
set_option maxRecDepth 1000000 in
theorem paF26 : callV Tryz.prog paEv 336 23 [.agg [.int 0 (.ofNat 17), .str 0 0, .str 0 0, .int 0 (.ofNat 0), .int 0 (.ofNat 0), .str 0 0, .int 0 (.ofNat 0), .int 0 (.ofNat 2), .str 0 0, .int 0 (.ofNat 0), .int 0 (.ofNat 0), .int 0 (.ofNat 0), .str 0 0, .str 0 0, .slcN, .slcN]] paH 24 = some (.int 0 (.ofNat 0)) := by kernel_rfl
set_option maxRecDepth 1000000 in
theorem paF27 : callV Tryz.prog (paEv.with paKn2) 1418 15 [.str 6 45253476511598] paH 24 = some (.str 4 892613425) := by kernel_rfl
set_option maxRecDepth 1000000 in
theorem paF28 : callV Tryz.prog paEv 146 84 [.str 3 6434657] paH 24 = some (.bool true) := by kernel_rfl
set_option maxRecDepth 1000000 in
theorem paF29 : callV Tryz.prog paEv 270 47 [.str 2 12129] paH 24 = some (.bool false) := by kernel_rfl
set_option maxRecDepth 1000000 in
theorem paF30 : callV Tryz.prog paEv 220 47 [.str 1 98] paH 24 = some (.bool true) := by kernel_rfl
set_option maxRecDepth 1000000 in
theorem paF31 : callV Tryz.prog (paEv.with paKn1) 17390 15 [.str 3 6434657] paH 24 = some (.str 2 13619) := by kernel_rfl
set_option maxRecDepth 1000000 in
theorem paF32 : callV Tryz.prog paEv 174 84 [.str 4 1563515746] paH 24 = some (.bool true) := by kernel_rfl
set_option maxRecDepth 1000000 in
theorem paF33 : callV Tryz.prog paEv 270 47 [.str 2 23393] paH 24 = some (.bool false) := by kernel_rfl
set_option maxRecDepth 1000000 in
theorem paF34 : callV Tryz.prog paEv 212 47 [.str 1 91] paH 24 = some (.bool false) := by kernel_rfl
set_option maxRecDepth 1000000 in
theorem paF35 : callV Tryz.prog paEv 212 47 [.str 1 93] paH 24 = some (.bool false) := by kernel_rfl
set_option maxRecDepth 1000000 in
theorem paF36 : callV Tryz.prog paEv 138 128 [.str 1 49, .str 2 17765] paH 24 = some (.bool false) := by kernel_rfl
set_option maxRecDepth 1000000 in
theorem paF37 : callV Tryz.prog paEv 202 446 [.str 1 48, .int 0 (.ofNat 20)] paH 24 = some (.str 20 275106190556405255191281850864241509582293184560) := by kernel_rfl
set_option maxRecDepth 1000000 in
theorem paF38 : callV Tryz.prog paEv 202 446 [.str 1 48, .int 0 (.ofNat 50)] paH 24 = some (.str 50 486070565286947499229349491200566941050297561003147955356359408290004258261993636636168537088025944740875891194870116400) := by kernel_rfl
set_option maxRecDepth 1000000 in
theorem paF39 : callV Tryz.prog paEv 220 492 [.str 20 275106190556405255191281850864241509582293184560, .int 1 (.ofNat 48)] paH 24 = some (.str 0 0) := by kernel_rfl
set_option maxRecDepth 1000000 in
theorem paF40 : callV Tryz.prog (paEv.with paKn1) 2882 221 [.str 1 49] paH 24 = some (.tup [.str 1 49, .int 0 (.ofNat 0)]) := by kernel_rfl
set_option maxRecDepth 1000000 in
theorem paF41 : callV Tryz.prog (paEv.with paKn1) 2940 222 [.str 1 49] paH 24 = some (.bool true) := by kernel_rfl
set_option maxRecDepth 1000000 in
theorem paF42 : callV Tryz.prog (paEv.with paKn2) 170 92 [.agg [.int 0 (.ofNat 3), .str 1 49]] paH 24 = some (.bool true) := by kernel_rfl
end
end Go.Proofs.YtgiioiohgnfmgaaGreatDoor
