/- Runs of the abstract machine: values of calls. -/
import Derived.Test.YtgiioiohgnfmgaaGreatDoorPaKn
import Derived.KernelRfl
namespace Go.Proofs.YtgiioiohgnfmgaaGreatDoor
open Go Go.Abs
noncomputable section
set_option maxRecDepth 1000000 in
theorem paF0 : callV Tryz.prog paEv 212 47 [.str 1 47] paH 24 = some (.bool false) := by kernel_rfl
set_option maxRecDepth 1000000 in
theorem paF1 : callV Tryz.prog (paEv.with paKn1) 5926 32 [.str 1 47] paH 24 = some (.tup [.agg [.int 0 (.ofNat 16), .str 0 0, .str 0 0, .int 0 (.ofNat 0), .int 0 (.ofNat 0), .str 0 0, .int 0 (.ofNat 0), .int 0 (.ofNat 0), .str 0 0, .int 0 (.ofNat 0), .int 0 (.ofNat 0), .int 0 (.ofNat 0), .str 0 0, .str 0 0, .slcN, .slcN], .int 0 (.ofNat 0), .int 0 (.ofNat 0)]) := by kernel_rfl
set_option maxRecDepth 1000000 in
theorem paF2 : callV Tryz.prog paEv 266 23 [.agg [.int 0 (.ofNat 16), .str 0 0, .str 0 0, .int 0 (.ofNat 0), .int 0 (.ofNat 0), .str 0 0, .int 0 (.ofNat 0), .int 0 (.ofNat 0), .str 0 0, .int 0 (.ofNat 0), .int 0 (.ofNat 0), .int 0 (.ofNat 0), .str 0 0, .str 0 0, .slcN, .slcN]] paH 24 = some (.int 0 (.ofNat 0)) := by kernel_rfl
set_option maxRecDepth 1000000 in
theorem paF3 : callV Tryz.prog (paEv.with paKn2) 1074 15 [.str 1 47] paH 24 = some (.str 1 48) := by kernel_rfl
set_option maxRecDepth 1000000 in
theorem paF4 : callV Tryz.prog paEv 220 47 [.str 1 97] paH 24 = some (.bool true) := by kernel_rfl
set_option maxRecDepth 1000000 in
theorem paF5 : callV Tryz.prog (paEv.with paKn1) 6144 32 [.str 1 97] paH 24 = some (.tup [.agg [.int 0 (.ofNat 17), .str 0 0, .str 0 0, .int 0 (.ofNat 0), .int 0 (.ofNat 0), .str 0 0, .int 0 (.ofNat 0), .int 0 (.ofNat 1), .str 1 97, .int 0 (.ofNat 0), .int 0 (.ofNat 0), .int 0 (.ofNat 0), .str 0 0, .str 0 0, .slcN, .slcN], .int 0 (.ofNat 0), .int 0 (.ofNat 0)]) := by kernel_rfl
set_option maxRecDepth 1000000 in
theorem paF6 : callV Tryz.prog (paEv.with paKn1) 336 23 [.agg [.int 0 (.ofNat 17), .str 0 0, .str 0 0, .int 0 (.ofNat 0), .int 0 (.ofNat 0), .str 0 0, .int 0 (.ofNat 0), .int 0 (.ofNat 1), .str 1 97, .int 0 (.ofNat 0), .int 0 (.ofNat 0), .int 0 (.ofNat 0), .str 0 0, .str 0 0, .slcN, .slcN]] paH 24 = some (.int 0 (.ofNat 0)) := by kernel_rfl
set_option maxRecDepth 1000000 in
theorem paF7 : callV Tryz.prog (paEv.with paKn2) 1486 15 [.str 1 97] paH 24 = some (.str 1 49) := by kernel_rfl
set_option maxRecDepth 1000000 in
theorem paF8 : callV Tryz.prog paEv 212 47 [.str 1 42] paH 24 = some (.bool false) := by kernel_rfl
set_option maxRecDepth 1000000 in
theorem paF9 : callV Tryz.prog (paEv.with paKn1) 7136 32 [.str 1 42] paH 24 = some (.tup [.agg [.int 0 (.ofNat 17), .str 0 0, .str 0 0, .int 0 (.ofNat 0), .int 0 (.ofNat 0), .str 0 0, .int 0 (.ofNat 0), .int 0 (.ofNat 0), .str 0 0, .int 0 (.ofNat 0), .int 0 (.ofNat 0), .int 0 (.ofNat 0), .str 0 0, .str 0 0, .slcN, .slcN], .int 0 (.ofNat 0), .int 0 (.ofNat 0)]) := by kernel_rfl
set_option maxRecDepth 1000000 in
theorem paF10 : callV Tryz.prog paEv 336 23 [.agg [.int 0 (.ofNat 17), .str 0 0, .str 0 0, .int 0 (.ofNat 0), .int 0 (.ofNat 0), .str 0 0, .int 0 (.ofNat 0), .int 0 (.ofNat 0), .str 0 0, .int 0 (.ofNat 0), .int 0 (.ofNat 0), .int 0 (.ofNat 0), .str 0 0, .str 0 0, .slcN, .slcN]] paH 24 = some (.int 0 (.ofNat 0)) := by kernel_rfl
set_option maxRecDepth 1000000 in
theorem paF11 : callV Tryz.prog (paEv.with paKn2) 1434 15 [.str 1 42] paH 24 = some (.str 3 3486513) := by kernel_rfl
set_option maxRecDepth 1000000 in
theorem paF12 : callV Tryz.prog paEv 212 47 [.str 1 64] paH 24 = some (.bool false) := by kernel_rfl
set_option maxRecDepth 1000000 in
theorem paF13 : callV Tryz.prog paEv 220 47 [.str 1 120] paH 24 = some (.bool true) := by kernel_rfl
set_option maxRecDepth 1000000 in
theorem paF14 : callV Tryz.prog (paEv.with paKn1) 7326 32 [.str 2 30784] paH 24 = some (.tup [.agg [.int 0 (.ofNat 17), .str 0 0, .str 0 0, .int 0 (.ofNat 0), .int 0 (.ofNat 0), .str 0 0, .int 0 (.ofNat 4), .int 0 (.ofNat 1), .str 1 120, .int 0 (.ofNat 0), .int 0 (.ofNat 0), .int 0 (.ofNat 0), .str 0 0, .str 0 0, .slcN, .slcN], .int 0 (.ofNat 0), .int 0 (.ofNat 0)]) := by kernel_rfl
set_option maxRecDepth 1000000 in
theorem paF15 : callV Tryz.prog (paEv.with paKn1) 336 23 [.agg [.int 0 (.ofNat 17), .str 0 0, .str 0 0, .int 0 (.ofNat 0), .int 0 (.ofNat 0), .str 0 0, .int 0 (.ofNat 4), .int 0 (.ofNat 1), .str 1 120, .int 0 (.ofNat 0), .int 0 (.ofNat 0), .int 0 (.ofNat 0), .str 0 0, .str 0 0, .slcN, .slcN]] paH 24 = some (.int 0 (.ofNat 0)) := by kernel_rfl
set_option maxRecDepth 1000000 in
theorem paF16 : callV Tryz.prog (paEv.with paKn2) 1446 15 [.str 2 30784] paH 24 = some (.str 1 50) := by kernel_rfl
set_option maxRecDepth 1000000 in
theorem paF17 : callV Tryz.prog paEv 230 84 [.str 6 45253476511598] paH 24 = some (.bool true) := by kernel_rfl
set_option maxRecDepth 1000000 in
theorem paF18 : callV Tryz.prog paEv 220 47 [.str 1 110] paH 24 = some (.bool true) := by kernel_rfl
set_option maxRecDepth 1000000 in
theorem paF19 : callV Tryz.prog paEv 278 47 [.str 2 28513] paH 24 = some (.bool true) := by kernel_rfl
set_option maxRecDepth 1000000 in
theorem paF20 : callV Tryz.prog paEv 278 47 [.str 2 25697] paH 24 = some (.bool true) := by kernel_rfl
set_option maxRecDepth 1000000 in
theorem paF21 : callV Tryz.prog paEv 278 47 [.str 2 25953] paH 24 = some (.bool true) := by kernel_rfl
set_option maxRecDepth 1000000 in
theorem paF22 : callV Tryz.prog paEv 270 47 [.str 2 10337] paH 24 = some (.bool false) := by kernel_rfl
set_option maxRecDepth 1000000 in
theorem paF23 : callV Tryz.prog paEv 212 47 [.str 1 40] paH 24 = some (.bool false) := by kernel_rfl
set_option maxRecDepth 1000000 in
theorem paF24 : callV Tryz.prog paEv 212 47 [.str 1 41] paH 24 = some (.bool false) := by kernel_rfl
end
end Go.Proofs.YtgiioiohgnfmgaaGreatDoor
