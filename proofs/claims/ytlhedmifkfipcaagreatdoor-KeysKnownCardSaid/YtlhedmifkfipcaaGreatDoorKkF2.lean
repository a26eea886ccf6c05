/- Runs of the abstract machine: values of calls. -/
import Derived.Test.YtlhedmifkfipcaaGreatDoorKkKn
import Derived.KernelRfl
namespace Go.Proofs.YtlhedmifkfipcaaGreatDoor
open Go Go.Abs
noncomputable section
set_option maxRecDepth 1000000 in
theorem kkF75 : callV Tryz.prog (kkEv.with kkKn1) 39620 24 [.str 1 46] kkH 24 = some (.tup [.agg [.int 0 (.ofNat 2), .str 0 0, .str 0 0, .int 0 (.ofNat 0), .int 0 (.ofNat 0), .str 0 0, .int 0 (.ofNat 0), .int 0 (.ofNat 0), .str 0 0, .int 0 (.ofNat 0), .int 0 (.ofNat 0), .int 0 (.ofNat 0), .str 0 0, .str 0 0, .slcN, .slcN], .int 0 (.ofNat 0), .int 0 (.ofNat 0)]) := by kernel_rfl
set_option maxRecDepth 1000000 in
theorem kkF76 : callV Tryz.prog kkEv 4070 49 [.agg [.int 0 (.ofNat 2), .str 0 0, .str 0 0, .int 0 (.ofNat 0), .int 0 (.ofNat 0), .str 0 0, .int 0 (.ofNat 0), .int 0 (.ofNat 0), .str 0 0, .int 0 (.ofNat 0), .int 0 (.ofNat 0), .int 0 (.ofNat 0), .str 0 0, .str 0 0, .slcN, .slcN]] kkH 24 = some (.int 0 (.ofNat 0)) := by kernel_rfl
set_option maxRecDepth 1000000 in
theorem kkF77 : callV Tryz.prog kkEv 3760 32 [.str 5 425746767970] kkH 24 = some (.bool true) := by kernel_rfl
set_option maxRecDepth 1000000 in
theorem kkF78 : callV Tryz.prog kkEv 4100 48 [.str 2 8289] kkH 24 = some (.bool false) := by kernel_rfl
set_option maxRecDepth 1000000 in
theorem kkF79 : callV Tryz.prog kkEv 3810 48 [.str 1 124] kkH 24 = some (.bool false) := by kernel_rfl
set_option maxRecDepth 1000000 in
theorem kkF80 : callV Tryz.prog (kkEv.with kkKn1) 39380 24 [.str 2 27456] kkH 24 = some (.tup [.agg [.int 0 (.ofNat 17), .str 0 0, .str 0 0, .int 0 (.ofNat 0), .int 0 (.ofNat 0), .str 0 0, .int 0 (.ofNat 4), .int 0 (.ofNat 1), .str 1 107, .int 0 (.ofNat 0), .int 0 (.ofNat 0), .int 0 (.ofNat 0), .str 0 0, .str 0 0, .slcN, .slcN], .int 0 (.ofNat 0), .int 0 (.ofNat 0)]) := by kernel_rfl
set_option maxRecDepth 1000000 in
theorem kkF81 : callV Tryz.prog (kkEv.with kkKn1) 4430 49 [.agg [.int 0 (.ofNat 17), .str 0 0, .str 0 0, .int 0 (.ofNat 0), .int 0 (.ofNat 0), .str 0 0, .int 0 (.ofNat 0), .int 0 (.ofNat 1), .str 1 99, .int 0 (.ofNat 0), .int 0 (.ofNat 0), .int 0 (.ofNat 0), .str 0 0, .str 0 0, .slcN, .slcN]] kkH 24 = some (.int 0 (.ofNat 0)) := by kernel_rfl
set_option maxRecDepth 1000000 in
theorem kkF82 : callV Tryz.prog (kkEv.with kkKn1) 4430 49 [.agg [.int 0 (.ofNat 17), .str 0 0, .str 0 0, .int 0 (.ofNat 0), .int 0 (.ofNat 0), .str 0 0, .int 0 (.ofNat 4), .int 0 (.ofNat 1), .str 1 107, .int 0 (.ofNat 0), .int 0 (.ofNat 0), .int 0 (.ofNat 0), .str 0 0, .str 0 0, .slcN, .slcN]] kkH 24 = some (.int 0 (.ofNat 0)) := by kernel_rfl
set_option maxRecDepth 1000000 in
theorem kkF83 : callV Tryz.prog kkEv 3850 29 [.agg [.int 0 (.ofNat 0), .str 1 49], .agg [.int 0 (.ofNat 0), .str 1 49]] kkH 24 = some (.bool true) := by kernel_rfl
set_option maxRecDepth 1000000 in
theorem kkF84 : callV Tryz.prog kkEv 3850 29 [.agg [.int 0 (.ofNat 0), .str 1 49], .agg [.int 0 (.ofNat 0), .str 1 50]] kkH 24 = some (.bool false) := by kernel_rfl
end
end Go.Proofs.YtlhedmifkfipcaaGreatDoor
