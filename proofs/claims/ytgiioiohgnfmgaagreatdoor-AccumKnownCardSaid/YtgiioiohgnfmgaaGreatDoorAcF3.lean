/- Runs of the abstract machine: values of calls. -/
import Derived.Test.YtgiioiohgnfmgaaGreatDoorAcKn
import Derived.KernelRfl
namespace Go.Proofs.YtgiioiohgnfmgaaGreatDoor
open Go Go.Abs
noncomputable section
set_option maxRecDepth 1000000 in
theorem acF77 : callV Tryz.prog (acEv.with acKn1) 7616 341 [.str 1 48, .str 1 49] acH 24 = some (.tup [.str 1 49, .int 0 (.ofNat 0)]) := by kernel_rfl
set_option maxRecDepth 1000000 in
theorem acF78 : callV Tryz.prog (acEv.with acKn3) 224 472 [.str 1 43, .agg [.int 0 (.ofNat 3), .str 1 48], .agg [.int 0 (.ofNat 3), .str 1 49]] acH 24 = some (.tup [.agg [.int 0 (.ofNat 3), .str 1 49], .int 0 (.ofNat 0)]) := by kernel_rfl
set_option maxRecDepth 1000000 in
theorem acF79 : callV Tryz.prog (acEv.with acKn1) 7906 341 [.str 1 49, .str 1 49] acH 24 = some (.tup [.str 1 50, .int 0 (.ofNat 0)]) := by kernel_rfl
set_option maxRecDepth 1000000 in
theorem acF80 : callV Tryz.prog (acEv.with acKn3) 224 472 [.str 1 43, .agg [.int 0 (.ofNat 3), .str 1 49], .agg [.int 0 (.ofNat 3), .str 1 49]] acH 24 = some (.tup [.agg [.int 0 (.ofNat 3), .str 1 50], .int 0 (.ofNat 0)]) := by kernel_rfl
set_option maxRecDepth 1000000 in
theorem acF81 : callV Tryz.prog (acEv.with acKn2) 170 92 [.agg [.int 0 (.ofNat 3), .str 1 50]] acH 24 = some (.bool true) := by kernel_rfl
set_option maxRecDepth 1000000 in
theorem acF82 : callV Tryz.prog (acEv.with acKn1) 7906 341 [.str 1 50, .str 1 49] acH 24 = some (.tup [.str 1 51, .int 0 (.ofNat 0)]) := by kernel_rfl
set_option maxRecDepth 1000000 in
theorem acF83 : callV Tryz.prog (acEv.with acKn3) 224 472 [.str 1 43, .agg [.int 0 (.ofNat 3), .str 1 50], .agg [.int 0 (.ofNat 3), .str 1 49]] acH 24 = some (.tup [.agg [.int 0 (.ofNat 3), .str 1 51], .int 0 (.ofNat 0)]) := by kernel_rfl
set_option maxRecDepth 1000000 in
theorem acF84 : callV Tryz.prog (acEv.with acKn1) 2882 221 [.str 1 51] acH 24 = some (.tup [.str 1 51, .int 0 (.ofNat 0)]) := by kernel_rfl
set_option maxRecDepth 1000000 in
theorem acF85 : callV Tryz.prog (acEv.with acKn2) 170 92 [.agg [.int 0 (.ofNat 3), .str 1 51]] acH 24 = some (.bool true) := by kernel_rfl
set_option maxRecDepth 1000000 in
theorem acF86 : callV Tryz.prog (acEv.with acKn1) 7906 341 [.str 1 51, .str 1 49] acH 24 = some (.tup [.str 1 52, .int 0 (.ofNat 0)]) := by kernel_rfl
set_option maxRecDepth 1000000 in
theorem acF87 : callV Tryz.prog (acEv.with acKn3) 224 472 [.str 1 43, .agg [.int 0 (.ofNat 3), .str 1 51], .agg [.int 0 (.ofNat 3), .str 1 49]] acH 24 = some (.tup [.agg [.int 0 (.ofNat 3), .str 1 52], .int 0 (.ofNat 0)]) := by kernel_rfl
end
end Go.Proofs.YtgiioiohgnfmgaaGreatDoor
