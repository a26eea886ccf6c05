/- Runs of the abstract machine: values of calls. -/
import Derived.Test.YtgiioiohgnfmgaaGreatDoorAcKn
import Derived.KernelRfl
namespace Go.Proofs.YtgiioiohgnfmgaaGreatDoor
open Go Go.Abs
noncomputable section
set_option maxRecDepth 1000000 in
theorem acF54 : callV Tryz.prog (acEv.with acKn2) 5974 32 [.str 1 48] acH 24 = some (.tup [.agg [.int 0 (.ofNat 0), .str 0 0, .str 0 0, .int 0 (.ofNat 0), .int 0 (.ofNat 3), .str 1 48, .int 0 (.ofNat 0), .int 0 (.ofNat 0), .str 0 0, .int 0 (.ofNat 0), .int 0 (.ofNat 0), .int 0 (.ofNat 0), .str 0 0, .str 0 0, .slcN, .slcN], .int 0 (.ofNat 0), .int 0 (.ofNat 0)]) := by kernel_rfl
set_option maxRecDepth 1000000 in
theorem acF55 : callV Tryz.prog (acEv.with acKn1) 6144 32 [.str 1 99] acH 24 = some (.tup [.agg [.int 0 (.ofNat 17), .str 0 0, .str 0 0, .int 0 (.ofNat 0), .int 0 (.ofNat 0), .str 0 0, .int 0 (.ofNat 0), .int 0 (.ofNat 1), .str 1 99, .int 0 (.ofNat 0), .int 0 (.ofNat 0), .int 0 (.ofNat 0), .str 0 0, .str 0 0, .slcN, .slcN], .int 0 (.ofNat 0), .int 0 (.ofNat 0)]) := by kernel_rfl
set_option maxRecDepth 1000000 in
theorem acF56 : callV Tryz.prog acEv 286 84 [.str 8 7453010330695724580] acH 24 = some (.bool true) := by kernel_rfl
set_option maxRecDepth 1000000 in
theorem acF57 : callV Tryz.prog acEv 278 47 [.str 2 28513] acH 24 = some (.bool true) := by kernel_rfl
set_option maxRecDepth 1000000 in
theorem acF58 : callV Tryz.prog acEv 278 47 [.str 2 29793] acH 24 = some (.bool true) := by kernel_rfl
set_option maxRecDepth 1000000 in
theorem acF59 : callV Tryz.prog acEv 278 47 [.str 2 26721] acH 24 = some (.bool true) := by kernel_rfl
set_option maxRecDepth 1000000 in
theorem acF60 : callV Tryz.prog acEv 278 47 [.str 2 26977] acH 24 = some (.bool true) := by kernel_rfl
set_option maxRecDepth 1000000 in
theorem acF61 : callV Tryz.prog acEv 278 47 [.str 2 28257] acH 24 = some (.bool true) := by kernel_rfl
set_option maxRecDepth 1000000 in
theorem acF62 : callV Tryz.prog acEv 278 47 [.str 2 26465] acH 24 = some (.bool true) := by kernel_rfl
set_option maxRecDepth 1000000 in
theorem acF63 : callV Tryz.prog (acEv.with acKn1) 9000 32 [.str 8 7453010330695724580] acH 24 = some (.tup [.agg [.int 0 (.ofNat 1), .str 0 0, .str 7 29113321604280174, .int 0 (.ofNat 0), .int 0 (.ofNat 0), .str 0 0, .int 0 (.ofNat 0), .int 0 (.ofNat 0), .str 0 0, .int 0 (.ofNat 0), .int 0 (.ofNat 0), .int 0 (.ofNat 0), .str 0 0, .str 0 0, .slcN, .slcN], .int 0 (.ofNat 0), .int 0 (.ofNat 0)]) := by kernel_rfl
set_option maxRecDepth 1000000 in
theorem acF64 : callV Tryz.prog (acEv.with acKn1) 2650 222 [.str 1 48] acH 24 = some (.bool true) := by kernel_rfl
set_option maxRecDepth 1000000 in
theorem acF65 : callV Tryz.prog (acEv.with acKn2) 232 23 [.agg [.int 0 (.ofNat 0), .str 0 0, .str 0 0, .int 0 (.ofNat 0), .int 0 (.ofNat 3), .str 1 48, .int 0 (.ofNat 0), .int 0 (.ofNat 0), .str 0 0, .int 0 (.ofNat 0), .int 0 (.ofNat 0), .int 0 (.ofNat 0), .str 0 0, .str 0 0, .slcN, .slcN]] acH 24 = some (.int 0 (.ofNat 0)) := by kernel_rfl
set_option maxRecDepth 1000000 in
theorem acF66 : callV Tryz.prog (acEv.with acKn1) 336 23 [.agg [.int 0 (.ofNat 17), .str 0 0, .str 0 0, .int 0 (.ofNat 0), .int 0 (.ofNat 0), .str 0 0, .int 0 (.ofNat 0), .int 0 (.ofNat 1), .str 1 99, .int 0 (.ofNat 0), .int 0 (.ofNat 0), .int 0 (.ofNat 0), .str 0 0, .str 0 0, .slcN, .slcN]] acH 24 = some (.int 0 (.ofNat 0)) := by kernel_rfl
set_option maxRecDepth 1000000 in
theorem acF67 : callV Tryz.prog acEv 258 84 [.str 7 29113321604280174] acH 24 = some (.bool true) := by kernel_rfl
set_option maxRecDepth 1000000 in
theorem acF68 : callV Tryz.prog acEv 216 87 [.str 7 29113321604280174] acH 24 = some (.bool true) := by kernel_rfl
set_option maxRecDepth 1000000 in
theorem acF69 : callV Tryz.prog (acEv.with acKn1) 198 47 [.str 7 29113321604280174] acH 24 = some (.bool true) := by kernel_rfl
set_option maxRecDepth 1000000 in
theorem acF70 : callV Tryz.prog (acEv.with acKn2) 216 23 [.agg [.int 0 (.ofNat 1), .str 0 0, .str 7 29113321604280174, .int 0 (.ofNat 0), .int 0 (.ofNat 0), .str 0 0, .int 0 (.ofNat 0), .int 0 (.ofNat 0), .str 0 0, .int 0 (.ofNat 0), .int 0 (.ofNat 0), .int 0 (.ofNat 0), .str 0 0, .str 0 0, .slcN, .slcN]] acH 24 = some (.int 0 (.ofNat 0)) := by kernel_rfl
set_option maxRecDepth 1000000 in
theorem acF71 : callV Tryz.prog acEv 342 84 [.str 10 231989361066269210670628] acH 24 = some (.bool true) := by kernel_rfl
set_option maxRecDepth 1000000 in
theorem acF72 : callV Tryz.prog acEv 270 47 [.str 2 8289] acH 24 = some (.bool false) := by kernel_rfl
set_option maxRecDepth 1000000 in
theorem acF73 : callV Tryz.prog acEv 212 47 [.str 1 43] acH 24 = some (.bool false) := by kernel_rfl
set_option maxRecDepth 1000000 in
theorem acF74 : callV Tryz.prog (acEv.with acKn1) 2940 222 [.str 1 49] acH 24 = some (.bool true) := by kernel_rfl
set_option maxRecDepth 1000000 in
theorem acF75 : callV Tryz.prog (acEv.with acKn2) 170 92 [.agg [.int 0 (.ofNat 3), .str 1 48]] acH 24 = some (.bool true) := by kernel_rfl
set_option maxRecDepth 1000000 in
theorem acF76 : callV Tryz.prog (acEv.with acKn2) 170 92 [.agg [.int 0 (.ofNat 3), .str 1 49]] acH 24 = some (.bool true) := by kernel_rfl
end
end Go.Proofs.YtgiioiohgnfmgaaGreatDoor
