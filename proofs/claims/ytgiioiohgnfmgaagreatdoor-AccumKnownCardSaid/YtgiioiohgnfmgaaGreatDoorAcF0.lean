/- Runs of the abstract machine: values of calls. -/
import Derived.Test.YtgiioiohgnfmgaaGreatDoorAcKn
import Derived.KernelRfl
namespace Go.Proofs.YtgiioiohgnfmgaaGreatDoor
open Go Go.Abs
noncomputable section
set_option maxRecDepth 1000000 in
theorem acF0 : callV Tryz.prog acEv 146 84 [.str 3 2586663] acH 24 = some (.bool true) := by kernel_rfl
set_option maxRecDepth 1000000 in
theorem acF1 : callV Tryz.prog (acEv.with acKn1) 5688 32 [.str 3 2586663] acH 24 = some (.tup [.agg [.int 0 (.ofNat 0), .str 0 0, .str 0 0, .int 0 (.ofNat 0), .int 0 (.ofNat 1), .str 1 120, .int 0 (.ofNat 0), .int 0 (.ofNat 0), .str 0 0, .int 0 (.ofNat 0), .int 0 (.ofNat 0), .int 0 (.ofNat 0), .str 0 0, .str 0 0, .slcN, .slcN], .int 0 (.ofNat 0), .int 0 (.ofNat 0)]) := by kernel_rfl
set_option maxRecDepth 1000000 in
theorem acF2 : callV Tryz.prog acEv 220 47 [.str 1 97] acH 24 = some (.bool true) := by kernel_rfl
set_option maxRecDepth 1000000 in
theorem acF3 : callV Tryz.prog (acEv.with acKn1) 6144 32 [.str 1 97] acH 24 = some (.tup [.agg [.int 0 (.ofNat 17), .str 0 0, .str 0 0, .int 0 (.ofNat 0), .int 0 (.ofNat 0), .str 0 0, .int 0 (.ofNat 0), .int 0 (.ofNat 1), .str 1 97, .int 0 (.ofNat 0), .int 0 (.ofNat 0), .int 0 (.ofNat 0), .str 0 0, .str 0 0, .slcN, .slcN], .int 0 (.ofNat 0), .int 0 (.ofNat 0)]) := by kernel_rfl
set_option maxRecDepth 1000000 in
theorem acF4 : callV Tryz.prog acEv 138 128 [.str 1 49, .str 2 17765] acH 24 = some (.bool false) := by kernel_rfl
set_option maxRecDepth 1000000 in
theorem acF5 : callV Tryz.prog acEv 202 446 [.str 1 48, .int 0 (.ofNat 20)] acH 24 = some (.str 20 275106190556405255191281850864241509582293184560) := by kernel_rfl
set_option maxRecDepth 1000000 in
theorem acF6 : callV Tryz.prog acEv 202 446 [.str 1 48, .int 0 (.ofNat 50)] acH 24 = some (.str 50 486070565286947499229349491200566941050297561003147955356359408290004258261993636636168537088025944740875891194870116400) := by kernel_rfl
set_option maxRecDepth 1000000 in
theorem acF7 : callV Tryz.prog acEv 220 492 [.str 20 275106190556405255191281850864241509582293184560, .int 1 (.ofNat 48)] acH 24 = some (.str 0 0) := by kernel_rfl
set_option maxRecDepth 1000000 in
theorem acF8 : callV Tryz.prog (acEv.with acKn1) 2882 221 [.str 1 49] acH 24 = some (.tup [.str 1 49, .int 0 (.ofNat 0)]) := by kernel_rfl
set_option maxRecDepth 1000000 in
theorem acF9 : callV Tryz.prog (acEv.with acKn2) 5974 32 [.str 1 49] acH 24 = some (.tup [.agg [.int 0 (.ofNat 0), .str 0 0, .str 0 0, .int 0 (.ofNat 0), .int 0 (.ofNat 3), .str 1 49, .int 0 (.ofNat 0), .int 0 (.ofNat 0), .str 0 0, .int 0 (.ofNat 0), .int 0 (.ofNat 0), .int 0 (.ofNat 0), .str 0 0, .str 0 0, .slcN, .slcN], .int 0 (.ofNat 0), .int 0 (.ofNat 0)]) := by kernel_rfl
set_option maxRecDepth 1000000 in
theorem acF10 : callV Tryz.prog acEv 212 47 [.str 1 42] acH 24 = some (.bool false) := by kernel_rfl
set_option maxRecDepth 1000000 in
theorem acF11 : callV Tryz.prog (acEv.with acKn1) 7136 32 [.str 1 42] acH 24 = some (.tup [.agg [.int 0 (.ofNat 17), .str 0 0, .str 0 0, .int 0 (.ofNat 0), .int 0 (.ofNat 0), .str 0 0, .int 0 (.ofNat 0), .int 0 (.ofNat 0), .str 0 0, .int 0 (.ofNat 0), .int 0 (.ofNat 0), .int 0 (.ofNat 0), .str 0 0, .str 0 0, .slcN, .slcN], .int 0 (.ofNat 0), .int 0 (.ofNat 0)]) := by kernel_rfl
set_option maxRecDepth 1000000 in
theorem acF12 : callV Tryz.prog acEv 138 128 [.str 1 50, .str 2 17765] acH 24 = some (.bool false) := by kernel_rfl
set_option maxRecDepth 1000000 in
theorem acF13 : callV Tryz.prog (acEv.with acKn1) 2882 221 [.str 1 50] acH 24 = some (.tup [.str 1 50, .int 0 (.ofNat 0)]) := by kernel_rfl
end
end Go.Proofs.YtgiioiohgnfmgaaGreatDoor
