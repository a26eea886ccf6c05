/- Runs of the abstract machine: values of calls. -/
import Derived.Test.YtdhgjhipfoeffaaGreatDoorMkKn
import Derived.KernelRfl
namespace Go.Proofs.YtdhgjhipfoeffaaGreatDoor
open Go Go.Abs
noncomputable section
set_option maxRecDepth 1000000 in
theorem mkF21 : callV Tryz.prog (mkEv.with mkKn1) 7034 28 [.str 1 48, .str 1 48] .leaf 0 = some (.tup [.str 1 48, .int 0 (.ofNat 0)]) := by kernel_rfl
set_option maxRecDepth 1000000 in
theorem mkF22 : callV Tryz.prog (mkEv.with mkKn2) 258 37 [.agg [.int 0 (.ofNat 0), .str 1 48, .int 0 (.ofNat 3)], .agg [.int 0 (.ofNat 0), .str 1 48, .int 0 (.ofNat 1)]] .leaf 0 = some (.int 0 (.negSucc 0)) := by kernel_rfl
set_option maxRecDepth 1000000 in
theorem mkF23 : callV Tryz.prog (mkEv.with mkKn1) 7692 28 [.str 3 3485232, .str 1 48] .leaf 0 = some (.tup [.str 3 3485232, .int 0 (.ofNat 0)]) := by kernel_rfl
set_option maxRecDepth 1000000 in
theorem mkF24 : callV Tryz.prog (mkEv.with mkKn2) 270 37 [.agg [.int 0 (.ofNat 0), .str 1 48, .int 0 (.ofNat 3)], .agg [.int 0 (.ofNat 0), .str 3 3485232, .int 0 (.ofNat 2)]] .leaf 0 = some (.int 0 (.ofNat 1)) := by kernel_rfl
set_option maxRecDepth 1000000 in
theorem mkF25 : callV Tryz.prog (mkEv.with mkKn1) 2644 27 [.str 3 3157552] .leaf 0 = some (.tup [.str 1 48, .int 0 (.ofNat 0)]) := by kernel_rfl
set_option maxRecDepth 1000000 in
theorem mkF26 : callV Tryz.prog (mkEv.with mkKn2) 246 37 [.agg [.int 0 (.ofNat 1), .str 1 48, .int 0 (.ofNat 1)], .agg [.int 0 (.ofNat 0), .str 4 892219437, .int 0 (.ofNat 0)]] .leaf 0 = some (.int 0 (.negSucc 0)) := by kernel_rfl
set_option maxRecDepth 1000000 in
theorem mkF27 : callV Tryz.prog (mkEv.with mkKn2) 250 37 [.agg [.int 0 (.ofNat 0), .str 3 3485232, .int 0 (.ofNat 2)], .agg [.int 0 (.ofNat 1), .str 1 48, .int 0 (.ofNat 1)]] .leaf 0 = some (.int 0 (.ofNat 1)) := by kernel_rfl
set_option maxRecDepth 1000000 in
theorem mkF28 : callV Tryz.prog (mkEv.with mkKn1) 7984 28 [.str 3 3485232, .str 4 892219437] .leaf 0 = some (.tup [.str 1 49, .int 0 (.ofNat 0)]) := by kernel_rfl
set_option maxRecDepth 1000000 in
theorem mkF29 : callV Tryz.prog (mkEv.with mkKn2) 156 7 [.int 0 (.ofNat 0), .str 3 3485232, .int 0 (.ofNat 0), .int 0 (.ofNat 0), .str 4 892219437, .int 0 (.ofNat 7)] .leaf 0 = some (.bool true) := by kernel_rfl
set_option maxRecDepth 1000000 in
theorem mkF30 : callV Tryz.prog mkEv 146 288 [.slcN] .leaf 0 = some (.tup [.slcN, .int 0 (.ofNat 0)]) := by kernel_rfl
set_option maxRecDepth 1000000 in
theorem mkF31 : callV Tryz.prog (mkEv.with mkKn1) 2882 27 [.str 1 53] .leaf 0 = some (.tup [.str 1 53, .int 0 (.ofNat 0)]) := by kernel_rfl
end
end Go.Proofs.YtdhgjhipfoeffaaGreatDoor
