/- Runs of the abstract machine: values of calls. -/
import Derived.Test.YtdhgjhipfoeffaaGreatDoorMkKn
import Derived.KernelRfl
namespace Go.Proofs.YtdhgjhipfoeffaaGreatDoor
open Go Go.Abs
noncomputable section
set_option maxRecDepth 1000000 in
theorem mkF0 : callV Tryz.prog mkEv 336 78 [.agg [.int 0 (.ofNat 17), .str 0 0, .str 0 0, .int 0 (.ofNat 0), .int 0 (.ofNat 0), .str 0 0, .int 0 (.ofNat 0), .int 0 (.ofNat 0), .str 0 0, .int 0 (.ofNat 0), .int 0 (.ofNat 0), .int 0 (.ofNat 0), .str 0 0, .str 0 0, .slcN, .slcN]] .leaf 0 = some (.int 0 (.ofNat 0)) := by kernel_rfl
set_option maxRecDepth 1000000 in
theorem mkF1 : callV Tryz.prog mkEv 202 96 [.str 1 48, .int 0 (.ofNat 19)] .leaf 0 = some (.str 19 1074633556860958028090944729938443396805832752) := by kernel_rfl
set_option maxRecDepth 1000000 in
theorem mkF2 : callV Tryz.prog mkEv 202 96 [.str 1 48, .int 0 (.ofNat 50)] .leaf 0 = some (.str 50 486070565286947499229349491200566941050297561003147955356359408290004258261993636636168537088025944740875891194870116400) := by kernel_rfl
set_option maxRecDepth 1000000 in
theorem mkF3 : callV Tryz.prog mkEv 212 104 [.str 20 275106190556405255191281850864241509582293184565, .int 1 (.ofNat 48)] .leaf 0 = some (.str 1 53) := by kernel_rfl
set_option maxRecDepth 1000000 in
theorem mkF4 : callV Tryz.prog (mkEv.with mkKn1) 2896 27 [.str 4 892219437] .leaf 0 = some (.tup [.str 4 892219437, .int 0 (.ofNat 0)]) := by kernel_rfl
set_option maxRecDepth 1000000 in
theorem mkF5 : callV Tryz.prog mkEv 220 151 [.str 1 97] .leaf 0 = some (.bool true) := by kernel_rfl
set_option maxRecDepth 1000000 in
theorem mkF6 : callV Tryz.prog (mkEv.with mkKn1) 336 78 [.agg [.int 0 (.ofNat 17), .str 0 0, .str 0 0, .int 0 (.ofNat 0), .int 0 (.ofNat 0), .str 0 0, .int 0 (.ofNat 0), .int 0 (.ofNat 1), .str 1 97, .int 0 (.ofNat 0), .int 0 (.ofNat 0), .int 0 (.ofNat 0), .str 0 0, .str 0 0, .slcN, .slcN]] .leaf 0 = some (.int 0 (.ofNat 0)) := by kernel_rfl
set_option maxRecDepth 1000000 in
theorem mkF7 : callV Tryz.prog mkEv 202 96 [.str 1 48, .int 0 (.ofNat 20)] .leaf 0 = some (.str 20 275106190556405255191281850864241509582293184560) := by kernel_rfl
set_option maxRecDepth 1000000 in
theorem mkF8 : callV Tryz.prog mkEv 220 104 [.str 20 275106190556405255191281850864241509582293184560, .int 1 (.ofNat 48)] .leaf 0 = some (.str 0 0) := by kernel_rfl
set_option maxRecDepth 1000000 in
theorem mkF9 : callV Tryz.prog (mkEv.with mkKn1) 2592 27 [.str 1 48] .leaf 0 = some (.tup [.str 1 48, .int 0 (.ofNat 0)]) := by kernel_rfl
set_option maxRecDepth 1000000 in
theorem mkF10 : callV Tryz.prog mkEv 220 151 [.str 1 98] .leaf 0 = some (.bool true) := by kernel_rfl
set_option maxRecDepth 1000000 in
theorem mkF11 : callV Tryz.prog (mkEv.with mkKn1) 336 78 [.agg [.int 0 (.ofNat 17), .str 0 0, .str 0 0, .int 0 (.ofNat 0), .int 0 (.ofNat 0), .str 0 0, .int 0 (.ofNat 0), .int 0 (.ofNat 1), .str 1 98, .int 0 (.ofNat 0), .int 0 (.ofNat 0), .int 0 (.ofNat 0), .str 0 0, .str 0 0, .slcN, .slcN]] .leaf 0 = some (.int 0 (.ofNat 0)) := by kernel_rfl
set_option maxRecDepth 1000000 in
theorem mkF12 : callV Tryz.prog mkEv 220 151 [.str 1 120] .leaf 0 = some (.bool true) := by kernel_rfl
set_option maxRecDepth 1000000 in
theorem mkF13 : callV Tryz.prog (mkEv.with mkKn1) 2934 27 [.str 3 3485232] .leaf 0 = some (.tup [.str 3 3485232, .int 0 (.ofNat 0)]) := by kernel_rfl
set_option maxRecDepth 1000000 in
theorem mkF14 : callV Tryz.prog (mkEv.with mkKn1) 7640 28 [.str 4 892219437, .str 1 48] .leaf 0 = some (.tup [.str 4 892219437, .int 0 (.ofNat 0)]) := by kernel_rfl
set_option maxRecDepth 1000000 in
theorem mkF15 : callV Tryz.prog (mkEv.with mkKn2) 266 37 [.agg [.int 0 (.ofNat 0), .str 1 48, .int 0 (.ofNat 1)], .agg [.int 0 (.ofNat 0), .str 4 892219437, .int 0 (.ofNat 0)]] .leaf 0 = some (.int 0 (.negSucc 0)) := by kernel_rfl
set_option maxRecDepth 1000000 in
theorem mkF16 : callV Tryz.prog (mkEv.with mkKn1) 7982 28 [.str 4 892219437, .str 3 3485232] .leaf 0 = some (.tup [.str 2 12589, .int 0 (.ofNat 0)]) := by kernel_rfl
set_option maxRecDepth 1000000 in
theorem mkF17 : callV Tryz.prog (mkEv.with mkKn2) 266 37 [.agg [.int 0 (.ofNat 0), .str 3 3485232, .int 0 (.ofNat 2)], .agg [.int 0 (.ofNat 0), .str 4 892219437, .int 0 (.ofNat 0)]] .leaf 0 = some (.int 0 (.negSucc 0)) := by kernel_rfl
set_option maxRecDepth 1000000 in
theorem mkF18 : callV Tryz.prog (mkEv.with mkKn1) 7694 28 [.str 1 48, .str 3 3485232] .leaf 0 = some (.tup [.str 4 892219437, .int 0 (.ofNat 0)]) := by kernel_rfl
set_option maxRecDepth 1000000 in
theorem mkF19 : callV Tryz.prog (mkEv.with mkKn2) 266 37 [.agg [.int 0 (.ofNat 0), .str 3 3485232, .int 0 (.ofNat 2)], .agg [.int 0 (.ofNat 0), .str 1 48, .int 0 (.ofNat 1)]] .leaf 0 = some (.int 0 (.negSucc 0)) := by kernel_rfl
set_option maxRecDepth 1000000 in
theorem mkF20 : callV Tryz.prog (mkEv.with mkKn2) 266 37 [.agg [.int 0 (.ofNat 0), .str 1 48, .int 0 (.ofNat 3)], .agg [.int 0 (.ofNat 0), .str 4 892219437, .int 0 (.ofNat 0)]] .leaf 0 = some (.int 0 (.negSucc 0)) := by kernel_rfl
end
end Go.Proofs.YtdhgjhipfoeffaaGreatDoor
