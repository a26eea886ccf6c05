/- Runs of the abstract machine: values of calls. -/
import Derived.Test.YtjadcoglgnabpaaGreatDoorWkKn
import Derived.KernelRfl
namespace Go.Proofs.YtjadcoglgnabpaaGreatDoor
open Go Go.Abs
noncomputable section
set_option maxRecDepth 1000000 in
theorem wkF0 : callV Tryz.prog wkEv 4430 95 [.agg [.int 0 (.ofNat 17), .str 0 0, .str 0 0, .int 0 (.ofNat 0), .int 0 (.ofNat 0), .str 0 0, .int 0 (.ofNat 0), .int 0 (.ofNat 0), .str 0 0, .int 0 (.ofNat 0), .int 0 (.ofNat 0), .int 0 (.ofNat 0), .str 0 0, .str 0 0, .slcN, .slcN]] wkH 0 = some (.int 0 (.ofNat 0)) := by kernel_rfl
set_option maxRecDepth 1000000 in
theorem wkF1 : callV Tryz.prog wkEv 3760 81 [.str 1 48, .int 0 (.ofNat 19)] wkH 0 = some (.str 19 1074633556860958028090944729938443396805832752) := by kernel_rfl
set_option maxRecDepth 1000000 in
theorem wkF2 : callV Tryz.prog wkEv 3760 81 [.str 1 48, .int 0 (.ofNat 50)] wkH 0 = some (.str 50 486070565286947499229349491200566941050297561003147955356359408290004258261993636636168537088025944740875891194870116400) := by kernel_rfl
set_option maxRecDepth 1000000 in
theorem wkF3 : callV Tryz.prog wkEv 3810 89 [.str 20 275106190556405255191281850864241509582293184565, .int 1 (.ofNat 48)] wkH 0 = some (.str 1 53) := by kernel_rfl
set_option maxRecDepth 1000000 in
theorem wkF4 : callV Tryz.prog (wkEv.with wkKn1) 17230 17 [.str 4 892219437] wkH 0 = some (.tup [.str 4 892219437, .int 0 (.ofNat 0)]) := by kernel_rfl
set_option maxRecDepth 1000000 in
theorem wkF5 : callV Tryz.prog wkEv 3850 157 [.str 1 97] wkH 0 = some (.bool true) := by kernel_rfl
set_option maxRecDepth 1000000 in
theorem wkF6 : callV Tryz.prog (wkEv.with wkKn1) 4430 95 [.agg [.int 0 (.ofNat 17), .str 0 0, .str 0 0, .int 0 (.ofNat 0), .int 0 (.ofNat 0), .str 0 0, .int 0 (.ofNat 0), .int 0 (.ofNat 1), .str 1 97, .int 0 (.ofNat 0), .int 0 (.ofNat 0), .int 0 (.ofNat 0), .str 0 0, .str 0 0, .slcN, .slcN]] wkH 0 = some (.int 0 (.ofNat 0)) := by kernel_rfl
set_option maxRecDepth 1000000 in
theorem wkF7 : callV Tryz.prog wkEv 3760 81 [.str 1 48, .int 0 (.ofNat 20)] wkH 0 = some (.str 20 275106190556405255191281850864241509582293184560) := by kernel_rfl
set_option maxRecDepth 1000000 in
theorem wkF8 : callV Tryz.prog wkEv 3850 89 [.str 20 275106190556405255191281850864241509582293184560, .int 1 (.ofNat 48)] wkH 0 = some (.str 0 0) := by kernel_rfl
set_option maxRecDepth 1000000 in
theorem wkF9 : callV Tryz.prog (wkEv.with wkKn1) 15710 17 [.str 1 48] wkH 0 = some (.tup [.str 1 48, .int 0 (.ofNat 0)]) := by kernel_rfl
set_option maxRecDepth 1000000 in
theorem wkF10 : callV Tryz.prog wkEv 3850 157 [.str 1 98] wkH 0 = some (.bool true) := by kernel_rfl
set_option maxRecDepth 1000000 in
theorem wkF11 : callV Tryz.prog (wkEv.with wkKn1) 4430 95 [.agg [.int 0 (.ofNat 17), .str 0 0, .str 0 0, .int 0 (.ofNat 0), .int 0 (.ofNat 0), .str 0 0, .int 0 (.ofNat 0), .int 0 (.ofNat 1), .str 1 98, .int 0 (.ofNat 0), .int 0 (.ofNat 0), .int 0 (.ofNat 0), .str 0 0, .str 0 0, .slcN, .slcN]] wkH 0 = some (.int 0 (.ofNat 0)) := by kernel_rfl
set_option maxRecDepth 1000000 in
theorem wkF12 : callV Tryz.prog wkEv 3850 157 [.str 1 120] wkH 0 = some (.bool true) := by kernel_rfl
set_option maxRecDepth 1000000 in
theorem wkF13 : callV Tryz.prog (wkEv.with wkKn1) 17420 17 [.str 3 3485232] wkH 0 = some (.tup [.str 3 3485232, .int 0 (.ofNat 0)]) := by kernel_rfl
set_option maxRecDepth 1000000 in
theorem wkF14 : callV Tryz.prog (wkEv.with wkKn1) 40950 18 [.str 4 892219437, .str 1 48] wkH 0 = some (.tup [.str 4 892219437, .int 0 (.ofNat 0)]) := by kernel_rfl
set_option maxRecDepth 1000000 in
theorem wkF15 : callV Tryz.prog (wkEv.with wkKn2) 4080 48 [.agg [.int 0 (.ofNat 0), .str 1 48, .int 0 (.ofNat 1)], .agg [.int 0 (.ofNat 0), .str 4 892219437, .int 0 (.ofNat 0)]] wkH 0 = some (.int 0 (.negSucc 0)) := by kernel_rfl
set_option maxRecDepth 1000000 in
theorem wkF16 : callV Tryz.prog (wkEv.with wkKn1) 42660 18 [.str 4 892219437, .str 3 3485232] wkH 0 = some (.tup [.str 2 12589, .int 0 (.ofNat 0)]) := by kernel_rfl
set_option maxRecDepth 1000000 in
theorem wkF17 : callV Tryz.prog (wkEv.with wkKn2) 4080 48 [.agg [.int 0 (.ofNat 0), .str 3 3485232, .int 0 (.ofNat 2)], .agg [.int 0 (.ofNat 0), .str 4 892219437, .int 0 (.ofNat 0)]] wkH 0 = some (.int 0 (.negSucc 0)) := by kernel_rfl
set_option maxRecDepth 1000000 in
theorem wkF18 : callV Tryz.prog (wkEv.with wkKn1) 41220 18 [.str 1 48, .str 3 3485232] wkH 0 = some (.tup [.str 4 892219437, .int 0 (.ofNat 0)]) := by kernel_rfl
set_option maxRecDepth 1000000 in
theorem wkF19 : callV Tryz.prog (wkEv.with wkKn2) 4080 48 [.agg [.int 0 (.ofNat 0), .str 3 3485232, .int 0 (.ofNat 2)], .agg [.int 0 (.ofNat 0), .str 1 48, .int 0 (.ofNat 1)]] wkH 0 = some (.int 0 (.negSucc 0)) := by kernel_rfl
set_option maxRecDepth 1000000 in
theorem wkF20 : callV Tryz.prog (wkEv.with wkKn2) 4080 48 [.agg [.int 0 (.ofNat 0), .str 1 48, .int 0 (.ofNat 3)], .agg [.int 0 (.ofNat 0), .str 4 892219437, .int 0 (.ofNat 0)]] wkH 0 = some (.int 0 (.negSucc 0)) := by kernel_rfl
end
end Go.Proofs.YtjadcoglgnabpaaGreatDoor
