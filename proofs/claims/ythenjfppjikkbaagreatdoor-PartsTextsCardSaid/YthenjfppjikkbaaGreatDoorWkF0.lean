/- Runs of the abstract machine: values of calls. -/
import Derived.Test.YthenjfppjikkbaaGreatDoorWkKn
import Derived.KernelRfl
namespace Go.Proofs.YthenjfppjikkbaaGreatDoor
open Go Go.Abs
noncomputable section
set_option maxRecDepth 1000000 in
theorem wkF0 : callV Tryz.prog wkEv 6000 7 [.str 21 67943618126798425643938706482364344974832255597422] wkH 4 = some (.bool true) := by kernel_rfl
set_option maxRecDepth 1000000 in
theorem wkF1 : callV Tryz.prog wkEv 4880 7 [.str 13 3264813215904872976342661738792] wkH 4 = some (.bool true) := by kernel_rfl
set_option maxRecDepth 1000000 in
theorem wkF2 : callV Tryz.prog wkEv 3810 71 [.str 1 40] wkH 4 = some (.bool false) := by kernel_rfl
set_option maxRecDepth 1000000 in
theorem wkF3 : callV Tryz.prog wkEv 3810 71 [.str 1 44] wkH 4 = some (.bool false) := by kernel_rfl
set_option maxRecDepth 1000000 in
theorem wkF4 : callV Tryz.prog wkEv 3810 71 [.str 1 41] wkH 4 = some (.bool false) := by kernel_rfl
set_option maxRecDepth 1000000 in
theorem wkF5 : callV Tryz.prog wkEv 3440 171 [.str 1 49, .str 2 17765] wkH 4 = some (.bool false) := by kernel_rfl
set_option maxRecDepth 1000000 in
theorem wkF6 : callV Tryz.prog wkEv 3760 447 [.str 1 48, .int 0 (.ofNat 20)] wkH 4 = some (.str 20 275106190556405255191281850864241509582293184560) := by kernel_rfl
set_option maxRecDepth 1000000 in
theorem wkF7 : callV Tryz.prog wkEv 3760 447 [.str 1 48, .int 0 (.ofNat 50)] wkH 4 = some (.str 50 486070565286947499229349491200566941050297561003147955356359408290004258261993636636168537088025944740875891194870116400) := by kernel_rfl
set_option maxRecDepth 1000000 in
theorem wkF8 : callV Tryz.prog wkEv 3850 522 [.str 20 275106190556405255191281850864241509582293184560, .int 1 (.ofNat 48)] wkH 4 = some (.str 0 0) := by kernel_rfl
set_option maxRecDepth 1000000 in
theorem wkF9 : callV Tryz.prog (wkEv.with wkKn1) 17160 217 [.str 1 49] wkH 4 = some (.tup [.str 1 49, .int 0 (.ofNat 0)]) := by kernel_rfl
set_option maxRecDepth 1000000 in
theorem wkF10 : callV Tryz.prog wkEv 3830 247 [.str 3 3485234, .str 2 17765] wkH 4 = some (.int 0 (.negSucc 0)) := by kernel_rfl
set_option maxRecDepth 1000000 in
theorem wkF11 : callV Tryz.prog wkEv 3760 447 [.str 1 48, .int 0 (.ofNat 19)] wkH 4 = some (.str 19 1074633556860958028090944729938443396805832752) := by kernel_rfl
set_option maxRecDepth 1000000 in
theorem wkF12 : callV Tryz.prog wkEv 3810 522 [.str 20 275106190556405255191281850864241509582293184565, .int 1 (.ofNat 48)] wkH 4 = some (.str 1 53) := by kernel_rfl
set_option maxRecDepth 1000000 in
theorem wkF13 : callV Tryz.prog (wkEv.with wkKn1) 17420 217 [.str 3 3485234] wkH 4 = some (.tup [.str 3 3485234, .int 0 (.ofNat 0)]) := by kernel_rfl
set_option maxRecDepth 1000000 in
theorem wkF14 : callV Tryz.prog wkEv 3620 7 [.str 4 540703598] wkH 4 = some (.bool true) := by kernel_rfl
set_option maxRecDepth 1000000 in
theorem wkF15 : callV Tryz.prog (wkEv.with wkKn1) 17450 218 [.str 1 49] wkH 4 = some (.bool true) := by kernel_rfl
set_option maxRecDepth 1000000 in
theorem wkF16 : callV Tryz.prog wkEv 3420 49 [.slcN, .slcN] wkH 4 = some (.int 0 (.ofNat 0)) := by kernel_rfl
set_option maxRecDepth 1000000 in
theorem wkF17 : callV Tryz.prog (wkEv.with wkKn2) 3600 122 [.agg [.int 0 (.ofNat 3), .str 1 49]] wkH 4 = some (.bool true) := by kernel_rfl
set_option maxRecDepth 1000000 in
theorem wkF18 : callV Tryz.prog wkEv 6280 5 [.str 2 32097] wkH 4 = some (.tup [.slcN, .int 0 (.ofNat 150)]) := by kernel_rfl
end
end Go.Proofs.YthenjfppjikkbaaGreatDoor
