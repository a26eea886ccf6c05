/- Runs of the abstract machine: values of calls. -/
import Derived.Test.YtlhedmifkfipcaaGreatDoorPkKn
import Derived.KernelRfl
namespace Go.Proofs.YtlhedmifkfipcaaGreatDoor
open Go Go.Abs
noncomputable section
set_option maxRecDepth 1000000 in
theorem pkF85 : callV Tryz.prog (pkEv.with pkKn2) 5974 24 [.str 1 49] pkH 24 = some (.tup [.agg [.int 0 (.ofNat 0), .str 0 0, .str 0 0, .int 0 (.ofNat 0), .int 0 (.ofNat 3), .str 1 49, .int 0 (.ofNat 0), .int 0 (.ofNat 0), .str 0 0, .int 0 (.ofNat 0), .int 0 (.ofNat 0), .int 0 (.ofNat 0), .str 0 0, .str 0 0, .slcN, .slcN], .int 0 (.ofNat 0), .int 0 (.ofNat 0)]) := by kernel_rfl
set_option maxRecDepth 1000000 in
theorem pkF86 : callV Tryz.prog (pkEv.with pkKn3) 1228 15 [.str 4 2105356667] pkH 24 = some (.tup [.slcN, .int 0 (.ofNat 150)]) := by kernel_rfl
set_option maxRecDepth 1000000 in
theorem pkF87 : callV Tryz.prog pkEv 174 32 [.str 4 2100963451] pkH 24 = some (.bool true) := by kernel_rfl
set_option maxRecDepth 1000000 in
theorem pkF88 : callV Tryz.prog (pkEv.with pkKn1) 582 15 [.str 4 2100963451] pkH 24 = some (.tup [.slcN, .int 0 (.ofNat 150)]) := by kernel_rfl
set_option maxRecDepth 1000000 in
theorem pkF89 : callV Tryz.prog pkEv 286 32 [.str 8 9016341833250336123] pkH 24 = some (.bool true) := by kernel_rfl
set_option maxRecDepth 1000000 in
theorem pkF90 : callV Tryz.prog (pkEv.with pkKn1) 2396 15 [.str 8 9016341833250336123] pkH 24 = some (.tup [.slcN, .int 0 (.ofNat 150)]) := by kernel_rfl
set_option maxRecDepth 1000000 in
theorem pkF91 : callV Tryz.prog pkEv 342 32 [.str 10 591056315277325211674747] pkH 24 = some (.bool true) := by kernel_rfl
set_option maxRecDepth 1000000 in
theorem pkF92 : callV Tryz.prog (pkEv.with pkKn1) 1162 15 [.str 10 591056315277325211674747] pkH 24 = some (.tup [.slcN, .int 0 (.ofNat 150)]) := by kernel_rfl
set_option maxRecDepth 1000000 in
theorem pkF93 : callV Tryz.prog pkEv 174 32 [.str 4 2071802235] pkH 24 = some (.bool true) := by kernel_rfl
set_option maxRecDepth 1000000 in
theorem pkF94 : callV Tryz.prog (pkEv.with pkKn3) 1208 15 [.str 4 2071802235] pkH 24 = some (.tup [.slcN, .int 0 (.ofNat 150)]) := by kernel_rfl
set_option maxRecDepth 1000000 in
theorem pkF95 : callV Tryz.prog pkEv 202 32 [.str 5 538517201275] pkH 24 = some (.bool true) := by kernel_rfl
set_option maxRecDepth 1000000 in
theorem pkF96 : callV Tryz.prog pkEv 146 32 [.str 3 6430817] pkH 24 = some (.bool true) := by kernel_rfl
set_option maxRecDepth 1000000 in
theorem pkF97 : callV Tryz.prog pkEv 220 48 [.str 1 98] pkH 24 = some (.bool true) := by kernel_rfl
set_option maxRecDepth 1000000 in
theorem pkF98 : callV Tryz.prog (pkEv.with pkKn1) 6758 24 [.str 3 6430817] pkH 24 = some (.tup [.agg [.int 0 (.ofNat 0), .str 0 0, .str 0 0, .int 0 (.ofNat 0), .int 0 (.ofNat 0), .str 0 0, .int 0 (.ofNat 0), .int 0 (.ofNat 0), .str 0 0, .int 0 (.ofNat 0), .int 0 (.ofNat 0), .int 0 (.ofNat 0), .str 0 0, .str 0 0, .slcN, .slcN], .int 0 (.ofNat 2), .int 0 (.ofNat 150)]) := by kernel_rfl
set_option maxRecDepth 1000000 in
theorem pkF99 : callV Tryz.prog (pkEv.with pkKn2) 1592 15 [.str 5 538517201275] pkH 24 = some (.tup [.slcN, .int 0 (.ofNat 150)]) := by kernel_rfl
set_option maxRecDepth 1000000 in
theorem pkF100 : callV Tryz.prog pkEv 146 49 [.agg [.int 0 (.ofNat 99), .str 0 0, .str 0 0, .int 0 (.ofNat 0), .int 0 (.ofNat 0), .str 0 0, .int 0 (.ofNat 0), .int 0 (.ofNat 0), .str 0 0, .int 0 (.ofNat 0), .int 0 (.ofNat 0), .int 0 (.ofNat 0), .str 0 0, .str 0 0, .slcN, .slcN]] pkH 24 = some (.int 0 (.ofNat 1)) := by kernel_rfl
set_option maxRecDepth 1000000 in
theorem pkF101 : callV Tryz.prog pkEv 288 49 [.agg [.int 0 (.ofNat 23), .str 0 0, .str 0 0, .int 0 (.ofNat 0), .int 0 (.ofNat 0), .str 0 0, .int 0 (.ofNat 0), .int 0 (.ofNat 0), .str 0 0, .int 0 (.ofNat 0), .int 0 (.ofNat 0), .int 0 (.ofNat 0), .str 0 0, .str 0 0, .slcN, .slcN]] pkH 24 = some (.int 0 (.ofNat 0)) := by kernel_rfl
set_option maxRecDepth 1000000 in
theorem pkF102 : callV Tryz.prog pkEv 134 91 [.slcN, .slcN] pkH 24 = some (.int 0 (.ofNat 0)) := by kernel_rfl
set_option maxRecDepth 1000000 in
theorem pkF103 : callV Tryz.prog pkEv 264 49 [.agg [.int 0 (.ofNat 2), .str 0 0, .str 0 0, .int 0 (.ofNat 0), .int 0 (.ofNat 0), .str 0 0, .int 0 (.ofNat 0), .int 0 (.ofNat 0), .str 0 0, .int 0 (.ofNat 0), .int 0 (.ofNat 0), .int 0 (.ofNat 0), .str 0 0, .str 0 0, .slcN, .slcN]] pkH 24 = some (.int 0 (.ofNat 0)) := by kernel_rfl
set_option maxRecDepth 1000000 in
theorem pkF104 : callV Tryz.prog pkEv 286 49 [.agg [.int 0 (.ofNat 3), .str 0 0, .str 0 0, .int 0 (.ofNat 0), .int 0 (.ofNat 0), .str 0 0, .int 0 (.ofNat 0), .int 0 (.ofNat 0), .str 0 0, .int 0 (.ofNat 0), .int 0 (.ofNat 0), .int 0 (.ofNat 0), .str 0 0, .str 0 0, .slcN, .slcN]] pkH 24 = some (.int 0 (.ofNat 0)) := by kernel_rfl
set_option maxRecDepth 1000000 in
theorem pkF105 : callV Tryz.prog (pkEv.with pkKn1) 154 53 [.slcN, .slcN] pkH 24 = some (.tup [.slcN, .int 0 (.ofNat 0)]) := by kernel_rfl
set_option maxRecDepth 1000000 in
theorem pkF106 : callV Tryz.prog pkEv 650 32 [.str 21 67943618126798425643938706482364344974832255597422] pkH 24 = some (.bool true) := by kernel_rfl
set_option maxRecDepth 1000000 in
theorem pkF107 : callV Tryz.prog pkEv 426 32 [.str 13 3264813215904872976342661738792] pkH 24 = some (.bool true) := by kernel_rfl
set_option maxRecDepth 1000000 in
theorem pkF108 : callV Tryz.prog pkEv 212 48 [.str 1 44] pkH 24 = some (.bool false) := by kernel_rfl
set_option maxRecDepth 1000000 in
theorem pkF109 : callV Tryz.prog pkEv 216 457 [.str 3 3485234, .str 2 17765] pkH 24 = some (.int 0 (.negSucc 0)) := by kernel_rfl
set_option maxRecDepth 1000000 in
theorem pkF110 : callV Tryz.prog pkEv 202 295 [.str 1 48, .int 0 (.ofNat 19)] pkH 24 = some (.str 19 1074633556860958028090944729938443396805832752) := by kernel_rfl
set_option maxRecDepth 1000000 in
theorem pkF111 : callV Tryz.prog pkEv 212 197 [.str 20 275106190556405255191281850864241509582293184565, .int 1 (.ofNat 48)] pkH 24 = some (.str 1 53) := by kernel_rfl
set_option maxRecDepth 1000000 in
theorem pkF112 : callV Tryz.prog (pkEv.with pkKn1) 2934 106 [.str 3 3485234] pkH 24 = some (.tup [.str 3 3485234, .int 0 (.ofNat 0)]) := by kernel_rfl
set_option maxRecDepth 1000000 in
theorem pkF113 : callV Tryz.prog pkEv 174 32 [.str 4 540703598] pkH 24 = some (.bool true) := by kernel_rfl
set_option maxRecDepth 1000000 in
theorem pkF114 : callV Tryz.prog (pkEv.with pkKn2) 170 27 [.agg [.int 0 (.ofNat 3), .str 1 49]] pkH 24 = some (.bool true) := by kernel_rfl
end
end Go.Proofs.YtlhedmifkfipcaaGreatDoor
