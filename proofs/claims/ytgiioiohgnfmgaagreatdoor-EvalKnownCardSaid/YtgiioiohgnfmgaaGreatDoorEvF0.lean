/- Runs of the abstract machine: values of calls. -/
import Derived.Test.YtgiioiohgnfmgaaGreatDoorEvKn
import Derived.KernelRfl
namespace Go.Proofs.YtgiioiohgnfmgaaGreatDoor
open Go Go.Abs
noncomputable section
set_option maxRecDepth 1000000 in
theorem evF0 : callV Tryz.prog evEv 146 23 [.agg [.int 0 (.ofNat 99), .str 0 0, .str 0 0, .int 0 (.ofNat 0), .int 0 (.ofNat 0), .str 0 0, .int 0 (.ofNat 0), .int 0 (.ofNat 0), .str 0 0, .int 0 (.ofNat 0), .int 0 (.ofNat 0), .int 0 (.ofNat 0), .str 0 0, .str 0 0, .slcN, .slcN]] evH 2 = some (.int 0 (.ofNat 1)) := by kernel_rfl
set_option maxRecDepth 1000000 in
theorem evF1 : callV Tryz.prog evEv 202 446 [.str 1 48, .int 0 (.ofNat 20)] evH 2 = some (.str 20 275106190556405255191281850864241509582293184560) := by kernel_rfl
set_option maxRecDepth 1000000 in
theorem evF2 : callV Tryz.prog evEv 202 446 [.str 1 48, .int 0 (.ofNat 50)] evH 2 = some (.str 50 486070565286947499229349491200566941050297561003147955356359408290004258261993636636168537088025944740875891194870116400) := by kernel_rfl
set_option maxRecDepth 1000000 in
theorem evF3 : callV Tryz.prog evEv 220 492 [.str 20 275106190556405255191281850864241509582293184560, .int 1 (.ofNat 48)] evH 2 = some (.str 0 0) := by kernel_rfl
set_option maxRecDepth 1000000 in
theorem evF4 : callV Tryz.prog (evEv.with evKn1) 2882 221 [.str 1 49] evH 2 = some (.tup [.str 1 49, .int 0 (.ofNat 0)]) := by kernel_rfl
set_option maxRecDepth 1000000 in
theorem evF5 : callV Tryz.prog (evEv.with evKn1) 2940 222 [.str 1 49] evH 2 = some (.bool true) := by kernel_rfl
set_option maxRecDepth 1000000 in
theorem evF6 : callV Tryz.prog (evEv.with evKn2) 232 23 [.agg [.int 0 (.ofNat 0), .str 0 0, .str 0 0, .int 0 (.ofNat 0), .int 0 (.ofNat 3), .str 1 49, .int 0 (.ofNat 0), .int 0 (.ofNat 0), .str 0 0, .int 0 (.ofNat 0), .int 0 (.ofNat 0), .int 0 (.ofNat 0), .str 0 0, .str 0 0, .slcN, .slcN]] evH 2 = some (.int 0 (.ofNat 0)) := by kernel_rfl
set_option maxRecDepth 1000000 in
theorem evF7 : callV Tryz.prog evEv 220 47 [.str 1 118] evH 2 = some (.bool true) := by kernel_rfl
set_option maxRecDepth 1000000 in
theorem evF8 : callV Tryz.prog (evEv.with evKn1) 216 23 [.agg [.int 0 (.ofNat 1), .str 0 0, .str 1 118, .int 0 (.ofNat 0), .int 0 (.ofNat 0), .str 0 0, .int 0 (.ofNat 0), .int 0 (.ofNat 0), .str 0 0, .int 0 (.ofNat 0), .int 0 (.ofNat 0), .int 0 (.ofNat 0), .str 0 0, .str 0 0, .slcN, .slcN]] evH 2 = some (.int 0 (.ofNat 0)) := by kernel_rfl
set_option maxRecDepth 1000000 in
theorem evF9 : callV Tryz.prog evEv 134 27 [.slcN, .slcN] evH 2 = some (.int 0 (.ofNat 0)) := by kernel_rfl
set_option maxRecDepth 1000000 in
theorem evF10 : callV Tryz.prog (evEv.with evKn2) 170 92 [.agg [.int 0 (.ofNat 3), .str 1 49]] evH 2 = some (.bool true) := by kernel_rfl
set_option maxRecDepth 1000000 in
theorem evF11 : callV Tryz.prog (evEv.with evKn1) 2882 221 [.str 1 52] evH 2 = some (.tup [.str 1 52, .int 0 (.ofNat 0)]) := by kernel_rfl
set_option maxRecDepth 1000000 in
theorem evF12 : callV Tryz.prog (evEv.with evKn1) 2940 222 [.str 1 52] evH 2 = some (.bool true) := by kernel_rfl
set_option maxRecDepth 1000000 in
theorem evF13 : callV Tryz.prog (evEv.with evKn1) 2882 221 [.str 1 53] evH 2 = some (.tup [.str 1 53, .int 0 (.ofNat 0)]) := by kernel_rfl
set_option maxRecDepth 1000000 in
theorem evF14 : callV Tryz.prog (evEv.with evKn1) 2940 222 [.str 1 53] evH 2 = some (.bool true) := by kernel_rfl
set_option maxRecDepth 1000000 in
theorem evF15 : callV Tryz.prog (evEv.with evKn1) 2882 221 [.str 1 50] evH 2 = some (.tup [.str 1 50, .int 0 (.ofNat 0)]) := by kernel_rfl
set_option maxRecDepth 1000000 in
theorem evF16 : callV Tryz.prog (evEv.with evKn1) 2940 222 [.str 1 50] evH 2 = some (.bool true) := by kernel_rfl
set_option maxRecDepth 1000000 in
theorem evF17 : callV Tryz.prog (evEv.with evKn2) 170 92 [.agg [.int 0 (.ofNat 3), .str 1 50]] evH 2 = some (.bool true) := by kernel_rfl
set_option maxRecDepth 1000000 in
theorem evF18 : callV Tryz.prog (evEv.with evKn1) 2882 221 [.str 1 51] evH 2 = some (.tup [.str 1 51, .int 0 (.ofNat 0)]) := by kernel_rfl
set_option maxRecDepth 1000000 in
theorem evF19 : callV Tryz.prog (evEv.with evKn1) 2940 222 [.str 1 51] evH 2 = some (.bool true) := by kernel_rfl
set_option maxRecDepth 1000000 in
theorem evF20 : callV Tryz.prog (evEv.with evKn2) 170 92 [.agg [.int 0 (.ofNat 3), .str 1 51]] evH 2 = some (.bool true) := by kernel_rfl
set_option maxRecDepth 1000000 in
theorem evF21 : callV Tryz.prog evEv 174 84 [.str 4 1953656691] evH 2 = some (.bool true) := by kernel_rfl
set_option maxRecDepth 1000000 in
theorem evF22 : callV Tryz.prog evEv 150 87 [.str 4 1953656691] evH 2 = some (.bool true) := by kernel_rfl
set_option maxRecDepth 1000000 in
theorem evF23 : callV Tryz.prog (evEv.with evKn1) 174 47 [.str 4 1953656691] evH 2 = some (.bool true) := by kernel_rfl
set_option maxRecDepth 1000000 in
theorem evF24 : callV Tryz.prog evEv 180 136 [.str 4 1953656691] evH 2 = some (.bool false) := by kernel_rfl
set_option maxRecDepth 1000000 in
theorem evF25 : callV Tryz.prog evEv 136 381 [.str 6 54079886880627] evH 2 = some (.agg [.str 0 0, .fnN]) := by kernel_rfl
set_option maxRecDepth 1000000 in
theorem evF26 : callV Tryz.prog (evEv.with evKn1) 576 272 [.str 4 1953656691, .int 0 (.ofNat 1)] evH 2 = some (.tup [.agg [.str 0 0, .fnN], .bool false]) := by kernel_rfl
set_option maxRecDepth 1000000 in
theorem evF27 : callV Tryz.prog (evEv.with evKn2) 136 273 [.str 4 1953656691, .int 0 (.ofNat 1)] evH 2 = some (.bool true) := by kernel_rfl
end
end Go.Proofs.YtgiioiohgnfmgaaGreatDoor
