/- Runs of the abstract machine: values of calls. -/
import Derived.Test.YtlhedmifkfipcaaGreatDoorKkKn
import Derived.KernelRfl
namespace Go.Proofs.YtlhedmifkfipcaaGreatDoor
open Go Go.Abs
noncomputable section
set_option maxRecDepth 1000000 in
theorem kkF0 : callV Tryz.prog kkEv 3850 48 [.str 1 98] kkH 24 = some (.bool true) := by kernel_rfl
set_option maxRecDepth 1000000 in
theorem kkF1 : callV Tryz.prog (kkEv.with kkKn1) 33470 24 [.str 1 98] kkH 24 = some (.tup [.agg [.int 0 (.ofNat 17), .str 0 0, .str 0 0, .int 0 (.ofNat 0), .int 0 (.ofNat 0), .str 0 0, .int 0 (.ofNat 0), .int 0 (.ofNat 1), .str 1 98, .int 0 (.ofNat 0), .int 0 (.ofNat 0), .int 0 (.ofNat 0), .str 0 0, .str 0 0, .slcN, .slcN], .int 0 (.ofNat 0), .int 0 (.ofNat 0)]) := by kernel_rfl
set_option maxRecDepth 1000000 in
theorem kkF2 : callV Tryz.prog kkEv 5580 32 [.str 18 3588320325113521376960794299032118209311528] kkH 24 = some (.bool true) := by kernel_rfl
set_option maxRecDepth 1000000 in
theorem kkF3 : callV Tryz.prog kkEv 3810 48 [.str 1 40] kkH 24 = some (.bool false) := by kernel_rfl
set_option maxRecDepth 1000000 in
theorem kkF4 : callV Tryz.prog kkEv 3850 48 [.str 1 115] kkH 24 = some (.bool true) := by kernel_rfl
set_option maxRecDepth 1000000 in
theorem kkF5 : callV Tryz.prog kkEv 4140 48 [.str 2 29793] kkH 24 = some (.bool true) := by kernel_rfl
set_option maxRecDepth 1000000 in
theorem kkF6 : callV Tryz.prog kkEv 4140 48 [.str 2 29281] kkH 24 = some (.bool true) := by kernel_rfl
set_option maxRecDepth 1000000 in
theorem kkF7 : callV Tryz.prog kkEv 4140 48 [.str 2 26977] kkH 24 = some (.bool true) := by kernel_rfl
set_option maxRecDepth 1000000 in
theorem kkF8 : callV Tryz.prog kkEv 4140 48 [.str 2 28257] kkH 24 = some (.bool true) := by kernel_rfl
set_option maxRecDepth 1000000 in
theorem kkF9 : callV Tryz.prog kkEv 4140 48 [.str 2 26465] kkH 24 = some (.bool true) := by kernel_rfl
set_option maxRecDepth 1000000 in
theorem kkF10 : callV Tryz.prog kkEv 4100 48 [.str 2 10337] kkH 24 = some (.bool false) := by kernel_rfl
set_option maxRecDepth 1000000 in
theorem kkF11 : callV Tryz.prog kkEv 3810 48 [.str 1 46] kkH 24 = some (.bool false) := by kernel_rfl
set_option maxRecDepth 1000000 in
theorem kkF12 : callV Tryz.prog kkEv 3810 48 [.str 1 41] kkH 24 = some (.bool false) := by kernel_rfl
set_option maxRecDepth 1000000 in
theorem kkF13 : callV Tryz.prog kkEv 3810 48 [.str 1 44] kkH 24 = some (.bool false) := by kernel_rfl
set_option maxRecDepth 1000000 in
theorem kkF14 : callV Tryz.prog kkEv 3810 48 [.str 1 64] kkH 24 = some (.bool false) := by kernel_rfl
set_option maxRecDepth 1000000 in
theorem kkF15 : callV Tryz.prog kkEv 3850 48 [.str 1 107] kkH 24 = some (.bool true) := by kernel_rfl
set_option maxRecDepth 1000000 in
theorem kkF16 : callV Tryz.prog kkEv 4100 48 [.str 2 11361] kkH 24 = some (.bool false) := by kernel_rfl
set_option maxRecDepth 1000000 in
theorem kkF17 : callV Tryz.prog kkEv 3650 228 [.str 6 113723913172083] kkH 24 = some (.bool false) := by kernel_rfl
set_option maxRecDepth 1000000 in
theorem kkF18 : callV Tryz.prog kkEv 3440 344 [.str 1 49, .str 2 17765] kkH 24 = some (.bool false) := by kernel_rfl
set_option maxRecDepth 1000000 in
theorem kkF19 : callV Tryz.prog kkEv 3760 295 [.str 1 48, .int 0 (.ofNat 20)] kkH 24 = some (.str 20 275106190556405255191281850864241509582293184560) := by kernel_rfl
set_option maxRecDepth 1000000 in
theorem kkF20 : callV Tryz.prog kkEv 3760 295 [.str 1 48, .int 0 (.ofNat 50)] kkH 24 = some (.str 50 486070565286947499229349491200566941050297561003147955356359408290004258261993636636168537088025944740875891194870116400) := by kernel_rfl
set_option maxRecDepth 1000000 in
theorem kkF21 : callV Tryz.prog kkEv 3850 197 [.str 20 275106190556405255191281850864241509582293184560, .int 1 (.ofNat 48)] kkH 24 = some (.str 0 0) := by kernel_rfl
set_option maxRecDepth 1000000 in
theorem kkF22 : callV Tryz.prog (kkEv.with kkKn1) 17160 106 [.str 1 49] kkH 24 = some (.tup [.str 1 49, .int 0 (.ofNat 0)]) := by kernel_rfl
set_option maxRecDepth 1000000 in
theorem kkF23 : callV Tryz.prog (kkEv.with kkKn1) 4430 49 [.agg [.int 0 (.ofNat 17), .str 0 0, .str 0 0, .int 0 (.ofNat 0), .int 0 (.ofNat 0), .str 0 0, .int 0 (.ofNat 0), .int 0 (.ofNat 1), .str 1 98, .int 0 (.ofNat 0), .int 0 (.ofNat 0), .int 0 (.ofNat 0), .str 0 0, .str 0 0, .slcN, .slcN]] kkH 24 = some (.int 0 (.ofNat 0)) := by kernel_rfl
set_option maxRecDepth 1000000 in
theorem kkF24 : callV Tryz.prog kkEv 3850 48 [.str 1 110] kkH 24 = some (.bool true) := by kernel_rfl
set_option maxRecDepth 1000000 in
theorem kkF25 : callV Tryz.prog kkEv 3900 32 [.str 6 113723913172083] kkH 24 = some (.bool true) := by kernel_rfl
set_option maxRecDepth 1000000 in
theorem kkF26 : callV Tryz.prog kkEv 3720 84 [.str 6 113723913172083] kkH 24 = some (.bool true) := by kernel_rfl
set_option maxRecDepth 1000000 in
theorem kkF27 : callV Tryz.prog (kkEv.with kkKn1) 3700 48 [.str 6 113723913172083] kkH 24 = some (.bool true) := by kernel_rfl
set_option maxRecDepth 1000000 in
theorem kkF28 : callV Tryz.prog (kkEv.with kkKn1) 17450 338 [.str 1 49] kkH 24 = some (.bool true) := by kernel_rfl
set_option maxRecDepth 1000000 in
theorem kkF29 : callV Tryz.prog kkEv 3850 48 [.str 1 97] kkH 24 = some (.bool true) := by kernel_rfl
set_option maxRecDepth 1000000 in
theorem kkF30 : callV Tryz.prog kkEv 3850 48 [.str 1 99] kkH 24 = some (.bool true) := by kernel_rfl
set_option maxRecDepth 1000000 in
theorem kkF31 : callV Tryz.prog kkEv 4010 464 [.str 6 113723913172083, .int 0 (.ofNat 1)] kkH 24 = some (.bool true) := by kernel_rfl
set_option maxRecDepth 1000000 in
theorem kkF32 : callV Tryz.prog (kkEv.with kkKn2) 3600 27 [.agg [.int 0 (.ofNat 3), .str 1 49]] kkH 24 = some (.bool true) := by kernel_rfl
set_option maxRecDepth 1000000 in
theorem kkF33 : callV Tryz.prog kkEv 3850 29 [.agg [.int 0 (.ofNat 0), .str 1 49], .agg [.int 0 (.ofNat 1), .str 1 120]] kkH 24 = some (.bool false) := by kernel_rfl
set_option maxRecDepth 1000000 in
theorem kkF34 : callV Tryz.prog (kkEv.with kkKn3) 3610 29 [.agg [.int 0 (.ofNat 3), .str 1 49], .agg [.int 0 (.ofNat 1), .str 1 120]] kkH 24 = some (.bool false) := by kernel_rfl
set_option maxRecDepth 1000000 in
theorem kkF35 : callV Tryz.prog (kkEv.with kkKn3) 3610 29 [.agg [.int 0 (.ofNat 3), .str 1 49], .agg [.int 0 (.ofNat 0), .str 1 49]] kkH 24 = some (.bool false) := by kernel_rfl
set_option maxRecDepth 1000000 in
theorem kkF36 : callV Tryz.prog kkEv 3850 29 [.agg [.int 0 (.ofNat 0), .str 1 50], .agg [.int 0 (.ofNat 1), .str 1 49]] kkH 24 = some (.bool false) := by kernel_rfl
set_option maxRecDepth 1000000 in
theorem kkF37 : callV Tryz.prog (kkEv.with kkKn3) 3610 29 [.agg [.int 0 (.ofNat 3), .str 1 49], .agg [.int 0 (.ofNat 1), .str 1 49]] kkH 24 = some (.bool false) := by kernel_rfl
set_option maxRecDepth 1000000 in
theorem kkF38 : callV Tryz.prog (kkEv.with kkKn3) 3610 29 [.agg [.int 0 (.ofNat 3), .str 1 49], .agg [.int 0 (.ofNat 0), .str 1 50]] kkH 24 = some (.bool false) := by kernel_rfl
set_option maxRecDepth 1000000 in
theorem kkF39 : callV Tryz.prog kkEv 3900 32 [.str 6 45253729478004] kkH 24 = some (.bool true) := by kernel_rfl
set_option maxRecDepth 1000000 in
theorem kkF40 : callV Tryz.prog kkEv 3850 48 [.str 1 116] kkH 24 = some (.bool true) := by kernel_rfl
set_option maxRecDepth 1000000 in
theorem kkF41 : callV Tryz.prog kkEv 4140 48 [.str 2 25953] kkH 24 = some (.bool true) := by kernel_rfl
set_option maxRecDepth 1000000 in
theorem kkF42 : callV Tryz.prog kkEv 4140 48 [.str 2 30817] kkH 24 = some (.bool true) := by kernel_rfl
end
end Go.Proofs.YtlhedmifkfipcaaGreatDoor
