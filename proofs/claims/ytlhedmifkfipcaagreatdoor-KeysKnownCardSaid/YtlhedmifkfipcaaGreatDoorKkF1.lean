/- Runs of the abstract machine: values of calls. -/
import Derived.Test.YtlhedmifkfipcaaGreatDoorKkKn
import Derived.KernelRfl
namespace Go.Proofs.YtlhedmifkfipcaaGreatDoor
open Go Go.Abs
noncomputable section
set_option maxRecDepth 1000000 in
theorem kkF43 : callV Tryz.prog (kkEv.with kkKn1) 49140 24 [.str 6 45253729478004] kkH 24 = some (.tup [.agg [.int 0 (.ofNat 17), .str 0 0, .str 0 0, .int 0 (.ofNat 0), .int 0 (.ofNat 0), .str 0 0, .int 0 (.ofNat 0), .int 0 (.ofNat 3), .str 0 0, .int 0 (.ofNat 0), .int 0 (.ofNat 0), .int 0 (.ofNat 0), .str 0 0, .str 0 0, .slcN, .slcN], .int 0 (.ofNat 0), .int 0 (.ofNat 0)]) := by kernel_rfl
set_option maxRecDepth 1000000 in
theorem kkF44 : callV Tryz.prog kkEv 4320 32 [.str 9 759642541126673331566] kkH 24 = some (.bool true) := by kernel_rfl
set_option maxRecDepth 1000000 in
theorem kkF45 : callV Tryz.prog kkEv 4140 48 [.str 2 30049] kkH 24 = some (.bool true) := by kernel_rfl
set_option maxRecDepth 1000000 in
theorem kkF46 : callV Tryz.prog kkEv 4140 48 [.str 2 28001] kkH 24 = some (.bool true) := by kernel_rfl
set_option maxRecDepth 1000000 in
theorem kkF47 : callV Tryz.prog kkEv 4140 48 [.str 2 25185] kkH 24 = some (.bool true) := by kernel_rfl
set_option maxRecDepth 1000000 in
theorem kkF48 : callV Tryz.prog kkEv 3650 228 [.str 6 125779768604014] kkH 24 = some (.bool false) := by kernel_rfl
set_option maxRecDepth 1000000 in
theorem kkF49 : callV Tryz.prog kkEv 4430 49 [.agg [.int 0 (.ofNat 17), .str 0 0, .str 0 0, .int 0 (.ofNat 0), .int 0 (.ofNat 0), .str 0 0, .int 0 (.ofNat 0), .int 0 (.ofNat 3), .str 0 0, .int 0 (.ofNat 0), .int 0 (.ofNat 0), .int 0 (.ofNat 0), .str 0 0, .str 0 0, .slcN, .slcN]] kkH 24 = some (.int 0 (.ofNat 0)) := by kernel_rfl
set_option maxRecDepth 1000000 in
theorem kkF50 : callV Tryz.prog kkEv 3900 32 [.str 6 125779768604014] kkH 24 = some (.bool true) := by kernel_rfl
set_option maxRecDepth 1000000 in
theorem kkF51 : callV Tryz.prog kkEv 3720 84 [.str 6 125779768604014] kkH 24 = some (.bool true) := by kernel_rfl
set_option maxRecDepth 1000000 in
theorem kkF52 : callV Tryz.prog (kkEv.with kkKn1) 3700 48 [.str 6 125779768604014] kkH 24 = some (.bool true) := by kernel_rfl
set_option maxRecDepth 1000000 in
theorem kkF53 : callV Tryz.prog kkEv 3430 635 [.str 8 3544177211532473710] kkH 24 = some (.agg [.str 0 0, .fnN]) := by kernel_rfl
set_option maxRecDepth 1000000 in
theorem kkF54 : callV Tryz.prog (kkEv.with kkKn1) 4350 464 [.str 6 125779768604014, .int 0 (.ofNat 1)] kkH 24 = some (.bool true) := by kernel_rfl
set_option maxRecDepth 1000000 in
theorem kkF55 : callV Tryz.prog kkEv 3770 286 [.str 1 120, .str 4 168626464] kkH 24 = some (.str 1 120) := by kernel_rfl
set_option maxRecDepth 1000000 in
theorem kkF56 : callV Tryz.prog kkEv 4110 108 [.str 1 120] kkH 24 = some (.tup [.flt .f64 0, .bool false]) := by kernel_rfl
set_option maxRecDepth 1000000 in
theorem kkF57 : callV Tryz.prog (kkEv.with kkKn1) 3760 491 [.agg [.int 0 (.ofNat 0), .str 1 120], .int 0 (.ofNat 5)] kkH 24 = some (.tup [.str 1 48, .bool false]) := by kernel_rfl
set_option maxRecDepth 1000000 in
theorem kkF58 : callV Tryz.prog (kkEv.with kkKn2) 3430 375 [.agg [.int 0 (.ofNat 0), .str 1 120], .int 0 (.ofNat 5)] kkH 24 = some (.tup [.agg [.int 0 (.ofNat 0), .str 0 0], .int 0 (.ofNat 80)]) := by kernel_rfl
set_option maxRecDepth 1000000 in
theorem kkF59 : callV Tryz.prog kkEv 3740 108 [.str 3 5136718] kkH 24 = some (.tup [.flt .f64 9221120237041090561, .bool true]) := by kernel_rfl
set_option maxRecDepth 1000000 in
theorem kkF60 : callV Tryz.prog kkEv 3770 286 [.str 1 49, .str 4 168626464] kkH 24 = some (.str 1 49) := by kernel_rfl
set_option maxRecDepth 1000000 in
theorem kkF61 : callV Tryz.prog kkEv 3410 176 [.str 1 49] kkH 24 = some (.bool true) := by kernel_rfl
set_option maxRecDepth 1000000 in
theorem kkF62 : callV Tryz.prog kkEv 4140 607 [.str 5 212151119408] kkH 24 = some (.tup [.int 3 (.ofNat 1), .int 0 (.ofNat 0), .bool false, .bool false, .bool false, .int 0 (.ofNat 5), .bool true]) := by kernel_rfl
set_option maxRecDepth 1000000 in
theorem kkF63 : callV Tryz.prog (kkEv.with kkKn1) 3630 518 [.str 5 212151119408] kkH 24 = some (.tup [.flt .f64 4607182418800017408, .int 0 (.ofNat 5), .ifcN]) := by kernel_rfl
set_option maxRecDepth 1000000 in
theorem kkF64 : callV Tryz.prog (kkEv.with kkKn2) 5190 177 [.str 1 49] kkH 24 = some (.flt .f64 4607182418800017408) := by kernel_rfl
set_option maxRecDepth 1000000 in
theorem kkF65 : callV Tryz.prog (kkEv.with kkKn3) 3810 108 [.str 1 49] kkH 24 = some (.tup [.flt .f64 4607182418800017408, .bool true]) := by kernel_rfl
set_option maxRecDepth 1000000 in
theorem kkF66 : callV Tryz.prog kkEv 4060 443 [.int 3 (.ofNat 9223372036854775808), .int 0 (.negSucc 62)] kkH 24 = some (.tup [.int 3 (.ofNat 1000000000000000), .int 0 (.negSucc 14)]) := by kernel_rfl
set_option maxRecDepth 1000000 in
theorem kkF67 : callV Tryz.prog (kkEv.with kkKn1) 7000 201 [.flt .f64 4607182418800017408, .int 1 (.ofNat 102), .int 0 (.negSucc 0), .int 0 (.ofNat 64)] kkH 24 = some (.str 1 49) := by kernel_rfl
set_option maxRecDepth 1000000 in
theorem kkF68 : callV Tryz.prog (kkEv.with kkKn4) 3850 491 [.agg [.int 0 (.ofNat 0), .str 1 49], .int 0 (.ofNat 5)] kkH 24 = some (.tup [.str 1 49, .bool true]) := by kernel_rfl
set_option maxRecDepth 1000000 in
theorem kkF69 : callV Tryz.prog (kkEv.with kkKn5) 3440 375 [.agg [.int 0 (.ofNat 0), .str 1 49], .int 0 (.ofNat 5)] kkH 24 = some (.tup [.agg [.int 0 (.ofNat 5), .str 1 49], .int 0 (.ofNat 0)]) := by kernel_rfl
set_option maxRecDepth 1000000 in
theorem kkF70 : callV Tryz.prog (kkEv.with kkKn4) 3680 27 [.agg [.int 0 (.ofNat 5), .str 1 49]] kkH 24 = some (.bool true) := by kernel_rfl
set_option maxRecDepth 1000000 in
theorem kkF71 : callV Tryz.prog kkEv 3810 48 [.str 1 36] kkH 24 = some (.bool false) := by kernel_rfl
set_option maxRecDepth 1000000 in
theorem kkF72 : callV Tryz.prog kkEv 3850 48 [.str 1 120] kkH 24 = some (.bool true) := by kernel_rfl
set_option maxRecDepth 1000000 in
theorem kkF73 : callV Tryz.prog (kkEv.with kkKn1) 46940 24 [.str 2 30756] kkH 24 = some (.tup [.agg [.int 0 (.ofNat 1), .str 0 0, .str 1 120, .int 0 (.ofNat 0), .int 0 (.ofNat 0), .str 0 0, .int 0 (.ofNat 0), .int 0 (.ofNat 0), .str 0 0, .int 0 (.ofNat 0), .int 0 (.ofNat 0), .int 0 (.ofNat 0), .str 0 0, .str 0 0, .slcN, .slcN], .int 0 (.ofNat 0), .int 0 (.ofNat 0)]) := by kernel_rfl
set_option maxRecDepth 1000000 in
theorem kkF74 : callV Tryz.prog (kkEv.with kkKn1) 3830 49 [.agg [.int 0 (.ofNat 1), .str 0 0, .str 1 120, .int 0 (.ofNat 0), .int 0 (.ofNat 0), .str 0 0, .int 0 (.ofNat 0), .int 0 (.ofNat 0), .str 0 0, .int 0 (.ofNat 0), .int 0 (.ofNat 0), .int 0 (.ofNat 0), .str 0 0, .str 0 0, .slcN, .slcN]] kkH 24 = some (.int 0 (.ofNat 0)) := by kernel_rfl
end
end Go.Proofs.YtlhedmifkfipcaaGreatDoor
