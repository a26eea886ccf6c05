/- Runs of the abstract machine: values of calls. -/
import Derived.Test.YtgiioiohgnfmgaaGreatDoorEvKn
import Derived.KernelRfl
namespace Go.Proofs.YtgiioiohgnfmgaaGreatDoor
open Go Go.Abs
noncomputable section
set_option maxRecDepth 1000000 in
theorem evF28 : callV Tryz.prog (evEv.with evKn1) 7990 373 [.str 1 49, .str 1 51] evH 2 = some (.tup [.str 2 12845, .int 0 (.ofNat 0)]) := by kernel_rfl
set_option maxRecDepth 1000000 in
theorem evF29 : callV Tryz.prog (evEv.with evKn2) 142 362 [.agg [.int 0 (.ofNat 3), .str 1 49], .agg [.int 0 (.ofNat 3), .str 1 51]] evH 2 = some (.tup [.int 0 (.negSucc 0), .bool false, .int 0 (.ofNat 0)]) := by kernel_rfl
set_option maxRecDepth 1000000 in
theorem evF30 : callV Tryz.prog (evEv.with evKn3) 138 254 [.str 2 29804, .agg [.int 0 (.ofNat 3), .str 1 49], .agg [.int 0 (.ofNat 3), .str 1 51]] evH 2 = some (.tup [.bool true, .int 0 (.ofNat 0)]) := by kernel_rfl
set_option maxRecDepth 1000000 in
theorem evF31 : callV Tryz.prog (evEv.with evKn1) 7990 373 [.str 1 50, .str 1 51] evH 2 = some (.tup [.str 2 12589, .int 0 (.ofNat 0)]) := by kernel_rfl
set_option maxRecDepth 1000000 in
theorem evF32 : callV Tryz.prog (evEv.with evKn2) 142 362 [.agg [.int 0 (.ofNat 3), .str 1 50], .agg [.int 0 (.ofNat 3), .str 1 51]] evH 2 = some (.tup [.int 0 (.negSucc 0), .bool false, .int 0 (.ofNat 0)]) := by kernel_rfl
set_option maxRecDepth 1000000 in
theorem evF33 : callV Tryz.prog (evEv.with evKn3) 138 254 [.str 2 29804, .agg [.int 0 (.ofNat 3), .str 1 50], .agg [.int 0 (.ofNat 3), .str 1 51]] evH 2 = some (.tup [.bool true, .int 0 (.ofNat 0)]) := by kernel_rfl
set_option maxRecDepth 1000000 in
theorem evF34 : callV Tryz.prog (evEv.with evKn1) 7988 373 [.str 1 50, .str 1 49] evH 2 = some (.tup [.str 1 49, .int 0 (.ofNat 0)]) := by kernel_rfl
set_option maxRecDepth 1000000 in
theorem evF35 : callV Tryz.prog (evEv.with evKn2) 146 362 [.agg [.int 0 (.ofNat 3), .str 1 50], .agg [.int 0 (.ofNat 3), .str 1 49]] evH 2 = some (.tup [.int 0 (.ofNat 1), .bool false, .int 0 (.ofNat 0)]) := by kernel_rfl
set_option maxRecDepth 1000000 in
theorem evF36 : callV Tryz.prog (evEv.with evKn3) 138 254 [.str 2 29804, .agg [.int 0 (.ofNat 3), .str 1 50], .agg [.int 0 (.ofNat 3), .str 1 49]] evH 2 = some (.tup [.bool false, .int 0 (.ofNat 0)]) := by kernel_rfl
set_option maxRecDepth 1000000 in
theorem evF37 : callV Tryz.prog (evEv.with evKn3) 166 254 [.str 2 29799, .agg [.int 0 (.ofNat 3), .str 1 50], .agg [.int 0 (.ofNat 3), .str 1 49]] evH 2 = some (.tup [.bool true, .int 0 (.ofNat 0)]) := by kernel_rfl
set_option maxRecDepth 1000000 in
theorem evF38 : callV Tryz.prog evEv 174 84 [.str 4 1953718636] evH 2 = some (.bool true) := by kernel_rfl
set_option maxRecDepth 1000000 in
theorem evF39 : callV Tryz.prog evEv 150 87 [.str 4 1953718636] evH 2 = some (.bool true) := by kernel_rfl
set_option maxRecDepth 1000000 in
theorem evF40 : callV Tryz.prog (evEv.with evKn1) 174 47 [.str 4 1953718636] evH 2 = some (.bool true) := by kernel_rfl
set_option maxRecDepth 1000000 in
theorem evF41 : callV Tryz.prog evEv 180 136 [.str 4 1953718636] evH 2 = some (.bool false) := by kernel_rfl
set_option maxRecDepth 1000000 in
theorem evF42 : callV Tryz.prog (evEv.with evKn1) 7988 373 [.str 1 51, .str 1 49] evH 2 = some (.tup [.str 1 50, .int 0 (.ofNat 0)]) := by kernel_rfl
end
end Go.Proofs.YtgiioiohgnfmgaaGreatDoor
