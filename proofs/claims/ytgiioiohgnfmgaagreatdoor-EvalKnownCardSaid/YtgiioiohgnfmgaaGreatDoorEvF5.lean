/- Runs of the abstract machine: values of calls. -/
import Derived.Test.YtgiioiohgnfmgaaGreatDoorEvKn
import Derived.KernelRfl
namespace Go.Proofs.YtgiioiohgnfmgaaGreatDoor
open Go Go.Abs
noncomputable section
set_option maxRecDepth 1000000 in
theorem evF60 : callV Tryz.prog (evEv.with evKn1) 2882 221 [.str 1 54] evH 2 = some (.tup [.str 1 54, .int 0 (.ofNat 0)]) := by kernel_rfl
set_option maxRecDepth 1000000 in
theorem evF61 : callV Tryz.prog (evEv.with evKn2) 170 92 [.agg [.int 0 (.ofNat 3), .str 1 54]] evH 2 = some (.bool true) := by kernel_rfl
set_option maxRecDepth 1000000 in
theorem evF62 : callV Tryz.prog (evEv.with evKn1) 7906 341 [.str 1 49, .str 1 54] evH 2 = some (.tup [.str 1 55, .int 0 (.ofNat 0)]) := by kernel_rfl
set_option maxRecDepth 1000000 in
theorem evF63 : callV Tryz.prog (evEv.with evKn3) 224 472 [.str 1 43, .agg [.int 0 (.ofNat 3), .str 1 49], .agg [.int 0 (.ofNat 3), .str 1 54]] evH 2 = some (.tup [.agg [.int 0 (.ofNat 3), .str 1 55], .int 0 (.ofNat 0)]) := by kernel_rfl
set_option maxRecDepth 1000000 in
theorem evF64 : callV Tryz.prog evEv 220 47 [.str 1 102] evH 2 = some (.bool true) := by kernel_rfl
set_option maxRecDepth 1000000 in
theorem evF65 : callV Tryz.prog evEv 220 47 [.str 1 105] evH 2 = some (.bool true) := by kernel_rfl
set_option maxRecDepth 1000000 in
theorem evF66 : callV Tryz.prog (evEv.with evKn3) 224 472 [.str 1 43, .agg [.int 0 (.ofNat 3), .str 1 49], .agg [.int 0 (.ofNat 3), .str 1 49]] evH 2 = some (.tup [.agg [.int 0 (.ofNat 3), .str 1 50], .int 0 (.ofNat 0)]) := by kernel_rfl
set_option maxRecDepth 1000000 in
theorem evF67 : callV Tryz.prog evEv 264 23 [.agg [.int 0 (.ofNat 2), .str 0 0, .str 0 0, .int 0 (.ofNat 0), .int 0 (.ofNat 0), .str 0 0, .int 0 (.ofNat 0), .int 0 (.ofNat 0), .str 0 0, .int 0 (.ofNat 0), .int 0 (.ofNat 0), .int 0 (.ofNat 0), .str 0 0, .str 0 0, .slcN, .slcN]] evH 2 = some (.int 0 (.ofNat 0)) := by kernel_rfl
set_option maxRecDepth 1000000 in
theorem evF68 : callV Tryz.prog (evEv.with evKn4) 11894 13 [] evH 2 = some (.bool true) := by kernel_rfl
end
end Go.Proofs.YtgiioiohgnfmgaaGreatDoor
