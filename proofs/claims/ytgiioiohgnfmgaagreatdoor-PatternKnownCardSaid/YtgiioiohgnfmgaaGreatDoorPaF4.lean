/- Runs of the abstract machine: values of calls. -/
import Derived.Test.YtgiioiohgnfmgaaGreatDoorPaKn
import Derived.KernelRfl
namespace Go.Proofs.YtgiioiohgnfmgaaGreatDoor
open Go Go.Abs
noncomputable section
set_option maxRecDepth 1000000 in
theorem paF57 : callV Tryz.prog paEv 212 182 [.str 3 7630702, .int 0 (.ofNat 1)] paH 24 = some (.bool true) := by kernel_rfl
set_option maxRecDepth 1000000 in
theorem paF58 : callV Tryz.prog paEv 146 168 [.slcN] paH 24 = some (.tup [.slcN, .int 0 (.ofNat 0)]) := by kernel_rfl
set_option maxRecDepth 1000000 in
theorem paF60 : callV Tryz.prog (paEv.with paKn1) 14956 15 [.str 2 25135] paH 24 = some (.str 0 0) := by kernel_rfl
set_option maxRecDepth 1000000 in
theorem paF61 : callV Tryz.prog paEv 146 84 [.str 3 6434607] paH 24 = some (.bool true) := by kernel_rfl
set_option maxRecDepth 1000000 in
theorem paF62 : callV Tryz.prog (paEv.with paKn1) 17062 15 [.str 3 6434607] paH 24 = some (.str 2 13619) := by kernel_rfl
set_option maxRecDepth 1000000 in
theorem paF63 : callV Tryz.prog paEv 314 84 [.str 9 759231594258043449185] paH 24 = some (.bool true) := by kernel_rfl
end
end Go.Proofs.YtgiioiohgnfmgaaGreatDoor
