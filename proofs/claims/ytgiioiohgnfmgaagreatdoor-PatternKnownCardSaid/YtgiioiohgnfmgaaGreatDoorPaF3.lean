/- Runs of the abstract machine: values of calls. -/
import Derived.Test.YtgiioiohgnfmgaaGreatDoorPaKn
import Derived.KernelRfl
namespace Go.Proofs.YtgiioiohgnfmgaaGreatDoor
open Go Go.Abs
noncomputable section
set_option maxRecDepth 1000000 in
theorem paF49 : callV Tryz.prog (paEv.with paKn4) 34510 15 [.str 4 1563515746] paH 24 = some (.str 1 51) := by kernel_rfl
set_option maxRecDepth 1000000 in
theorem paF50 : callV Tryz.prog paEv 454 84 [.str 14 1889525185595141078815714046794594] paH 24 = some (.bool true) := by kernel_rfl
set_option maxRecDepth 1000000 in
theorem paF51 : callV Tryz.prog paEv 278 47 [.str 2 29793] paH 24 = some (.bool true) := by kernel_rfl
set_option maxRecDepth 1000000 in
theorem paF52 : callV Tryz.prog paEv 220 47 [.str 1 116] paH 24 = some (.bool true) := by kernel_rfl
set_option maxRecDepth 1000000 in
theorem paF53 : callV Tryz.prog paEv 278 47 [.str 2 30817] paH 24 = some (.bool true) := by kernel_rfl
set_option maxRecDepth 1000000 in
theorem paF54 : callV Tryz.prog paEv 180 136 [.str 3 7630702] paH 24 = some (.bool false) := by kernel_rfl
set_option maxRecDepth 1000000 in
theorem paF55 : callV Tryz.prog paEv 146 84 [.str 3 7630702] paH 24 = some (.bool true) := by kernel_rfl
set_option maxRecDepth 1000000 in
theorem paF56 : callV Tryz.prog (paEv.with paKn1) 242 47 [.str 3 7630702] paH 24 = some (.bool true) := by kernel_rfl
end
end Go.Proofs.YtgiioiohgnfmgaaGreatDoor
