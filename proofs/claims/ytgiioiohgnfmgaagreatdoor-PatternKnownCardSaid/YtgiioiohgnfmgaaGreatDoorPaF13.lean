/- Runs of the abstract machine: values of calls. -/
import Derived.Test.YtgiioiohgnfmgaaGreatDoorPaKn
import Derived.KernelRfl
namespace Go.Proofs.YtgiioiohgnfmgaaGreatDoor
open Go Go.Abs
noncomputable section
set_option maxRecDepth 1000000 in
theorem paF122 : callV Tryz.prog (paEv.with paKn2) 27740 15 [.str 12 12737792450891554902322716769] paH 24 = some (.str 2 13361) := by kernel_rfl
end
end Go.Proofs.YtgiioiohgnfmgaaGreatDoor
