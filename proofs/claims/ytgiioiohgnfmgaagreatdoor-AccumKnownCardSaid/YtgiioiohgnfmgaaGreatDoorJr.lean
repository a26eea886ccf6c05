/- Maps and their rows. -/
import Derived.Test.YtgiioiohgnfmgaaGreatDoorMd
import Derived.Test.YtgiioiohgnfmgaaGreatDoorRows
import Derived.JoinedOf
import Derived.KernelRfl
namespace Go.Proofs.YtgiioiohgnfmgaaGreatDoor
open Go Go.Abs
set_option maxRecDepth 1000000
theorem rowed_eq : mapsRowed Tryz.pinned.checked.prog = true := by kernel_rfl
end Go.Proofs.YtgiioiohgnfmgaaGreatDoor
