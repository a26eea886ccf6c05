/- Maps and their rows. -/
import Derived.Test.YtlhedmifkfipcaaGreatDoorNd
import Derived.Test.YtlhedmifkfipcaaGreatDoorRows
import Derived.JoinedOf
import Derived.KernelRfl
namespace Go.Proofs.YtlhedmifkfipcaaGreatDoor
open Go Go.Abs
set_option maxRecDepth 1000000
theorem rowed_eq : mapsRowed Tryz.pinned.checked.prog = true := by kernel_rfl
end Go.Proofs.YtlhedmifkfipcaaGreatDoor
