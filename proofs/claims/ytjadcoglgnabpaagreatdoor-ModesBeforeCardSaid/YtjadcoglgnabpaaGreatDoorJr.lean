/- Maps and their rows. -/
import Derived.Test.YtjadcoglgnabpaaGreatDoorMd
import Derived.Test.YtjadcoglgnabpaaGreatDoorRows
import Derived.JoinedOf
import Derived.KernelRfl
namespace Go.Proofs.YtjadcoglgnabpaaGreatDoor
open Go Go.Abs
set_option maxRecDepth 1000000
theorem rowed_eq : mapsRowed Tryz.pinned.checked.prog = true := by kernel_rfl
end Go.Proofs.YtjadcoglgnabpaaGreatDoor
