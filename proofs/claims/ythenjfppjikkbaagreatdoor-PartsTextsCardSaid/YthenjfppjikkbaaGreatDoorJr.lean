/- Maps and their rows. -/
import Derived.Test.YthenjfppjikkbaaGreatDoorMd
import Derived.Test.YthenjfppjikkbaaGreatDoorRows
import Derived.JoinedOf
import Derived.KernelRfl
namespace Go.Proofs.YthenjfppjikkbaaGreatDoor
open Go Go.Abs
set_option maxRecDepth 1000000
theorem rowed_eq : mapsRowed Tryz.pinned.checked.prog = true := by kernel_rfl
end Go.Proofs.YthenjfppjikkbaaGreatDoor
