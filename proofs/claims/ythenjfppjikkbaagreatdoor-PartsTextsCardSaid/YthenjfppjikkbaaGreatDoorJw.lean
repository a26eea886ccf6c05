/- The program as a whole. -/
import Derived.Test.YthenjfppjikkbaaGreatDoorMd
import Derived.Test.YthenjfppjikkbaaGreatDoorRows
import Derived.JoinedOf
import Derived.KernelRfl
namespace Go.Proofs.YthenjfppjikkbaaGreatDoor
open Go Go.Abs
set_option maxRecDepth 1000000
theorem stops_eq : Tryz.pinned.checked.prog.stopsHeard = true := stopsHeard_eq (by kernel_rfl)
theorem lays_eq : Tryz.pinned.checked.prog.laysLater = false := laysLater_eq (by kernel_rfl)
theorem bears_eq : Tryz.pinned.checked.prog.bearsReflect = false := by kernel_rfl
theorem may_eq : Tryz.pinned.checked.prog.mayEnter = true := by
  simp only [Program.mayEnter, lays_eq, bears_eq]
  kernel_rfl
end Go.Proofs.YthenjfppjikkbaaGreatDoor
