/- The types of the parameters of all functions exist. -/
import Derived.Test.YthenjfppjikkbaaGreatDoorMd
import Derived.Test.YthenjfppjikkbaaGreatDoorRows
import Derived.JoinedOf
import Derived.KernelRfl
namespace Go.Proofs.YthenjfppjikkbaaGreatDoor
open Go Go.Abs
set_option maxRecDepth 1000000
theorem laidFuncs0 : Tryz.pinned.checked.prog.funcs.all (fun f => f.params.all fun t => decide (t < 940)) = true := by rw [← Array.all_toList]; kernel_rfl
end Go.Proofs.YthenjfppjikkbaaGreatDoor
