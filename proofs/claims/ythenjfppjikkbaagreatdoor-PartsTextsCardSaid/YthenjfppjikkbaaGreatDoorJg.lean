/- Which variables each function names. -/
import Derived.Test.YthenjfppjikkbaaGreatDoorJn
namespace Go.Proofs.YthenjfppjikkbaaGreatDoor
open Go Go.Abs
set_option maxRecDepth 1000000
theorem gl_eq : Tryz.prog.funcs.toList.map glH = glList := by kernel_rfl
end Go.Proofs.YthenjfppjikkbaaGreatDoor
