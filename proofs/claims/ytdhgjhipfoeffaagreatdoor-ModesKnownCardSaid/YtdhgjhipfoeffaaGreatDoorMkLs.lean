/- The law ModesKnown as the row states it. Conditions: none beyond the given row's own. -/
import Derived.Test.YtdhgjhipfoeffaaGreatDoorTie
import Derived.Test.YtdhgjhipfoeffaaGreatDoorCards
import Derived.ProofKit
import Derived.SevenTiedAt
import Derived.Test.YtdhgjhipfoeffaaGreatDoorMkLw
import Derived.Test.YtdhgjhipfoeffaaGreatDoorJMk
namespace Go.Proofs.YtdhgjhipfoeffaaGreatDoor
open Go.ChangeShapes Go.WideShapes Go.ChangeAt Go.RowKit Go.Abs
def mkIs : List Bool := (List.replicate 5 false) ++ true :: List.replicate 970 false
set_option maxRecDepth 1000000 in
theorem mkIs_eq : Tryz.prog.funcs.toList.map (fun fn => fn.name == "chisel/chisellaw27.ModesKnown") = mkIs := by kernel_rfl
set_option maxRecDepth 1000000 in
theorem mkNamed : Tryz.prog.funcNamed "chisel/chisellaw27.ModesKnown" = some 5 := by rw [funcNamed_eq mkIs_eq]; kernel_rfl
set_option maxRecDepth 1000000 in
theorem mkNoGo : Tryz.prog.funcs.toList.any Func.goes = false := by kernel_rfl
theorem modesKnown_said : Rows.ModesKnownSaid :=
  OpenClaim.holds_of_wide 5 Tryz.f5 rfl rfl rfl rfl rfl rfl rfl ⟨rfl, rfl, rfl, rfl, rfl⟩ rfl rfl rfl rfl rfl mkNamed Tryz.func5 mkJoined
    (of_decide_eq_true (by kernel_rfl)) (by unfold Func.isWrapper; first | (rw [if_pos (by decide +kernel)]; kernel_rfl) | (rw [if_neg (by decide +kernel)]; exact ⟨rfl, rfl⟩))
    (fun os started H enc _ => mkLifted os started H enc)

end Go.Proofs.YtdhgjhipfoeffaaGreatDoor
