/- The law ModesBefore as the row states it. Conditions: none beyond the given row's own. -/
import Derived.ProofKit
import Derived.SevenTiedAt
import Derived.Test.YtjadcoglgnabpaaGreatDoorBf
import Derived.Test.YtjadcoglgnabpaaGreatDoorJBf
namespace Go.Proofs.YtjadcoglgnabpaaGreatDoor
open Go.ChangeShapes Go.WideShapes Go.ChangeAt Go.RowKit Go.Abs
def bfIs : List Bool := (List.replicate 3 false) ++ true :: List.replicate 971 false
set_option maxRecDepth 1000000 in
theorem bfIs_eq : Tryz.prog.funcs.toList.map (fun fn => fn.name == "chisel/chisellaw27.ModesBefore") = bfIs := by kernel_rfl
set_option maxRecDepth 1000000 in
theorem bfNamed : Tryz.prog.funcNamed "chisel/chisellaw27.ModesBefore" = some 3 := by rw [funcNamed_eq bfIs_eq]; kernel_rfl
set_option maxRecDepth 1000000 in
theorem bfNoGo : Tryz.prog.funcs.toList.any Func.goes = false := by kernel_rfl
theorem modesBefore_said : Rows.ModesBeforeSaid :=
  OpenClaim.holds_of_wide 3 Tryz.f3 rfl rfl rfl rfl rfl rfl rfl ⟨rfl, rfl, rfl, rfl, rfl⟩ rfl rfl rfl rfl rfl bfNamed Tryz.func3 bfJoined
    (of_decide_eq_true (by kernel_rfl)) (by unfold Func.isWrapper; first | (rw [if_pos (by decide +kernel)]; kernel_rfl) | (rw [if_neg (by decide +kernel)]; exact ⟨rfl, rfl⟩))
    (fun os started H enc _ => bfLifted os started H enc)

end Go.Proofs.YtjadcoglgnabpaaGreatDoor
