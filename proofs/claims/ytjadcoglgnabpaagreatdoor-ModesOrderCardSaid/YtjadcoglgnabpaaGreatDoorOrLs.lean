/- The law ModesOrder as the row states it. Conditions: none beyond the given row's own. -/
import Derived.ProofKit
import Derived.SevenTiedAt
import Derived.Test.YtjadcoglgnabpaaGreatDoorOr
import Derived.Test.YtjadcoglgnabpaaGreatDoorJOr
namespace Go.Proofs.YtjadcoglgnabpaaGreatDoor
open Go.ChangeShapes Go.WideShapes Go.ChangeAt Go.RowKit Go.Abs
def orIs : List Bool := (List.replicate 4 false) ++ true :: List.replicate 970 false
set_option maxRecDepth 1000000 in
theorem orIs_eq : Tryz.prog.funcs.toList.map (fun fn => fn.name == "chisel/chisellaw27.ModesOrder") = orIs := by kernel_rfl
set_option maxRecDepth 1000000 in
theorem orNamed : Tryz.prog.funcNamed "chisel/chisellaw27.ModesOrder" = some 4 := by rw [funcNamed_eq orIs_eq]; kernel_rfl
set_option maxRecDepth 1000000 in
theorem orNoGo : Tryz.prog.funcs.toList.any Func.goes = false := by kernel_rfl
theorem modesOrder_said : Rows.ModesOrderSaid :=
  OpenClaim.holds_of_wide 4 Tryz.f4 rfl rfl rfl rfl rfl rfl rfl ⟨rfl, rfl, rfl, rfl, rfl⟩ rfl rfl rfl rfl rfl orNamed Tryz.func4 orJoined
    (of_decide_eq_true (by kernel_rfl)) (by unfold Func.isWrapper; first | (rw [if_pos (by decide +kernel)]; kernel_rfl) | (rw [if_neg (by decide +kernel)]; exact ⟨rfl, rfl⟩))
    (fun os started H enc _ => orLifted os started H enc)

end Go.Proofs.YtjadcoglgnabpaaGreatDoor
