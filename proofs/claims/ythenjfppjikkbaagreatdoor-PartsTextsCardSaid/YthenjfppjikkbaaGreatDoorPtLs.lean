/- The law PartsTexts as the row states it. Conditions: none beyond the given row's own. -/
import Derived.ProofKit
import Derived.SevenTiedAt
import Derived.Test.YthenjfppjikkbaaGreatDoorPt
import Derived.Test.YthenjfppjikkbaaGreatDoorJPt
namespace Go.Proofs.YthenjfppjikkbaaGreatDoor
open Go.ChangeShapes Go.WideShapes Go.ChangeAt Go.RowKit Go.Abs
def ptIs : List Bool := (List.replicate 3 false) ++ true :: List.replicate 1042 false
set_option maxRecDepth 1000000 in
theorem ptIs_eq : Tryz.prog.funcs.toList.map (fun fn => fn.name == "chisel/chisellaw22.PartsTexts") = ptIs := by kernel_rfl
set_option maxRecDepth 1000000 in
theorem ptNamed : Tryz.prog.funcNamed "chisel/chisellaw22.PartsTexts" = some 3 := by rw [funcNamed_eq ptIs_eq]; kernel_rfl
set_option maxRecDepth 1000000 in
theorem ptNoGo : Tryz.prog.funcs.toList.any Func.goes = false := by kernel_rfl
theorem partsTexts_said : Rows.PartsTextsSaid :=
  OpenClaim.holds_of_wide 3 Tryz.f3 rfl rfl rfl rfl rfl rfl rfl ⟨rfl, rfl, rfl, rfl, rfl⟩ rfl rfl rfl rfl rfl ptNamed Tryz.func3 ptJoined
    (of_decide_eq_true (by kernel_rfl)) (by unfold Func.isWrapper; first | (rw [if_pos (by decide +kernel)]; kernel_rfl) | (rw [if_neg (by decide +kernel)]; exact ⟨rfl, rfl⟩))
    (fun os started H enc _ => ptLifted os started H enc)
end Go.Proofs.YthenjfppjikkbaaGreatDoor
