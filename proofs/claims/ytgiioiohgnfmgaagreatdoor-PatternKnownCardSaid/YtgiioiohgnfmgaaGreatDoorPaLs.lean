/- The law PatternKnown as the row states it. Conditions: none beyond the given row's own. -/
import Derived.Test.YtgiioiohgnfmgaaGreatDoorTie
import Derived.Test.YtgiioiohgnfmgaaGreatDoorCards
import Derived.ProofKit
import Derived.SevenTiedAt
import Derived.Test.YtgiioiohgnfmgaaGreatDoorPaLw
import Derived.Test.YtgiioiohgnfmgaaGreatDoorJPa
namespace Go.Proofs.YtgiioiohgnfmgaaGreatDoor
open Go.ChangeShapes Go.WideShapes Go.ChangeAt Go.RowKit Go.Abs
def paIs : List Bool := (List.replicate 4 false) ++ true :: List.replicate 1008 false
set_option maxRecDepth 1000000 in
theorem paIs_eq : Tryz.prog.funcs.toList.map (fun fn => fn.name == "chisel/chisellaw23.PatternKnown") = paIs := by kernel_rfl
set_option maxRecDepth 1000000 in
theorem paNamed : Tryz.prog.funcNamed "chisel/chisellaw23.PatternKnown" = some 4 := by rw [funcNamed_eq paIs_eq]; kernel_rfl
set_option maxRecDepth 1000000 in
theorem paNoGo : Tryz.prog.funcs.toList.any Func.goes = false := by kernel_rfl
theorem patternKnown_said : Rows.PatternKnownSaid :=
  Go.Clock.holds_of_wide_time 4 Tryz.f4 rfl rfl rfl rfl rfl rfl rfl ⟨rfl, rfl, rfl, rfl, rfl⟩ rfl rfl rfl rfl rfl paNamed Tryz.func4 paJoined
    (of_decide_eq_true (by kernel_rfl)) (by unfold Func.isWrapper; first | (rw [if_pos (by decide +kernel)]; kernel_rfl) | (rw [if_neg (by decide +kernel)]; exact ⟨rfl, rfl⟩))
    (fun os started H enc _ F => paLifted os started H enc F)

end Go.Proofs.YtgiioiohgnfmgaaGreatDoor
