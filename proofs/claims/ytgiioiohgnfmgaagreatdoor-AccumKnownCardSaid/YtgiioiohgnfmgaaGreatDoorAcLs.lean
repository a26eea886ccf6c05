/- The law AccumKnown as the row states it. Conditions: none beyond the given row's own. -/
import Derived.Test.YtgiioiohgnfmgaaGreatDoorTie
import Derived.Test.YtgiioiohgnfmgaaGreatDoorCards
import Derived.ProofKit
import Derived.SevenTiedAt
import Derived.Test.YtgiioiohgnfmgaaGreatDoorAcLw
import Derived.Test.YtgiioiohgnfmgaaGreatDoorJAc
namespace Go.Proofs.YtgiioiohgnfmgaaGreatDoor
open Go.ChangeShapes Go.WideShapes Go.ChangeAt Go.RowKit Go.Abs
def acIs : List Bool := (List.replicate 5 false) ++ true :: List.replicate 1007 false
set_option maxRecDepth 1000000 in
theorem acIs_eq : Tryz.prog.funcs.toList.map (fun fn => fn.name == "chisel/chisellaw33.AccumKnown") = acIs := by kernel_rfl
set_option maxRecDepth 1000000 in
theorem acNamed : Tryz.prog.funcNamed "chisel/chisellaw33.AccumKnown" = some 5 := by rw [funcNamed_eq acIs_eq]; kernel_rfl
set_option maxRecDepth 1000000 in
theorem acNoGo : Tryz.prog.funcs.toList.any Func.goes = false := by kernel_rfl
theorem accumKnown_said : Rows.AccumKnownSaid :=
  OpenClaim.holds_of_wide 5 Tryz.f5 rfl rfl rfl rfl rfl rfl rfl ⟨rfl, rfl, rfl, rfl, rfl⟩ rfl rfl rfl rfl rfl acNamed Tryz.func5 acJoined
    (of_decide_eq_true (by kernel_rfl)) (by unfold Func.isWrapper; first | (rw [if_pos (by decide +kernel)]; kernel_rfl) | (rw [if_neg (by decide +kernel)]; exact ⟨rfl, rfl⟩))
    (fun os started H enc _ => acLifted os started H enc)

end Go.Proofs.YtgiioiohgnfmgaaGreatDoor
