/- The law EvalKnown as the row states it. Conditions: none beyond the given row's own. -/
import Derived.Test.YtgiioiohgnfmgaaGreatDoorTie
import Derived.Test.YtgiioiohgnfmgaaGreatDoorCards
import Derived.ProofKit
import Derived.SevenTiedAt
import Derived.Test.YtgiioiohgnfmgaaGreatDoorEvLw
import Derived.Test.YtgiioiohgnfmgaaGreatDoorJEv
namespace Go.Proofs.YtgiioiohgnfmgaaGreatDoor
open Go.ChangeShapes Go.WideShapes Go.ChangeAt Go.RowKit Go.Abs
def evIs : List Bool := (List.replicate 3 false) ++ true :: List.replicate 1009 false
set_option maxRecDepth 1000000 in
theorem evIs_eq : Tryz.prog.funcs.toList.map (fun fn => fn.name == "chisel/chisellaw21.EvalKnown") = evIs := by kernel_rfl
set_option maxRecDepth 1000000 in
theorem evNamed : Tryz.prog.funcNamed "chisel/chisellaw21.EvalKnown" = some 3 := by rw [funcNamed_eq evIs_eq]; kernel_rfl
set_option maxRecDepth 1000000 in
theorem evNoGo : Tryz.prog.funcs.toList.any Func.goes = false := by kernel_rfl
theorem evalKnown_said : Rows.EvalKnownSaid :=
  OpenClaim.holds_of_wide 3 Tryz.f3 rfl rfl rfl rfl rfl rfl rfl ⟨rfl, rfl, rfl, rfl, rfl⟩ rfl rfl rfl rfl rfl evNamed Tryz.func3 evJoined
    (of_decide_eq_true (by kernel_rfl)) (by unfold Func.isWrapper; first | (rw [if_pos (by decide +kernel)]; kernel_rfl) | (rw [if_neg (by decide +kernel)]; exact ⟨rfl, rfl⟩))
    (fun os started H enc _ => evLifted os started H enc)

end Go.Proofs.YtgiioiohgnfmgaaGreatDoor
