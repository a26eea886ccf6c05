/- The law PartsKnown as the row states it. Conditions: none beyond the given row's own. -/
import Derived.Test.YtlhedmifkfipcaaGreatDoorTie
import Derived.Test.YtlhedmifkfipcaaGreatDoorCards
import Derived.ProofKit
import Derived.SevenTiedAt
import Derived.Test.YtlhedmifkfipcaaGreatDoorPkLw
import Derived.Test.YtlhedmifkfipcaaGreatDoorJPk
namespace Go.Proofs.YtlhedmifkfipcaaGreatDoor
open Go.ChangeShapes Go.WideShapes Go.ChangeAt Go.RowKit Go.Abs
def pkIs : List Bool := (List.replicate 4 false) ++ true :: List.replicate 1096 false
set_option maxRecDepth 1000000 in
theorem pkIs_eq : Tryz.prog.funcs.toList.map (fun fn => fn.name == "chisel/chisellaw22.PartsKnown") = pkIs := by kernel_rfl
set_option maxRecDepth 1000000 in
theorem pkNamed : Tryz.prog.funcNamed "chisel/chisellaw22.PartsKnown" = some 4 := by rw [funcNamed_eq pkIs_eq]; kernel_rfl
set_option maxRecDepth 1000000 in
theorem pkNoGo : Tryz.prog.funcs.toList.any Func.goes = false := by kernel_rfl
theorem partsKnown_said : Rows.PartsKnownSaid :=
  OpenClaim.holds_of_wide 4 Tryz.f4 rfl rfl rfl rfl rfl rfl rfl ⟨rfl, rfl, rfl, rfl, rfl⟩ rfl rfl rfl rfl rfl pkNamed Tryz.func4 pkJoined
    (of_decide_eq_true (by kernel_rfl)) (by unfold Func.isWrapper; first | (rw [if_pos (by decide +kernel)]; kernel_rfl) | (rw [if_neg (by decide +kernel)]; exact ⟨rfl, rfl⟩))
    (fun os started H enc _ => pkLifted os started H enc)

end Go.Proofs.YtlhedmifkfipcaaGreatDoor
