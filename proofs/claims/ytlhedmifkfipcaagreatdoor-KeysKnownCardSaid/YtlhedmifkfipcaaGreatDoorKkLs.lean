/- The law KeysKnown as the row states it. Conditions: none beyond the given row's own. -/
import Derived.Test.YtlhedmifkfipcaaGreatDoorTie
import Derived.Test.YtlhedmifkfipcaaGreatDoorCards
import Derived.ProofKit
import Derived.SevenTiedAt
import Derived.Test.YtlhedmifkfipcaaGreatDoorKkLw
import Derived.Test.YtlhedmifkfipcaaGreatDoorIKk
namespace Go.Proofs.YtlhedmifkfipcaaGreatDoor
open Go.ChangeShapes Go.WideShapes Go.ChangeAt Go.RowKit Go.Abs
def kkIs : List Bool := (List.replicate 3 false) ++ true :: List.replicate 1097 false
set_option maxRecDepth 1000000 in
theorem kkIs_eq : Tryz.prog.funcs.toList.map (fun fn => fn.name == "chisel/chisellaw32.KeysKnown") = kkIs := by kernel_rfl
set_option maxRecDepth 1000000 in
theorem kkNamed : Tryz.prog.funcNamed "chisel/chisellaw32.KeysKnown" = some 3 := by rw [funcNamed_eq kkIs_eq]; kernel_rfl
set_option maxRecDepth 1000000 in
theorem kkNoGo : Tryz.prog.funcs.toList.any Func.goes = false := by kernel_rfl
theorem keysKnown_said : Rows.KeysKnownSaid :=
  OpenClaim.holds_of_wide 3 Tryz.f3 rfl rfl rfl rfl rfl rfl rfl ⟨rfl, rfl, rfl, rfl, rfl⟩ rfl rfl rfl rfl rfl kkNamed Tryz.func3 kkJoined
    (of_decide_eq_true (by kernel_rfl)) (by unfold Func.isWrapper; first | (rw [if_pos (by decide +kernel)]; kernel_rfl) | (rw [if_neg (by decide +kernel)]; exact ⟨rfl, rfl⟩))
    (fun os started H enc _ => kkLifted os started H enc)

end Go.Proofs.YtlhedmifkfipcaaGreatDoor
