/- The pieces of a run, put together. -/
import Derived.Test.YtlhedmifkfipcaaGreatDoorKkH85xP0
import Derived.Test.YtlhedmifkfipcaaGreatDoorKkH85xP1
import Derived.Test.YtlhedmifkfipcaaGreatDoorKkH85xP2
import Derived.Test.YtlhedmifkfipcaaGreatDoorKkH85xP3
namespace Go.Proofs.YtlhedmifkfipcaaGreatDoor
open Go Go.Abs
noncomputable section
theorem kkH85xC3 : Pieces Tryz.prog (kkEv.with kkKn2) kkH85xS2m (.bool true) := .last _ kkH85xR3
theorem kkH85xD2 : Pieces Tryz.prog (kkEv.with kkKn2) kkH85xS2 (.bool true) := .fork _ _ kkH85xK2 (List.forall_mem_cons.2 ⟨.more _ _ kkH85xR2b0 kkH85xC3, (List.forall_mem_cons.2 ⟨.more _ _ kkH85xR2b1 kkH85xC3, (fun _ h => by cases h)⟩)⟩)
theorem kkH85xC2 : Pieces Tryz.prog (kkEv.with kkKn2) kkH85xS1 (.bool true) := .more _ _ kkH85xR2 kkH85xD2
theorem kkH85xC1 : Pieces Tryz.prog (kkEv.with kkKn2) kkH85xS0 (.bool true) := .more _ _ kkH85xR1 kkH85xC2
end
end Go.Proofs.YtlhedmifkfipcaaGreatDoor
