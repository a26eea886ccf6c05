/- The pieces of a run, put together. -/
import Derived.Test.YtlhedmifkfipcaaGreatDoorKkP0
import Derived.Test.YtlhedmifkfipcaaGreatDoorKkP1
import Derived.Test.YtlhedmifkfipcaaGreatDoorKkP2
import Derived.Test.YtlhedmifkfipcaaGreatDoorKkP3
import Derived.Test.YtlhedmifkfipcaaGreatDoorKkP4
import Derived.Test.YtlhedmifkfipcaaGreatDoorKkP5
import Derived.Test.YtlhedmifkfipcaaGreatDoorKkP6
namespace Go.Proofs.YtlhedmifkfipcaaGreatDoor
open Go Go.Abs
noncomputable section
theorem kkC6 : Pieces Tryz.prog (kkEv.with kkKn6) kkS5 (.bool true) := .last _ kkR6
theorem kkC5 : Pieces Tryz.prog (kkEv.with kkKn6) kkS4 (.bool true) := .more _ _ kkR5 kkC6
theorem kkC4 : Pieces Tryz.prog (kkEv.with kkKn6) kkS3m (.bool true) := .more _ _ kkR4 kkC5
theorem kkD3 : Pieces Tryz.prog (kkEv.with kkKn6) kkS3 (.bool true) := .fork _ _ kkK3 (List.forall_mem_cons.2 ⟨.more _ _ kkR3b0 kkC4, (List.forall_mem_cons.2 ⟨.more _ _ kkR3b1 kkC4, (fun _ h => by cases h)⟩)⟩)
theorem kkC3 : Pieces Tryz.prog (kkEv.with kkKn6) kkS2 (.bool true) := .more _ _ kkR3 kkD3
theorem kkC2 : Pieces Tryz.prog (kkEv.with kkKn6) kkS1 (.bool true) := .more _ _ kkR2 kkC3
theorem kkC1 : Pieces Tryz.prog (kkEv.with kkKn6) kkS0 (.bool true) := .more _ _ kkR1 kkC2
end
end Go.Proofs.YtlhedmifkfipcaaGreatDoor
