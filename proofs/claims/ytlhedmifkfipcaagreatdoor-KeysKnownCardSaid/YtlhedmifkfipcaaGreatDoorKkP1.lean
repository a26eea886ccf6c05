/- A piece of a run. -/
import Derived.Test.YtlhedmifkfipcaaGreatDoorKkSt
import Derived.KernelRfl
namespace Go.Proofs.YtlhedmifkfipcaaGreatDoor
open Go Go.Abs
noncomputable section
set_option maxRecDepth 1000000 in
theorem kkR1 : cut Tryz.prog (kkEv.with kkKn6) [1, 3, 4, 5, 10, 15, 16, 22, 23, 24, 25, 30, 175, 263, 302, 303, 304, 305, 306, 367, 416, 417, 418, 419, 420, 421, 422, 604, 605, 606, 607, 608, 609, 610, 611, 612, 613, 614, 615, 616] (run Tryz.prog (kkEv.with kkKn6) 12000 kkS0) = .next kkS1 := by kernel_rfl
end
end Go.Proofs.YtlhedmifkfipcaaGreatDoor
