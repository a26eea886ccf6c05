/- A piece of a run. -/
import Derived.Test.YtlhedmifkfipcaaGreatDoorKkH85xSt
import Derived.KernelRfl
namespace Go.Proofs.YtlhedmifkfipcaaGreatDoor
open Go Go.Abs
noncomputable section
set_option maxRecDepth 1000000 in
theorem kkH85xR0 : cut Tryz.prog (kkEv.with kkKn2) [1, 3, 4, 5, 10, 15, 16, 22, 23, 109, 128, 129, 130, 131, 132, 144, 225, 226, 227, 228, 229, 230, 509, 510, 511, 512, 518, 519, 520, 521, 522, 530, 535, 538, 539] (callA Tryz.prog (kkEv.with kkKn2) 12009 14 [] kkH 24) = .next kkH85xS0 := by kernel_rfl
end
end Go.Proofs.YtlhedmifkfipcaaGreatDoor
