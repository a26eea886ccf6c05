/- A piece of a run. -/
import Derived.Test.YtlhedmifkfipcaaGreatDoorPkH115xSt
import Derived.KernelRfl
namespace Go.Proofs.YtlhedmifkfipcaaGreatDoor
open Go Go.Abs
noncomputable section
set_option maxRecDepth 1000000 in
theorem pkH115xR0 : cut Tryz.prog (pkEv.with pkKn3) [1, 3, 4, 22, 23, 24, 25, 26, 34, 35, 36, 37, 38, 70, 78, 79, 80, 81, 82, 83, 84, 85, 86, 87, 88, 89, 90, 91, 92, 93, 94, 95, 96, 97, 98, 99, 100, 101, 138, 139, 140, 141, 142, 170] (callA Tryz.prog (pkEv.with pkKn3) 12000 18 [] pkH 24) = .next pkH115xS0 := by kernel_rfl
end
end Go.Proofs.YtlhedmifkfipcaaGreatDoor
