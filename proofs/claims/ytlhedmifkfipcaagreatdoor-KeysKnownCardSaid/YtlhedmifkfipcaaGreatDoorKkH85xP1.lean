/- A piece of a run. -/
import Derived.Test.YtlhedmifkfipcaaGreatDoorKkH85xSt
import Derived.KernelRfl
namespace Go.Proofs.YtlhedmifkfipcaaGreatDoor
open Go Go.Abs
noncomputable section
set_option maxRecDepth 1000000 in
theorem kkH85xR1 : cut Tryz.prog (kkEv.with kkKn2) [1, 3, 4, 5, 10, 15, 16, 22, 23, 109, 128, 129, 130, 131, 132, 144, 1010, 1011, 1012, 1013, 1110, 1111, 1112, 1113, 1114, 1115, 1262, 1263, 1326, 1327, 1328, 1329, 1330, 1331, 1332, 1333, 1334, 1335, 1336, 1337, 1355, 1360] (run Tryz.prog (kkEv.with kkKn2) 12000 kkH85xS0) = .next kkH85xS1 := by kernel_rfl
end
end Go.Proofs.YtlhedmifkfipcaaGreatDoor
