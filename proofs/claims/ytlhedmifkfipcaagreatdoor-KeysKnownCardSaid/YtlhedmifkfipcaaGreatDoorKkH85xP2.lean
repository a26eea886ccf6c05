/- A piece of a run. -/
import Derived.Test.YtlhedmifkfipcaaGreatDoorKkH85xSt
import Derived.KernelRfl
namespace Go.Proofs.YtlhedmifkfipcaaGreatDoor
open Go Go.Abs
noncomputable section
set_option maxRecDepth 1000000 in
theorem kkH85xR2 : cut Tryz.prog (kkEv.with kkKn2) [1, 3, 4, 5, 10, 15, 16, 22, 23, 109, 128, 129, 130, 1395, 1428, 1429, 1431, 1435, 1436, 1441, 1443, 1444, 1445, 1446, 1447] (run Tryz.prog (kkEv.with kkKn2) 1076 kkH85xS1) = .next kkH85xS2 := by kernel_rfl
set_option maxRecDepth 1000000 in
theorem kkH85xK2 : cutL Tryz.prog (kkEv.with kkKn2) [1, 3, 4, 5, 10, 15, 16, 22, 23, 109, 128, 129, 130, 1395, 1428, 1429, 1431, 1435, 1436, 1441, 1443, 1444, 1445, 1446, 1447] (forkS Tryz.prog (kkEv.with kkKn2) kkH85xS2) = some [kkH85xS2b0, kkH85xS2b1] := by kernel_rfl
set_option maxRecDepth 1000000 in
theorem kkH85xR2b0 : cut Tryz.prog (kkEv.with kkKn2) [1, 3, 4, 5, 10, 15, 16, 22, 23, 109, 128, 129, 130, 1395, 1428, 1429, 1431, 1435, 1436, 1441, 1443, 1451] (run Tryz.prog (kkEv.with kkKn2) 111 kkH85xS2b0) = .next kkH85xS2m := by kernel_rfl
set_option maxRecDepth 1000000 in
theorem kkH85xR2b1 : cut Tryz.prog (kkEv.with kkKn2) [1, 3, 4, 5, 10, 15, 16, 22, 23, 109, 128, 129, 130, 1395, 1428, 1429, 1431, 1435, 1436, 1441, 1443, 1451] (run Tryz.prog (kkEv.with kkKn2) 153 kkH85xS2b1) = .next kkH85xS2m := by kernel_rfl
end
end Go.Proofs.YtlhedmifkfipcaaGreatDoor
