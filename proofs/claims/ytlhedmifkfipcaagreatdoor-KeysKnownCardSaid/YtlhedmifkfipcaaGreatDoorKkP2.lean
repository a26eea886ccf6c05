/- A piece of a run. -/
import Derived.Test.YtlhedmifkfipcaaGreatDoorKkSt
import Derived.KernelRfl
namespace Go.Proofs.YtlhedmifkfipcaaGreatDoor
open Go Go.Abs
noncomputable section
set_option maxRecDepth 1000000 in
theorem kkR2 : cut Tryz.prog (kkEv.with kkKn6) [1, 3, 4, 5, 10, 15, 16, 22, 23, 24, 25, 30, 175, 263, 302, 303, 304, 305, 306, 367, 1259, 1266, 1267, 1268, 1317, 1318, 1319, 1320, 1321, 1322, 1323, 1378, 1379, 1380, 1381, 1382, 1383, 1384, 1385, 1386, 1387, 1388, 1389, 1390, 1391, 1392, 1399, 1409, 1410, 1412, 1413] (run Tryz.prog (kkEv.with kkKn6) 12000 kkS1) = .next kkS2 := by kernel_rfl
end
end Go.Proofs.YtlhedmifkfipcaaGreatDoor
