/- A piece of a run. -/
import Derived.Test.YtgiioiohgnfmgaaGreatDoorAcSt
import Derived.KernelRfl
namespace Go.Proofs.YtgiioiohgnfmgaaGreatDoor
open Go Go.Abs
noncomputable section
set_option maxRecDepth 1000000 in
theorem acR1 : cut [0, 2, 22, 23, 25, 26, 27, 28, 35, 45, 50, 99, 100, 261, 317, 373, 393, 447, 467, 523, 579, 599, 619, 639, 659, 660, 661, 677, 696, 703, 850, 874, 923, 924, 1259, 1278, 1314, 1333, 1595, 1632, 1652, 1672, 1692, 1712, 1713, 1714, 1720, 1721, 1728, 1733, 1734, 1735, 1736, 1767, 1768, 1769, 1770, 1771, 1773, 1779, 1780, 1781, 1782, 1783, 1784, 1785, 1803, 1839, 1875, 1876, 1877, 1878, 1879, 1880, 1881, 1882, 1883, 1884, 1885, 1886, 1887, 1888, 1889] (run Tryz.prog (acEv.with acKn5) 16031 acS0) = .next acS1 := by kernel_rfl
end
end Go.Proofs.YtgiioiohgnfmgaaGreatDoor
