/- A piece of a run. -/
import Derived.Test.YtgiioiohgnfmgaaGreatDoorAcSt
import Derived.KernelRfl
namespace Go.Proofs.YtgiioiohgnfmgaaGreatDoor
open Go Go.Abs
noncomputable section
set_option maxRecDepth 1000000 in
theorem acR0 : cut [0, 2, 22, 23, 25, 26, 27, 28, 35, 45, 50, 99, 100, 261, 317, 373, 393, 447, 467, 523, 579, 599, 619, 639, 659, 660, 661, 677, 696, 697, 698, 699, 703, 707, 708, 709, 745, 754, 755, 756, 757, 758, 759, 760, 761, 762, 763, 764, 765, 766, 767, 768, 769, 770, 771, 772, 773, 774, 775, 776, 777, 778, 779, 811] (callA Tryz.prog (acEv.with acKn5) 16020 5 [] acH 24) = .next acS0 := by kernel_rfl
end
end Go.Proofs.YtgiioiohgnfmgaaGreatDoor
