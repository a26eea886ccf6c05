/- A piece of a run. -/
import Derived.Test.YtlhedmifkfipcaaGreatDoorPkSt
import Derived.KernelRfl
namespace Go.Proofs.YtlhedmifkfipcaaGreatDoor
open Go Go.Abs
noncomputable section
set_option maxRecDepth 1000000 in
theorem pkR4 : cut Tryz.prog (pkEv.with pkKn4) [1, 3, 4, 22, 23, 24, 25, 26, 695, 704, 705, 706, 707, 708, 709, 710, 791, 811, 812, 813, 814, 815, 816, 817, 818, 819, 820, 821, 822, 823, 824, 825, 826, 827, 828, 829, 830, 831, 832, 833, 834, 835, 836, 837, 838, 839, 840, 841, 842, 843, 844, 845, 846, 847, 848, 849, 850, 851, 852, 853, 854, 855, 856, 857, 938] (run Tryz.prog (pkEv.with pkKn4) 12000 pkS3) = .next pkS4 := by kernel_rfl
end
end Go.Proofs.YtlhedmifkfipcaaGreatDoor
