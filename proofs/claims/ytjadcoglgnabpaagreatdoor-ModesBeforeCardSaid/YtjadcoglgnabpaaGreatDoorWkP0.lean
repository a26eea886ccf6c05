/- A piece of a run. -/
import Derived.Test.YtjadcoglgnabpaaGreatDoorWkSt
import Derived.KernelRfl
namespace Go.Proofs.YtjadcoglgnabpaaGreatDoor
open Go Go.Abs
noncomputable section
set_option maxRecDepth 1000000 in
theorem wkR0 : cut Tryz.prog (wkEv.with wkKn3) [4, 596, 597, 598, 599, 604, 605, 606, 609, 616, 620, 624, 625, 627, 628, 629, 630, 631, 632, 633, 634, 635, 636, 716, 717, 718, 719, 720, 721, 722, 723, 724, 725, 726, 782, 808, 809, 810, 1103, 1104, 1105, 1106, 1107, 1108, 1109, 1110, 1111, 1112, 1113, 1114, 1122, 1123, 1124, 1125, 1129, 1130] (callA Tryz.prog (wkEv.with wkKn3) 12000 5 [] wkH 0) = .next wkS0 := by kernel_rfl
end
end Go.Proofs.YtjadcoglgnabpaaGreatDoor
