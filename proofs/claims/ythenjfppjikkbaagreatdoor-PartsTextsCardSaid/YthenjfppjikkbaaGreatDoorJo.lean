/- The program is laid out as the form asks. -/
import Derived.Test.YthenjfppjikkbaaGreatDoorJf
import Derived.Test.YthenjfppjikkbaaGreatDoorMd
import Derived.Test.YthenjfppjikkbaaGreatDoorRows
import Derived.JoinedOf
import Derived.KernelRfl
namespace Go.Proofs.YthenjfppjikkbaaGreatDoor
open Go Go.Abs
set_option maxRecDepth 1000000
theorem laidPart0 : (List.range' 0 50).all (rowFine Tryz.pinned.checked.prog) = true := by kernel_rfl
theorem laidPart1 : (List.range' 50 50).all (rowFine Tryz.pinned.checked.prog) = true := by kernel_rfl
theorem laidPart2 : (List.range' 100 50).all (rowFine Tryz.pinned.checked.prog) = true := by kernel_rfl
theorem laidPart3 : (List.range' 150 50).all (rowFine Tryz.pinned.checked.prog) = true := by kernel_rfl
theorem laidPart4 : (List.range' 200 50).all (rowFine Tryz.pinned.checked.prog) = true := by kernel_rfl
theorem laidPart5 : (List.range' 250 50).all (rowFine Tryz.pinned.checked.prog) = true := by kernel_rfl
theorem laidPart6 : (List.range' 300 50).all (rowFine Tryz.pinned.checked.prog) = true := by kernel_rfl
theorem laidPart7 : (List.range' 350 50).all (rowFine Tryz.pinned.checked.prog) = true := by kernel_rfl
theorem laidPart8 : (List.range' 400 50).all (rowFine Tryz.pinned.checked.prog) = true := by kernel_rfl
theorem laidPart9 : (List.range' 450 50).all (rowFine Tryz.pinned.checked.prog) = true := by kernel_rfl
theorem laidPart10 : (List.range' 500 50).all (rowFine Tryz.pinned.checked.prog) = true := by kernel_rfl
theorem laidPart11 : (List.range' 550 50).all (rowFine Tryz.pinned.checked.prog) = true := by kernel_rfl
theorem laidPart12 : (List.range' 600 50).all (rowFine Tryz.pinned.checked.prog) = true := by kernel_rfl
theorem laidPart13 : (List.range' 650 50).all (rowFine Tryz.pinned.checked.prog) = true := by kernel_rfl
theorem laidPart14 : (List.range' 700 50).all (rowFine Tryz.pinned.checked.prog) = true := by kernel_rfl
theorem laidPart15 : (List.range' 750 50).all (rowFine Tryz.pinned.checked.prog) = true := by kernel_rfl
theorem laidPart16 : (List.range' 800 50).all (rowFine Tryz.pinned.checked.prog) = true := by kernel_rfl
theorem laidPart17 : (List.range' 850 50).all (rowFine Tryz.pinned.checked.prog) = true := by kernel_rfl
theorem laidPart18 : (List.range' 900 40).all (rowFine Tryz.pinned.checked.prog) = true := by kernel_rfl
theorem laidSize : Tryz.pinned.checked.prog.types.size = 0+50+50+50+50+50+50+50+50+50+50+50+50+50+50+50+50+50+50+40 := by kernel_rfl
theorem laidTypes : (List.range Tryz.pinned.checked.prog.types.size).all (rowFine Tryz.pinned.checked.prog) = true := all_size laidSize (all_step (all_step (all_step (all_step (all_step (all_step (all_step (all_step (all_step (all_step (all_step (all_step (all_step (all_step (all_step (all_step (all_step (all_step (all_step (all_zero (rowFine Tryz.pinned.checked.prog)) laidPart0) laidPart1) laidPart2) laidPart3) laidPart4) laidPart5) laidPart6) laidPart7) laidPart8) laidPart9) laidPart10) laidPart11) laidPart12) laidPart13) laidPart14) laidPart15) laidPart16) laidPart17) laidPart18)
theorem laidGlobals : Tryz.pinned.checked.prog.globals.all (fun g => decide (g.type < Tryz.pinned.checked.prog.types.size)) = true := by kernel_rfl
theorem laidSizeN : Tryz.pinned.checked.prog.types.size = 940 := laidSize.trans (by decide)
theorem laidFuncs : Tryz.pinned.checked.prog.funcs.all (fun f => f.params.all fun t => decide (t < Tryz.pinned.checked.prog.types.size)) = true := by rw [laidSizeN]; exact laidFuncs0
theorem laidAnd {a b : Bool} (h : a = true) (h2 : b = true) : (a && b) = true := by rw [h, h2]; rfl
theorem laidOut_eq : laidOutB Tryz.pinned.checked.prog = true := laidAnd (laidAnd laidTypes laidGlobals) laidFuncs
end Go.Proofs.YthenjfppjikkbaaGreatDoor
