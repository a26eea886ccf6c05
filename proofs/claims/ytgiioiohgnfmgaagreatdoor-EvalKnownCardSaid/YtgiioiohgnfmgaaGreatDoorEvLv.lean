/- Where the variables of the law EvalKnown are as they were laid, the run may begin. -/
import Derived.Test.YtgiioiohgnfmgaaGreatDoorEvKn
import Derived.Test.YtgiioiohgnfmgaaGreatDoorCards
import Derived.LaidByTextLater
import Derived.KernelRfl
namespace Go.Proofs.YtgiioiohgnfmgaaGreatDoor
open Go Go.Abs
set_option maxRecDepth 1000000
theorem evM0 : ("chisel/expr.tests", (Rows.laid_chisel_expr_tests : DataW Unit)) ∈ Rows.evalKnownRow.laid := (List.Mem.tail _ (List.Mem.tail _ (List.Mem.tail _ (List.Mem.tail _ (List.Mem.tail _ (List.Mem.tail _ (List.Mem.tail _ (List.Mem.tail _ (List.Mem.tail _ (List.Mem.tail _ (List.Mem.tail _ (List.Mem.tail _ (List.Mem.tail _ (List.Mem.tail _ (List.Mem.head _)))))))))))))))
theorem evD0 : flatD (Rows.laid_chisel_expr_tests : DataW Unit) = some evL0 := by kernel_rfl
theorem evA0 {W : World} (h : laidMet Tryz.prog Rows.evalKnownRow.laid W) : RowAt W 0 0 evL0 := laid_flat (t := 307) 6 h evM0 (by kernel_rfl) (by kernel_rfl) (by kernel_rfl) evD0
theorem evM1 : ("chisel/expr.atoms", (Rows.laid_chisel_expr_atoms : DataW Unit)) ∈ Rows.evalKnownRow.laid := (List.Mem.tail _ (List.Mem.tail _ (List.Mem.tail _ (List.Mem.tail _ (List.Mem.tail _ (List.Mem.tail _ (List.Mem.tail _ (List.Mem.tail _ (List.Mem.tail _ (List.Mem.tail _ (List.Mem.tail _ (List.Mem.tail _ (List.Mem.tail _ (List.Mem.tail _ (List.Mem.tail _ (List.Mem.head _))))))))))))))))
theorem evD1 : flatD (Rows.laid_chisel_expr_atoms : DataW Unit) = some evL1 := by kernel_rfl
theorem evA1 {W : World} (h : laidMet Tryz.prog Rows.evalKnownRow.laid W) : RowAt W 1 0 evL1 := laid_flat (t := 309) 6 h evM1 (by kernel_rfl) (by kernel_rfl) (by kernel_rfl) evD1
theorem evHeap_eq : evH = laidHeap (([(0, evL0), (1, evL1)] : List (Nat × List AV)).map LRow.any) := by kernel_rfl
theorem evAt (W : World) (h : laidMetH Tryz.prog Rows.evalKnownRow.laid W) : LaidAt 2 evH 2 W := by
  rw [MakeChecks.laidMetH_plain _ _ _ (by kernel_rfl)] at h
  have hG : 2 ≤ W.heap.size := (evA1 h).lt
  rw [evHeap_eq]
  exact LaidAt.rows hG (List.forall_mem_cons.2 ⟨⟨by decide, evA0 h⟩, (List.forall_mem_cons.2 ⟨⟨by decide, evA1 h⟩, (fun _ h => by cases h)⟩)⟩)
end Go.Proofs.YtgiioiohgnfmgaaGreatDoor
