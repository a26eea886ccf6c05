/- Where the variables of the law PatternKnown are as they were laid, the run may begin. -/
import Derived.Test.YtgiioiohgnfmgaaGreatDoorPaKn
import Derived.Test.YtgiioiohgnfmgaaGreatDoorCards
import Derived.LaidByTextLater
import Derived.KernelRfl
namespace Go.Proofs.YtgiioiohgnfmgaaGreatDoor
open Go Go.Abs
set_option maxRecDepth 1000000
theorem paM0 : ("chisel/lex.signs", (Rows.laid_chisel_lex_signs : DataW Unit)) ∈ Rows.patternKnownRow.laid := (List.Mem.tail _ (List.Mem.tail _ (List.Mem.head _)))
def paSg0 : List (List UInt8) := [[46, 46], [47, 47], [124, 124], [33, 61], [60, 61], [60, 60], [62, 61], [62, 62], [58, 61], [58, 58], [61, 62], [40], [41], [91], [93], [123], [125], [44], [46], [64], [47], [124], [43], [45], [42], [61], [60], [62], [58], [33], [63], [35], [36]]
theorem paD0 : (Rows.laid_chisel_lex_signs : DataW Unit) = DataW.slice (paSg0.map fun s => .lit (.string s)) [] := by kernel_rfl
theorem paN0 : (("chisel/lex.signs", DataW.slice (paSg0.map fun s => .lit (.string s)) []) : String × DataW Unit) ∈ Rows.patternKnownRow.laid := paD0 ▸ paM0
theorem paA0 {W : World} (h : laidMet Tryz.prog Rows.patternKnownRow.laid W) : ∃ b σ ty fz, W.heap[2]? = some (.cells #[.slice (some ⟨b, σ, none⟩) paSg0.length paSg0.length] ty fz) ∧ StrsAt W b σ paSg0 := laid_slc (t := 32) (e := 9) h paN0 (by kernel_rfl) (by kernel_rfl) (by kernel_rfl) (by kernel_rfl) (by kernel_rfl) (by decide)
theorem paM1 : ("chisel/expr.axes", (Rows.laid_chisel_expr_axes : DataW Unit)) ∈ Rows.patternKnownRow.laid := (List.Mem.tail _ (List.Mem.tail _ (List.Mem.tail _ (List.Mem.head _))))
theorem paD1 : flatD (Rows.laid_chisel_expr_axes : DataW Unit) = some paL22 := by kernel_rfl
theorem paA1 {W : World} (h : laidMet Tryz.prog Rows.patternKnownRow.laid W) : RowAt W 22 0 paL22 := laid_flat (t := 809) 6 h paM1 (by kernel_rfl) (by kernel_rfl) (by kernel_rfl) paD1
theorem paM2 : ("chisel/expr.tests", (Rows.laid_chisel_expr_tests : DataW Unit)) ∈ Rows.patternKnownRow.laid := (List.Mem.tail _ (List.Mem.tail _ (List.Mem.tail _ (List.Mem.tail _ (List.Mem.head _)))))
theorem paD2 : flatD (Rows.laid_chisel_expr_tests : DataW Unit) = some paL0 := by kernel_rfl
theorem paA2 {W : World} (h : laidMet Tryz.prog Rows.patternKnownRow.laid W) : RowAt W 0 0 paL0 := laid_flat (t := 307) 6 h paM2 (by kernel_rfl) (by kernel_rfl) (by kernel_rfl) paD2
theorem paHeap_eq : paH = laidHeap (⟨2, [.slc 23 0 paSg0.length (some paSg0.length)]⟩ :: LRow.strs (23, paSg0) :: ([(22, paL22), (0, paL0)] : List (Nat × List AV)).map LRow.any) := by kernel_rfl
theorem paAt (W : World) (h : laidMetH Tryz.prog Rows.patternKnownRow.laid W) : LaidAt 23 paH 24 W := by
  rw [MakeChecks.laidMetH_plain _ _ _ (by kernel_rfl)] at h
  have hG : 23 ≤ W.heap.size := (paA1 h).lt
  rw [paHeap_eq]
  exact LaidAt.rowsSlc hG (by decide) (List.forall_mem_cons.2 ⟨⟨by decide, paA1 h⟩, (List.forall_mem_cons.2 ⟨⟨by decide, paA2 h⟩, (fun _ h => by cases h)⟩)⟩) (paA0 h)
end Go.Proofs.YtgiioiohgnfmgaaGreatDoor
