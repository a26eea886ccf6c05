/- Where the variables of the law AccumKnown are as they were laid, the run may begin. -/
import Derived.Test.YtgiioiohgnfmgaaGreatDoorAcKn
import Derived.Test.YtgiioiohgnfmgaaGreatDoorCards
import Derived.LaidByTextLater
import Derived.KernelRfl
namespace Go.Proofs.YtgiioiohgnfmgaaGreatDoor
open Go Go.Abs
set_option maxRecDepth 1000000
theorem acM0 : ("chisel/lex.signs", (Rows.laid_chisel_lex_signs : DataW Unit)) ∈ Rows.accumKnownRow.laid := (List.Mem.tail _ (List.Mem.tail _ (List.Mem.head _)))
def acSg0 : List (List UInt8) := [[46, 46], [47, 47], [124, 124], [33, 61], [60, 61], [60, 60], [62, 61], [62, 62], [58, 61], [58, 58], [61, 62], [40], [41], [91], [93], [123], [125], [44], [46], [64], [47], [124], [43], [45], [42], [61], [60], [62], [58], [33], [63], [35], [36]]
theorem acD0 : (Rows.laid_chisel_lex_signs : DataW Unit) = DataW.slice (acSg0.map fun s => .lit (.string s)) [] := by kernel_rfl
theorem acN0 : (("chisel/lex.signs", DataW.slice (acSg0.map fun s => .lit (.string s)) []) : String × DataW Unit) ∈ Rows.accumKnownRow.laid := acD0 ▸ acM0
theorem acA0 {W : World} (h : laidMet Tryz.prog Rows.accumKnownRow.laid W) : ∃ b σ ty fz, W.heap[2]? = some (.cells #[.slice (some ⟨b, σ, none⟩) acSg0.length acSg0.length] ty fz) ∧ StrsAt W b σ acSg0 := laid_slc (t := 32) (e := 9) h acN0 (by kernel_rfl) (by kernel_rfl) (by kernel_rfl) (by kernel_rfl) (by kernel_rfl) (by decide)
theorem acM1 : ("chisel/expr.axes", (Rows.laid_chisel_expr_axes : DataW Unit)) ∈ Rows.accumKnownRow.laid := (List.Mem.tail _ (List.Mem.tail _ (List.Mem.tail _ (List.Mem.head _))))
theorem acD1 : flatD (Rows.laid_chisel_expr_axes : DataW Unit) = some acL22 := by kernel_rfl
theorem acA1 {W : World} (h : laidMet Tryz.prog Rows.accumKnownRow.laid W) : RowAt W 22 0 acL22 := laid_flat (t := 809) 6 h acM1 (by kernel_rfl) (by kernel_rfl) (by kernel_rfl) acD1
theorem acM2 : ("chisel/expr.tests", (Rows.laid_chisel_expr_tests : DataW Unit)) ∈ Rows.accumKnownRow.laid := (List.Mem.tail _ (List.Mem.tail _ (List.Mem.tail _ (List.Mem.tail _ (List.Mem.head _)))))
theorem acD2 : flatD (Rows.laid_chisel_expr_tests : DataW Unit) = some acL0 := by kernel_rfl
theorem acA2 {W : World} (h : laidMet Tryz.prog Rows.accumKnownRow.laid W) : RowAt W 0 0 acL0 := laid_flat (t := 307) 6 h acM2 (by kernel_rfl) (by kernel_rfl) (by kernel_rfl) acD2
theorem acHeap_eq : acH = laidHeap (⟨2, [.slc 23 0 acSg0.length (some acSg0.length)]⟩ :: LRow.strs (23, acSg0) :: ([(22, acL22), (0, acL0)] : List (Nat × List AV)).map LRow.any) := by kernel_rfl
theorem acAt (W : World) (h : laidMetH Tryz.prog Rows.accumKnownRow.laid W) : LaidAt 23 acH 24 W := by
  rw [MakeChecks.laidMetH_plain _ _ _ (by kernel_rfl)] at h
  have hG : 23 ≤ W.heap.size := (acA1 h).lt
  rw [acHeap_eq]
  exact LaidAt.rowsSlc hG (by decide) (List.forall_mem_cons.2 ⟨⟨by decide, acA1 h⟩, (List.forall_mem_cons.2 ⟨⟨by decide, acA2 h⟩, (fun _ h => by cases h)⟩)⟩) (acA0 h)
end Go.Proofs.YtgiioiohgnfmgaaGreatDoor
