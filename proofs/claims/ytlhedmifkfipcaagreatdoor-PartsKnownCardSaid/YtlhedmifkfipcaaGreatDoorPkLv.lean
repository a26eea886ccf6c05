/- Where the variables of the law PartsKnown are as they were laid, the run may begin. -/
import Derived.Test.YtlhedmifkfipcaaGreatDoorPkKn
import Derived.Test.YtlhedmifkfipcaaGreatDoorCards
import Derived.LaidByTextLater
import Derived.KernelRfl
namespace Go.Proofs.YtlhedmifkfipcaaGreatDoor
open Go Go.Abs
set_option maxRecDepth 1000000
theorem pkM0 : ("chisel/lex.signs", (Rows.laid_chisel_lex_signs : DataW Unit)) ∈ Rows.partsKnownRow.laid := (List.Mem.tail _ (List.Mem.tail _ (List.Mem.head _)))
def pkSg0 : List (List UInt8) := [[46, 46], [47, 47], [124, 124], [33, 61], [60, 61], [60, 60], [62, 61], [62, 62], [58, 61], [58, 58], [61, 62], [40], [41], [91], [93], [123], [125], [44], [46], [64], [47], [124], [43], [45], [42], [61], [60], [62], [58], [33], [63], [35], [36]]
theorem pkD0 : (Rows.laid_chisel_lex_signs : DataW Unit) = DataW.slice (pkSg0.map fun s => .lit (.string s)) [] := by kernel_rfl
theorem pkN0 : (("chisel/lex.signs", DataW.slice (pkSg0.map fun s => .lit (.string s)) []) : String × DataW Unit) ∈ Rows.partsKnownRow.laid := pkD0 ▸ pkM0
theorem pkA0 {W : World} (h : laidMet Tryz.prog Rows.partsKnownRow.laid W) : ∃ b σ ty fz, W.heap[1]? = some (.cells #[.slice (some ⟨b, σ, none⟩) pkSg0.length pkSg0.length] ty fz) ∧ StrsAt W b σ pkSg0 := laid_slc (t := 40) (e := 9) h pkN0 (by kernel_rfl) (by kernel_rfl) (by kernel_rfl) (by kernel_rfl) (by kernel_rfl) (by decide)
theorem pkM1 : ("chisel/expr.tests", (Rows.laid_chisel_expr_tests : DataW Unit)) ∈ Rows.partsKnownRow.laid := (List.Mem.tail _ (List.Mem.tail _ (List.Mem.tail _ (List.Mem.tail _ (List.Mem.head _)))))
theorem pkD1 : flatD (Rows.laid_chisel_expr_tests : DataW Unit) = some pkL4 := by kernel_rfl
theorem pkA1 {W : World} (h : laidMet Tryz.prog Rows.partsKnownRow.laid W) : RowAt W 4 0 pkL4 := laid_flat (t := 419) 6 h pkM1 (by kernel_rfl) (by kernel_rfl) (by kernel_rfl) pkD1
theorem pkM2 : ("chisel/expr.axes", (Rows.laid_chisel_expr_axes : DataW Unit)) ∈ Rows.partsKnownRow.laid := (List.Mem.tail _ (List.Mem.tail _ (List.Mem.tail _ (List.Mem.head _))))
theorem pkD2 : flatD (Rows.laid_chisel_expr_axes : DataW Unit) = some pkL3 := by kernel_rfl
theorem pkA2 {W : World} (h : laidMet Tryz.prog Rows.partsKnownRow.laid W) : RowAt W 3 0 pkL3 := laid_flat (t := 416) 6 h pkM2 (by kernel_rfl) (by kernel_rfl) (by kernel_rfl) pkD2
theorem pkM3 : ("math/bits.deBruijn64tab", (Rows.laid_math_bits_deBruijn64tab : DataW Unit)) ∈ Rows.partsKnownRow.laid := (List.Mem.tail _ (List.Mem.head _))
theorem pkD3 : flatD (Rows.laid_math_bits_deBruijn64tab : DataW Unit) = some pkL22 := by kernel_rfl
theorem pkA3 {W : World} (h : laidMet Tryz.prog Rows.partsKnownRow.laid W) : RowAt W 22 0 pkL22 := laid_flat (t := 744) 6 h pkM3 (by kernel_rfl) (by kernel_rfl) (by kernel_rfl) pkD3
theorem pkHeap_eq : pkH = laidHeap (⟨1, [.slc 23 0 pkSg0.length (some pkSg0.length)]⟩ :: LRow.strs (23, pkSg0) :: ([(4, pkL4), (3, pkL3), (22, pkL22)] : List (Nat × List AV)).map LRow.any) := by kernel_rfl
theorem pkAt (W : World) (h : laidMetH Tryz.prog Rows.partsKnownRow.laid W) : LaidAt 23 pkH 24 W := by
  rw [MakeChecks.laidMetH_plain _ _ _ (by kernel_rfl)] at h
  have hG : 23 ≤ W.heap.size := (pkA3 h).lt
  rw [pkHeap_eq]
  exact LaidAt.rowsSlc hG (by decide) (List.forall_mem_cons.2 ⟨⟨by decide, pkA1 h⟩, (List.forall_mem_cons.2 ⟨⟨by decide, pkA2 h⟩, (List.forall_mem_cons.2 ⟨⟨by decide, pkA3 h⟩, (fun _ h => by cases h)⟩)⟩)⟩) (pkA0 h)
end Go.Proofs.YtlhedmifkfipcaaGreatDoor
