/- Where the variables of the law KeysKnown are as they were laid, the run may begin. -/
import Derived.Test.YtlhedmifkfipcaaGreatDoorKkKn
import Derived.Test.YtlhedmifkfipcaaGreatDoorCards
import Derived.LaidByTextLater
import Derived.KernelRfl
namespace Go.Proofs.YtlhedmifkfipcaaGreatDoor
open Go Go.Abs
set_option maxRecDepth 1000000
theorem kkM0 : ("chisel/lex.signs", (Rows.laid_chisel_lex_signs : DataW Unit)) ∈ Rows.keysKnownRow.laid := (List.Mem.tail _ (List.Mem.tail _ (List.Mem.tail _ (List.Mem.tail _ (List.Mem.tail _ (List.Mem.head _))))))
def kkSg0 : List (List UInt8) := [[46, 46], [47, 47], [124, 124], [33, 61], [60, 61], [60, 60], [62, 61], [62, 62], [58, 61], [58, 58], [61, 62], [40], [41], [91], [93], [123], [125], [44], [46], [64], [47], [124], [43], [45], [42], [61], [60], [62], [58], [33], [63], [35], [36]]
theorem kkLd0 : (Rows.laid_chisel_lex_signs : DataW Unit) = DataW.slice (kkSg0.map fun s => .lit (.string s)) [] := by kernel_rfl
theorem kkN0 : (("chisel/lex.signs", DataW.slice (kkSg0.map fun s => .lit (.string s)) []) : String × DataW Unit) ∈ Rows.keysKnownRow.laid := kkLd0 ▸ kkM0
theorem kkA0 {W : World} (h : laidMet Tryz.prog Rows.keysKnownRow.laid W) : ∃ b σ ty fz, W.heap[1]? = some (.cells #[.slice (some ⟨b, σ, none⟩) kkSg0.length kkSg0.length] ty fz) ∧ StrsAt W b σ kkSg0 := laid_slc (t := 40) (e := 9) h kkN0 (by kernel_rfl) (by kernel_rfl) (by kernel_rfl) (by kernel_rfl) (by kernel_rfl) (by decide)
theorem kkM1 : ("chisel/expr.tests", (Rows.laid_chisel_expr_tests : DataW Unit)) ∈ Rows.keysKnownRow.laid := (List.Mem.tail _ (List.Mem.tail _ (List.Mem.tail _ (List.Mem.tail _ (List.Mem.tail _ (List.Mem.tail _ (List.Mem.tail _ (List.Mem.head _))))))))
theorem kkLd1 : flatD (Rows.laid_chisel_expr_tests : DataW Unit) = some kkL4 := by kernel_rfl
theorem kkA1 {W : World} (h : laidMet Tryz.prog Rows.keysKnownRow.laid W) : RowAt W 4 0 kkL4 := laid_flat (t := 419) 6 h kkM1 (by kernel_rfl) (by kernel_rfl) (by kernel_rfl) kkLd1
theorem kkM2 : ("chisel/expr.axes", (Rows.laid_chisel_expr_axes : DataW Unit)) ∈ Rows.keysKnownRow.laid := (List.Mem.tail _ (List.Mem.tail _ (List.Mem.tail _ (List.Mem.tail _ (List.Mem.tail _ (List.Mem.tail _ (List.Mem.head _)))))))
theorem kkLd2 : flatD (Rows.laid_chisel_expr_axes : DataW Unit) = some kkL3 := by kernel_rfl
theorem kkA2 {W : World} (h : laidMet Tryz.prog Rows.keysKnownRow.laid W) : RowAt W 3 0 kkL3 := laid_flat (t := 416) 6 h kkM2 (by kernel_rfl) (by kernel_rfl) (by kernel_rfl) kkLd2
theorem kkM3 : ("math/bits.deBruijn64tab", (Rows.laid_math_bits_deBruijn64tab : DataW Unit)) ∈ Rows.keysKnownRow.laid := (List.Mem.tail _ (List.Mem.head _))
theorem kkLd3 : flatD (Rows.laid_math_bits_deBruijn64tab : DataW Unit) = some kkL22 := by kernel_rfl
theorem kkA3 {W : World} (h : laidMet Tryz.prog Rows.keysKnownRow.laid W) : RowAt W 22 0 kkL22 := laid_flat (t := 744) 6 h kkM3 (by kernel_rfl) (by kernel_rfl) (by kernel_rfl) kkLd3
theorem kkM4 : ("internal/strconv.pow10Tab", (Rows.laid_internal_strconv_pow10Tab : DataW Unit)) ∈ Rows.keysKnownRow.laid := (List.Mem.tail _ (List.Mem.tail _ (List.Mem.tail _ (List.Mem.tail _ (List.Mem.tail _ (List.Mem.tail _ (List.Mem.tail _ (List.Mem.tail _ (List.Mem.head _)))))))))
theorem kkLd4 : flatD (Rows.laid_internal_strconv_pow10Tab : DataW Unit) = some kkL16 := by kernel_rfl
theorem kkA4 {W : World} (h : laidMet Tryz.prog Rows.keysKnownRow.laid W) : RowAt W 16 0 kkL16 := laid_flat (t := 671) 6 h kkM4 (by kernel_rfl) (by kernel_rfl) (by kernel_rfl) kkLd4
theorem kkM5 : ("internal/strconv.optimize", (Rows.laid_internal_strconv_optimize : DataW Unit)) ∈ Rows.keysKnownRow.laid := (List.Mem.tail _ (List.Mem.tail _ (List.Mem.tail _ (List.Mem.head _))))
theorem kkLd5 : flatD (Rows.laid_internal_strconv_optimize : DataW Unit) = some kkL5 := by kernel_rfl
theorem kkA5 {W : World} (h : laidMet Tryz.prog Rows.keysKnownRow.laid W) : RowAt W 5 0 kkL5 := laid_flat (t := 4) 6 h kkM5 (by kernel_rfl) (by kernel_rfl) (by kernel_rfl) kkLd5
theorem kkM6 : ("internal/strconv.uint64pow10", (Rows.laid_internal_strconv_uint64pow10 : DataW Unit)) ∈ Rows.keysKnownRow.laid := (List.Mem.tail _ (List.Mem.tail _ (List.Mem.tail _ (List.Mem.tail _ (List.Mem.head _)))))
theorem kkLd6 : flatD (Rows.laid_internal_strconv_uint64pow10 : DataW Unit) = some kkL10 := by kernel_rfl
theorem kkA6 {W : World} (h : laidMet Tryz.prog Rows.keysKnownRow.laid W) : RowAt W 10 0 kkL10 := laid_flat (t := 594) 6 h kkM6 (by kernel_rfl) (by kernel_rfl) (by kernel_rfl) kkLd6
theorem kkM7 : ("internal/strconv.float64info", (Rows.laid_internal_strconv_float64info : DataW Unit)) ∈ Rows.keysKnownRow.laid := (List.Mem.tail _ (List.Mem.tail _ (List.Mem.head _)))
theorem kkLd7 : flatD (Rows.laid_internal_strconv_float64info : DataW Unit) = some kkL15 := by kernel_rfl
theorem kkA7 {W : World} (h : laidMet Tryz.prog Rows.keysKnownRow.laid W) : RowAt W 15 0 kkL15 := laid_flat (t := 658) 6 h kkM7 (by kernel_rfl) (by kernel_rfl) (by kernel_rfl) kkLd7
theorem kkHeap_eq : kkH = laidHeap (⟨1, [.slc 23 0 kkSg0.length (some kkSg0.length)]⟩ :: LRow.strs (23, kkSg0) :: ([(4, kkL4), (3, kkL3), (22, kkL22), (16, kkL16), (5, kkL5), (10, kkL10), (15, kkL15)] : List (Nat × List AV)).map LRow.any) := by kernel_rfl
theorem kkAt (W : World) (h : laidMetH Tryz.prog Rows.keysKnownRow.laid W) : LaidAt 23 kkH 24 W := by
  rw [MakeChecks.laidMetH_plain _ _ _ (by kernel_rfl)] at h
  have hG : 23 ≤ W.heap.size := (kkA3 h).lt
  rw [kkHeap_eq]
  exact LaidAt.rowsSlc hG (by decide) (List.forall_mem_cons.2 ⟨⟨by decide, kkA1 h⟩, (List.forall_mem_cons.2 ⟨⟨by decide, kkA2 h⟩, (List.forall_mem_cons.2 ⟨⟨by decide, kkA3 h⟩, (List.forall_mem_cons.2 ⟨⟨by decide, kkA4 h⟩, (List.forall_mem_cons.2 ⟨⟨by decide, kkA5 h⟩, (List.forall_mem_cons.2 ⟨⟨by decide, kkA6 h⟩, (List.forall_mem_cons.2 ⟨⟨by decide, kkA7 h⟩, (fun _ h => by cases h)⟩)⟩)⟩)⟩)⟩)⟩)⟩) (kkA0 h)
end Go.Proofs.YtlhedmifkfipcaaGreatDoor
