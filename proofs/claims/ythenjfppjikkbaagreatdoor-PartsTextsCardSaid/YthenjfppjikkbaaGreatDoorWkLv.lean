/- Where the variables of the law PartsTexts are as they were laid, the run may begin. -/
import Derived.Test.YthenjfppjikkbaaGreatDoorWkKn
import Derived.Test.YthenjfppjikkbaaGreatDoorCards
import Derived.LaidByTextLater
import Derived.KernelRfl
namespace Go.Proofs.YthenjfppjikkbaaGreatDoor
open Go Go.Abs
set_option maxRecDepth 1000000
theorem wkM0 : ("chisel/lex.signs", (Rows.laid_chisel_lex_signs : DataW Unit)) ∈ Rows.partsTextsRow.laid := (List.Mem.tail _ (List.Mem.tail _ (List.Mem.head _)))
def wkSg0 : List (List UInt8) := [[46, 46], [47, 47], [124, 124], [33, 61], [60, 61], [60, 60], [62, 61], [62, 62], [58, 61], [58, 58], [61, 62], [40], [41], [91], [93], [123], [125], [44], [46], [64], [47], [124], [43], [45], [42], [61], [60], [62], [58], [33], [63], [35], [36]]
theorem wkD0 : (Rows.laid_chisel_lex_signs : DataW Unit) = DataW.slice (wkSg0.map fun s => .lit (.string s)) [] := by kernel_rfl
theorem wkN0 : (("chisel/lex.signs", DataW.slice (wkSg0.map fun s => .lit (.string s)) []) : String × DataW Unit) ∈ Rows.partsTextsRow.laid := wkD0 ▸ wkM0
theorem wkA0 {W : World} (h : laidMet Tryz.prog Rows.partsTextsRow.laid W) : ∃ b σ ty fz, W.heap[2]? = some (.cells #[.slice (some ⟨b, σ, none⟩) wkSg0.length wkSg0.length] ty fz) ∧ StrsAt W b σ wkSg0 := laid_slc (t := 45) (e := 9) h wkN0 (by kernel_rfl) (by kernel_rfl) (by kernel_rfl) (by kernel_rfl) (by kernel_rfl) (by decide)
theorem wkHeap_eq : wkH = laidHeap (⟨2, [.slc 3 0 wkSg0.length (some wkSg0.length)]⟩ :: LRow.strs (3, wkSg0) :: ([] : List (Nat × List AV)).map LRow.any) := by kernel_rfl
theorem wkAt (W : World) (h : laidMetH Tryz.prog Rows.partsTextsRow.laid W) : LaidAt 3 wkH 4 W := by
  rw [MakeChecks.laidMetH_plain _ _ _ (by kernel_rfl)] at h
  have hG : 3 ≤ W.heap.size := by
    obtain ⟨_, _, _, _, hb, _⟩ := wkA0 h
    exact (Array.getElem?_eq_some_iff.1 hb).1
  rw [wkHeap_eq]
  exact LaidAt.rowsSlc hG (by decide) (fun _ h => by cases h) (wkA0 h)
end Go.Proofs.YthenjfppjikkbaaGreatDoor
