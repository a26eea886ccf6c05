/- The law PartsTexts returns true at every text, tied to the program's text. Conditions: none beyond the given row's own. -/
import Derived.Test.YthenjfppjikkbaaGreatDoorTie
import Derived.Test.YthenjfppjikkbaaGreatDoorCards
import Derived.ProofKit
import Derived.SevenTiedAt
import Derived.Test.YthenjfppjikkbaaGreatDoorPtLs
namespace Go.Proofs.YthenjfppjikkbaaGreatDoor
open Go.ChangeShapes Go.WideShapes Go.ChangeAt Go.RowKit Go.Abs
theorem partsTexts_card : Rows.PartsTextsCardSaid :=
  Claim7.holds_tied_plain_at .later [] [.data, .data, .data] true (true, "3c1b1916c5b83632ca3da75132690a7382bdb73c4b6ca5aa8f23f849ea22f017") true partsTexts_said (fun _ h => by cases h) (by kernel_rfl) (fun _ h => by cases h) partsTexts_row_tie rfl ⟨rfl, rfl⟩ (by kernel_rfl) rfl
    (fun f fn hf hfn => by
      obtain rfl : f = 3 := Option.some.inj (ptNamed.symm.trans hf) |>.symm
      obtain rfl : fn = Tryz.f3 := (Option.some.inj (Tryz.func3.symm.trans hfn)).symm
      exact ⟨by kernel_rfl, fun j t ht => by
        rw [Tryz.params3] at ht
        have hm : t ∈ [9] := by simpa using Array.mem_of_getElem? ht
        have hall : ([9].all fun u => !Tryz.prog.wantsStandIn u) = true := by kernel_rfl
        exact (show Tryz.prog.wantsStandIn t = false by simpa using List.all_eq_true.1 hall t hm)⟩)
    (goesBy_no ptNoGo rfl)
#print axioms partsTexts_said
#print axioms partsTexts_card
end Go.Proofs.YthenjfppjikkbaaGreatDoor
