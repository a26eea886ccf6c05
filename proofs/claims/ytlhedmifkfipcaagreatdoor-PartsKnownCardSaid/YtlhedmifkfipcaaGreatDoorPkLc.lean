/- The law PartsKnown (the examples of the chapter) returns true, tied to the program's text. Conditions: none beyond the given row's own. -/
import Derived.Test.YtlhedmifkfipcaaGreatDoorTie
import Derived.Test.YtlhedmifkfipcaaGreatDoorCards
import Derived.ProofKit
import Derived.SevenTiedAt
import Derived.Test.YtlhedmifkfipcaaGreatDoorPkLs
namespace Go.Proofs.YtlhedmifkfipcaaGreatDoor
open Go.ChangeShapes Go.WideShapes Go.ChangeAt Go.RowKit Go.Abs
theorem partsKnown_card : Rows.PartsKnownCardSaid :=
  Claim7.holds_tied_plain_at .later [] [.data, .data, .data, .widerDeep, .widerDeep] true (true, "503509f4fc32e92b00af41059a635bb685077253bae0f1def7b360e02a23709c") true partsKnown_said (fun _ h => by cases h) (by kernel_rfl) (fun _ h => by cases h) partsKnown_row_tie rfl ⟨rfl, rfl⟩ (by kernel_rfl) rfl
    (fun f fn hf hfn => by
      obtain rfl : f = 4 := Option.some.inj (pkNamed.symm.trans hf) |>.symm
      obtain rfl : fn = Tryz.f4 := (Option.some.inj (Tryz.func4.symm.trans hfn)).symm
      exact ⟨by kernel_rfl, fun j t ht => by
        rw [Tryz.params4] at ht
        simp at ht⟩)
    (goesBy_no pkNoGo rfl)
#print axioms partsKnown_said
#print axioms partsKnown_card
end Go.Proofs.YtlhedmifkfipcaaGreatDoor
