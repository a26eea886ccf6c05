/- The law AccumKnown (the examples of the chapter) returns true, tied to the program's text. Conditions: none beyond the given row's own. -/
import Derived.Test.YtgiioiohgnfmgaaGreatDoorTie
import Derived.Test.YtgiioiohgnfmgaaGreatDoorCards
import Derived.ProofKit
import Derived.SevenTiedAt
import Derived.Test.YtgiioiohgnfmgaaGreatDoorAcLs
namespace Go.Proofs.YtgiioiohgnfmgaaGreatDoor
open Go.ChangeShapes Go.WideShapes Go.ChangeAt Go.RowKit Go.Abs
theorem accumKnown_card : Rows.AccumKnownCardSaid :=
  Claim7.holds_tied_plain_at .later [] [.data, .data, .data, .widerDeep, .widerDeep] true (true, "883129819e47cefd0960c9478e1a6069aa6717df4280c5263ec371d08a4ea9db") true accumKnown_said (fun _ h => by cases h) (by kernel_rfl) (fun _ h => by cases h) accumKnown_row_tie rfl ⟨rfl, rfl⟩ (by kernel_rfl) rfl
    (fun f fn hf hfn => by
      obtain rfl : f = 5 := Option.some.inj (acNamed.symm.trans hf) |>.symm
      obtain rfl : fn = Tryz.f5 := (Option.some.inj (Tryz.func5.symm.trans hfn)).symm
      exact ⟨by kernel_rfl, fun j t ht => by
        rw [Tryz.params5] at ht
        simp at ht⟩)
    (goesBy_no acNoGo rfl)
#print axioms accumKnown_said
#print axioms accumKnown_card
end Go.Proofs.YtgiioiohgnfmgaaGreatDoor
