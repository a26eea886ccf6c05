/- The law EvalKnown (the examples of the chapter) returns true, tied to the program's text. Conditions: none beyond the given row's own. -/
import Derived.Test.YtgiioiohgnfmgaaGreatDoorTie
import Derived.Test.YtgiioiohgnfmgaaGreatDoorCards
import Derived.ProofKit
import Derived.SevenTiedAt
import Derived.Test.YtgiioiohgnfmgaaGreatDoorEvLs
namespace Go.Proofs.YtgiioiohgnfmgaaGreatDoor
open Go.ChangeShapes Go.WideShapes Go.ChangeAt Go.RowKit Go.Abs
theorem evalKnown_card : Rows.EvalKnownCardSaid :=
  Claim7.holds_tied_plain_at .later [] [.data, .data, .widerDeep, .widerDeep, .data, .data, .data, .data, .data, .data, .sentinel, .sentinel, .listed, .data, .widerDeep, .widerDeep, .data, .data, .data, .data, .pinned, .pinned, .pinned, .pinned] true (true, "883129819e47cefd0960c9478e1a6069aa6717df4280c5263ec371d08a4ea9db") true evalKnown_said (fun _ h => by cases h) (by kernel_rfl) (fun _ h => by cases h) evalKnown_row_tie rfl ⟨rfl, rfl⟩ (by kernel_rfl) rfl
    (fun f fn hf hfn => by
      obtain rfl : f = 3 := Option.some.inj (evNamed.symm.trans hf) |>.symm
      obtain rfl : fn = Tryz.f3 := (Option.some.inj (Tryz.func3.symm.trans hfn)).symm
      exact ⟨by kernel_rfl, fun j t ht => by
        rw [Tryz.params3] at ht
        simp at ht⟩)
    (goesBy_no evNoGo rfl)
#print axioms evalKnown_said
#print axioms evalKnown_card
end Go.Proofs.YtgiioiohgnfmgaaGreatDoor
