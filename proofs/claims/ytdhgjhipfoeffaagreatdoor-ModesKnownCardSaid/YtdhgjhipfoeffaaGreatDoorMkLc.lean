/- The law ModesKnown (chapter 27: the examples of the chapter, and errors) returns true, tied to the program's text. Conditions: none beyond the given row's own. -/
import Derived.Test.YtdhgjhipfoeffaaGreatDoorTie
import Derived.Test.YtdhgjhipfoeffaaGreatDoorCards
import Derived.ProofKit
import Derived.SevenTiedAt
import Derived.Test.YtdhgjhipfoeffaaGreatDoorMkLs
namespace Go.Proofs.YtdhgjhipfoeffaaGreatDoor
open Go.ChangeShapes Go.WideShapes Go.ChangeAt Go.RowKit Go.Abs
theorem modesKnown_card : Rows.ModesKnownCardSaid :=
  Claim7.holds_tied_plain_at .later [] [.data, .data, .widerDeep, .widerDeep, .data, .data, .data, .data, .data, .data, .sentinel, .sentinel, .listed, .data, .widerDeep, .widerDeep, .data, .data, .data, .data, .pinned, .pinned, .pinned, .pinned] true (true, "8a1d10dc8ab8a97e8761a3c6ba138c06bf44f8cdc4689bea0901f2a083cb32e6") true modesKnown_said (fun _ h => by cases h) (by kernel_rfl) (fun _ h => by cases h) modesKnown_row_tie rfl ⟨rfl, rfl⟩ (by kernel_rfl) rfl
    (fun f fn hf hfn => by
      obtain rfl : f = 5 := Option.some.inj (mkNamed.symm.trans hf) |>.symm
      obtain rfl : fn = Tryz.f5 := (Option.some.inj (Tryz.func5.symm.trans hfn)).symm
      exact ⟨by kernel_rfl, fun j t ht => by
        rw [Tryz.params5] at ht
        simp at ht⟩)
    (goesBy_no mkNoGo rfl)
#print axioms modesKnown_said
#print axioms modesKnown_card
end Go.Proofs.YtdhgjhipfoeffaaGreatDoor
