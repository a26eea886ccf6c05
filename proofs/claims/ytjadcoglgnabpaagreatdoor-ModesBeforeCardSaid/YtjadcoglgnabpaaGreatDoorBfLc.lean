/- The law ModesBefore returns true, tied to the program's text. Conditions: none beyond the given row's own. -/
import Derived.Test.YtjadcoglgnabpaaGreatDoorTie
import Derived.Test.YtjadcoglgnabpaaGreatDoorCards
import Derived.ProofKit
import Derived.SevenTiedAt
import Derived.Test.YtjadcoglgnabpaaGreatDoorBfLs
namespace Go.Proofs.YtjadcoglgnabpaaGreatDoor
open Go.ChangeShapes Go.WideShapes Go.ChangeAt Go.RowKit Go.Abs
theorem modesBefore_card : Rows.ModesBeforeCardSaid :=
  Claim7.holds_tied_plain_at .later [] [.data, .data, .widerDeep, .widerDeep, .data, .data, .data, .data, .data, .data, .sentinel, .sentinel, .listed, .data, .widerDeep, .widerDeep, .data, .data, .data, .data, .pinned, .pinned, .pinned, .pinned] true (true, "bbdba43f9d55718f7bc00438ccc15aee1894b365fdf18df32b73f6b4743abf6f") true modesBefore_said (fun _ h => by cases h) (by kernel_rfl) (fun _ h => by cases h) modesBefore_row_tie rfl ⟨rfl, rfl⟩ (by kernel_rfl) rfl
    (fun f fn hf hfn => by
      obtain rfl : f = 3 := Option.some.inj (bfNamed.symm.trans hf) |>.symm
      obtain rfl : fn = Tryz.f3 := (Option.some.inj (Tryz.func3.symm.trans hfn)).symm
      exact ⟨by kernel_rfl, fun j t ht => by
        rw [Tryz.params3] at ht
        have hm : t ∈ [23, 23] := by simpa using Array.mem_of_getElem? ht
        have hall : ([23, 23].all fun u => !Tryz.prog.wantsStandIn u) = true := by kernel_rfl
        exact (show Tryz.prog.wantsStandIn t = false by simpa using List.all_eq_true.1 hall t hm)⟩)
    (goesBy_no bfNoGo rfl)
#print axioms modesBefore_said
#print axioms modesBefore_card
end Go.Proofs.YtjadcoglgnabpaaGreatDoor
