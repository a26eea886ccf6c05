/- The law ModesOrder returns true, tied to the program's text. Conditions: none beyond the given row's own. -/
import Derived.Test.YtjadcoglgnabpaaGreatDoorTie
import Derived.Test.YtjadcoglgnabpaaGreatDoorCards
import Derived.ProofKit
import Derived.SevenTiedAt
import Derived.Test.YtjadcoglgnabpaaGreatDoorOrLs
namespace Go.Proofs.YtjadcoglgnabpaaGreatDoor
open Go.ChangeShapes Go.WideShapes Go.ChangeAt Go.RowKit Go.Abs
theorem modesOrder_card : Rows.ModesOrderCardSaid :=
  Claim7.holds_tied_plain_at .later [] [.data, .data, .widerDeep, .widerDeep, .data, .data, .data, .data, .data, .data, .sentinel, .sentinel, .listed, .data, .widerDeep, .widerDeep, .data, .data, .data, .data, .pinned, .pinned, .pinned, .pinned] true (true, "bbdba43f9d55718f7bc00438ccc15aee1894b365fdf18df32b73f6b4743abf6f") true modesOrder_said (fun _ h => by cases h) (by kernel_rfl) (fun _ h => by cases h) modesOrder_row_tie rfl ⟨rfl, rfl⟩ (by kernel_rfl) rfl
    (fun f fn hf hfn => by
      obtain rfl : f = 4 := Option.some.inj (orNamed.symm.trans hf) |>.symm
      obtain rfl : fn = Tryz.f4 := (Option.some.inj (Tryz.func4.symm.trans hfn)).symm
      exact ⟨by kernel_rfl, fun j t ht => by
        rw [Tryz.params4] at ht
        have hm : t ∈ [23, 23, 23] := by simpa using Array.mem_of_getElem? ht
        have hall : ([23, 23, 23].all fun u => !Tryz.prog.wantsStandIn u) = true := by kernel_rfl
        exact (show Tryz.prog.wantsStandIn t = false by simpa using List.all_eq_true.1 hall t hm)⟩)
    (goesBy_no orNoGo rfl)
#print axioms modesOrder_said
#print axioms modesOrder_card
end Go.Proofs.YtjadcoglgnabpaaGreatDoor
