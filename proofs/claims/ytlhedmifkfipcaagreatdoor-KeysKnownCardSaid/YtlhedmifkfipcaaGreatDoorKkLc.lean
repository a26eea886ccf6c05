/- The law KeysKnown (the examples of the chapter) returns true, tied to the program's text. Conditions: none beyond the given row's own. -/
import Derived.Test.YtlhedmifkfipcaaGreatDoorTie
import Derived.Test.YtlhedmifkfipcaaGreatDoorCards
import Derived.ProofKit
import Derived.SevenTiedAt
import Derived.Test.YtlhedmifkfipcaaGreatDoorKkLs
namespace Go.Proofs.YtlhedmifkfipcaaGreatDoor
open Go.ChangeShapes Go.WideShapes Go.ChangeAt Go.RowKit Go.Abs
theorem keysKnown_card : Rows.KeysKnownCardSaid :=
  Claim7.holds_tied_plain_at .later [] [.data, .data, .widerDeep, .data, .data, .data, .widerDeep, .widerDeep, .pinned] true (true, "503509f4fc32e92b00af41059a635bb685077253bae0f1def7b360e02a23709c") true keysKnown_said (fun _ h => by cases h) (by kernel_rfl) (fun _ h => by cases h) keysKnown_row_tie rfl ⟨rfl, rfl⟩ (by kernel_rfl) rfl
    (fun f fn hf hfn => by
      obtain rfl : f = 3 := Option.some.inj (kkNamed.symm.trans hf) |>.symm
      obtain rfl : fn = Tryz.f3 := (Option.some.inj (Tryz.func3.symm.trans hfn)).symm
      exact ⟨by kernel_rfl, fun j t ht => by
        rw [Tryz.params3] at ht
        simp at ht⟩)
    (goesBy_no kkNoGo rfl)
#print axioms keysKnown_said
#print axioms keysKnown_card
end Go.Proofs.YtlhedmifkfipcaaGreatDoor
