/-
  DERIVED. GIVEN WITH THE SEED: THE CARDS: each row of YtjadcoglgnabpaaGreatDoorRows.lean that lists a variable, with what it lists TIED to the program's text (the seventh form; the later family's looks); each row that meets fmt, with fmt's text TOLD by the authors' own Lean function (tested against real Go, not proved from fmt's source: count such statements apart). THE CARD IS WHAT COUNTS. Prove the row's statement (the work); the ties are given (YtjadcoglgnabpaaGreatDoorTie.lean); close each card by the builder's one call (the guide's Derived/Test/ToyasCard.lean, 'card_holds'). Laid BY PROGRAM, IN A SANDBOX (cutbox-door.mjs). By AI agents, Wed Nov 11 2026. No macro, syntax, notation, axiom, sorry.
-/
import Derived.Test.YtjadcoglgnabpaaGreatDoorRows
import GoSem.ClaimSeven
namespace Go.Proofs.YtjadcoglgnabpaaGreatDoor
namespace Rows

/-- THE TIED CARD OF 'chisellaw27.ModesBefore'. -/
def modesBeforeCard : Claim7 := { stood := { row := modesBeforeRow, standIns := [], harness := (true, "bbdba43f9d55718f7bc00438ccc15aee1894b365fdf18df32b73f6b4743abf6f"), looks := true }, kinds := [], alts := [], laidByText := true, laidKinds := [.data, .data, .widerDeep, .widerDeep, .data, .data, .data, .data, .data, .data, .sentinel, .sentinel, .listed, .data, .widerDeep, .widerDeep, .data, .data, .data, .data, .pinned, .pinned, .pinned, .pinned], laidTests := true, laidLooks := .later }
def ModesBeforeCardSaid : Prop := Claim7.holds Tryz.pinned (.plain (OpenSpec.ofChange modesBeforeSpec)) modesBeforeCard

/-- THE TIED CARD OF 'chisellaw27.ModesOrder'. -/
def modesOrderCard : Claim7 := { stood := { row := modesOrderRow, standIns := [], harness := (true, "bbdba43f9d55718f7bc00438ccc15aee1894b365fdf18df32b73f6b4743abf6f"), looks := true }, kinds := [], alts := [], laidByText := true, laidKinds := [.data, .data, .widerDeep, .widerDeep, .data, .data, .data, .data, .data, .data, .sentinel, .sentinel, .listed, .data, .widerDeep, .widerDeep, .data, .data, .data, .data, .pinned, .pinned, .pinned, .pinned], laidTests := true, laidLooks := .later }
def ModesOrderCardSaid : Prop := Claim7.holds Tryz.pinned (.plain (OpenSpec.ofChange modesOrderSpec)) modesOrderCard

/-- THE SECOND FORM's CARD OF 'chisellaw27.ModesBefore'. -/
def modesBeforeUptoCard : Claim7 := { stood := { row := modesBeforeUptoRow, standIns := [], harness := (true, "bbdba43f9d55718f7bc00438ccc15aee1894b365fdf18df32b73f6b4743abf6f"), looks := true }, kinds := [], alts := [], laidByText := true, laidKinds := [.data, .data, .widerDeep, .widerDeep, .data, .data, .data, .data, .data, .data, .sentinel, .sentinel, .listed, .data, .widerDeep, .widerDeep, .data, .data, .data, .data, .pinned, .pinned, .pinned, .pinned], laidTests := true, laidLooks := .later }
def ModesBeforeUptoCardSaid : Prop := Claim7.holds Tryz.pinned (.plain (OpenSpec.upto modesBeforeSpec)) modesBeforeUptoCard

/-- THE SECOND FORM's CARD OF 'chisellaw27.ModesOrder'. -/
def modesOrderUptoCard : Claim7 := { stood := { row := modesOrderUptoRow, standIns := [], harness := (true, "bbdba43f9d55718f7bc00438ccc15aee1894b365fdf18df32b73f6b4743abf6f"), looks := true }, kinds := [], alts := [], laidByText := true, laidKinds := [.data, .data, .widerDeep, .widerDeep, .data, .data, .data, .data, .data, .data, .sentinel, .sentinel, .listed, .data, .widerDeep, .widerDeep, .data, .data, .data, .data, .pinned, .pinned, .pinned, .pinned], laidTests := true, laidLooks := .later }
def ModesOrderUptoCardSaid : Prop := Claim7.holds Tryz.pinned (.plain (OpenSpec.upto modesOrderSpec)) modesOrderUptoCard
end Rows
end Go.Proofs.YtjadcoglgnabpaaGreatDoor
