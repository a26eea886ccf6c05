/-
  DERIVED. GIVEN WITH THE SEED: THE CARDS: each row of YtdhgjhipfoeffaaGreatDoorRows.lean that lists a variable, with what it lists TIED to the program's text (the seventh form; the later family's looks); each row that meets fmt, with fmt's text TOLD by the authors' own Lean function (tested against real Go, not proved from fmt's source: count such statements apart). THE CARD IS WHAT COUNTS. Prove the row's statement (the work); the ties are given (YtdhgjhipfoeffaaGreatDoorTie.lean); close each card by the builder's one call (the guide's Derived/Test/ToyasCard.lean, 'card_holds'). Laid BY PROGRAM, IN A SANDBOX (cutbox-door.mjs). By AI agents, Wed Nov 11 2026. No macro, syntax, notation, axiom, sorry.
-/
import Derived.Test.YtdhgjhipfoeffaaGreatDoorRows
import GoSem.ClaimSeven
namespace Go.Proofs.YtdhgjhipfoeffaaGreatDoor
namespace Rows

/-- THE TIED CARD OF 'chisellaw27.ModesBefore'. -/
def modesBeforeCard : Claim7 := { stood := { row := modesBeforeRow, standIns := [], harness := (true, "8a1d10dc8ab8a97e8761a3c6ba138c06bf44f8cdc4689bea0901f2a083cb32e6"), looks := true }, kinds := [], alts := [], laidByText := true, laidKinds := [.data, .data, .widerDeep, .widerDeep, .data, .data, .data, .data, .data, .data, .sentinel, .sentinel, .listed, .data, .widerDeep, .widerDeep, .data, .data, .data, .data, .pinned, .pinned, .pinned, .pinned], laidTests := true, laidLooks := .later }
def ModesBeforeCardSaid : Prop := Claim7.holds Tryz.pinned (.plain (OpenSpec.ofChange modesBeforeSpec)) modesBeforeCard

/-- THE TIED CARD OF 'chisellaw27.ModesOrder'. -/
def modesOrderCard : Claim7 := { stood := { row := modesOrderRow, standIns := [], harness := (true, "8a1d10dc8ab8a97e8761a3c6ba138c06bf44f8cdc4689bea0901f2a083cb32e6"), looks := true }, kinds := [], alts := [], laidByText := true, laidKinds := [.data, .data, .widerDeep, .widerDeep, .data, .data, .data, .data, .data, .data, .sentinel, .sentinel, .listed, .data, .widerDeep, .widerDeep, .data, .data, .data, .data, .pinned, .pinned, .pinned, .pinned], laidTests := true, laidLooks := .later }
def ModesOrderCardSaid : Prop := Claim7.holds Tryz.pinned (.plain (OpenSpec.ofChange modesOrderSpec)) modesOrderCard

/-- THE TIED CARD OF 'chisellaw27.ModesKnown'. -/
def modesKnownCard : Claim7 := { stood := { row := modesKnownRow, standIns := [], harness := (true, "8a1d10dc8ab8a97e8761a3c6ba138c06bf44f8cdc4689bea0901f2a083cb32e6"), looks := true }, kinds := [], alts := [], laidByText := true, laidKinds := [.data, .data, .widerDeep, .widerDeep, .data, .data, .data, .data, .data, .data, .sentinel, .sentinel, .listed, .data, .widerDeep, .widerDeep, .data, .data, .data, .data, .pinned, .pinned, .pinned, .pinned], laidTests := true, laidLooks := .later }
def ModesKnownCardSaid : Prop := Claim7.holds Tryz.pinned (.plain (OpenSpec.ofChange modesKnownSpec)) modesKnownCard

/-- THE SECOND FORM's CARD OF 'chisellaw27.ModesBefore'. -/
def modesBeforeUptoCard : Claim7 := { stood := { row := modesBeforeUptoRow, standIns := [], harness := (true, "8a1d10dc8ab8a97e8761a3c6ba138c06bf44f8cdc4689bea0901f2a083cb32e6"), looks := true }, kinds := [], alts := [], laidByText := true, laidKinds := [.data, .data, .widerDeep, .widerDeep, .data, .data, .data, .data, .data, .data, .sentinel, .sentinel, .listed, .data, .widerDeep, .widerDeep, .data, .data, .data, .data, .pinned, .pinned, .pinned, .pinned], laidTests := true, laidLooks := .later }
def ModesBeforeUptoCardSaid : Prop := Claim7.holds Tryz.pinned (.plain (OpenSpec.upto modesBeforeSpec)) modesBeforeUptoCard

/-- THE SECOND FORM's CARD OF 'chisellaw27.ModesOrder'. -/
def modesOrderUptoCard : Claim7 := { stood := { row := modesOrderUptoRow, standIns := [], harness := (true, "8a1d10dc8ab8a97e8761a3c6ba138c06bf44f8cdc4689bea0901f2a083cb32e6"), looks := true }, kinds := [], alts := [], laidByText := true, laidKinds := [.data, .data, .widerDeep, .widerDeep, .data, .data, .data, .data, .data, .data, .sentinel, .sentinel, .listed, .data, .widerDeep, .widerDeep, .data, .data, .data, .data, .pinned, .pinned, .pinned, .pinned], laidTests := true, laidLooks := .later }
def ModesOrderUptoCardSaid : Prop := Claim7.holds Tryz.pinned (.plain (OpenSpec.upto modesOrderSpec)) modesOrderUptoCard

/-- THE SECOND FORM's CARD OF 'chisellaw27.ModesKnown'. -/
def modesKnownUptoCard : Claim7 := { stood := { row := modesKnownUptoRow, standIns := [], harness := (true, "8a1d10dc8ab8a97e8761a3c6ba138c06bf44f8cdc4689bea0901f2a083cb32e6"), looks := true }, kinds := [], alts := [], laidByText := true, laidKinds := [.data, .data, .widerDeep, .widerDeep, .data, .data, .data, .data, .data, .data, .sentinel, .sentinel, .listed, .data, .widerDeep, .widerDeep, .data, .data, .data, .data, .pinned, .pinned, .pinned, .pinned], laidTests := true, laidLooks := .later }
def ModesKnownUptoCardSaid : Prop := Claim7.holds Tryz.pinned (.plain (OpenSpec.upto modesKnownSpec)) modesKnownUptoCard
end Rows
end Go.Proofs.YtdhgjhipfoeffaaGreatDoor
