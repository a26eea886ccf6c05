/-
  DERIVED. GIVEN WITH THE SEED: THE CARDS: each row of YthenjfppjikkbaaGreatDoorRows.lean that lists a variable, with what it lists TIED to the program's text (the seventh form; the later family's looks); each row that meets fmt, with fmt's text TOLD by the authors' own Lean function (tested against real Go, not proved from fmt's source: count such statements apart). THE CARD IS WHAT COUNTS. Prove the row's statement (the work); the ties are given (YthenjfppjikkbaaGreatDoorTie.lean); close each card by the builder's one call (the guide's Derived/Test/ToyasCard.lean, 'card_holds'). Laid BY PROGRAM, IN A SANDBOX (cutbox-door.mjs). By AI agents, Wed Nov 11 2026. No macro, syntax, notation, axiom, sorry.
-/
import Derived.Test.YthenjfppjikkbaaGreatDoorRows
import GoSem.ClaimSeven
namespace Go.Proofs.YthenjfppjikkbaaGreatDoor
namespace Rows

/-- THE TIED CARD OF 'chisellaw22.PartsTexts'. -/
def partsTextsCard : Claim7 := { stood := { row := partsTextsRow, standIns := [], harness := (true, "3c1b1916c5b83632ca3da75132690a7382bdb73c4b6ca5aa8f23f849ea22f017"), looks := true }, kinds := [], alts := [], laidByText := true, laidKinds := [.data, .data, .data], laidTests := true, laidLooks := .later }
def PartsTextsCardSaid : Prop := Claim7.holds Tryz.pinned (.plain (OpenSpec.ofChange partsTextsSpec)) partsTextsCard

/-- THE SECOND FORM's CARD OF 'chisellaw22.PartsTexts'. -/
def partsTextsUptoCard : Claim7 := { stood := { row := partsTextsUptoRow, standIns := [], harness := (true, "3c1b1916c5b83632ca3da75132690a7382bdb73c4b6ca5aa8f23f849ea22f017"), looks := true }, kinds := [], alts := [], laidByText := true, laidKinds := [.data, .data, .data], laidTests := true, laidLooks := .later }
def PartsTextsUptoCardSaid : Prop := Claim7.holds Tryz.pinned (.plain (OpenSpec.upto partsTextsSpec)) partsTextsUptoCard
end Rows
end Go.Proofs.YthenjfppjikkbaaGreatDoor
