/-
  DERIVED. GIVEN WITH THE SEED: THE CARDS: each row of YtlhedmifkfipcaaGreatDoorRows.lean that lists a variable, with what it lists TIED to the program's text (the seventh form; the later family's looks); each row that meets fmt, with fmt's text TOLD by the authors' own Lean function (tested against real Go, not proved from fmt's source: count such statements apart). THE CARD IS WHAT COUNTS. Prove the row's statement (the work); the ties are given (YtlhedmifkfipcaaGreatDoorTie.lean); close each card by the builder's one call (the guide's Derived/Test/ToyasCard.lean, 'card_holds'). Laid BY PROGRAM, IN A SANDBOX (cutbox-door.mjs). By AI agents, Wed Nov 11 2026. No macro, syntax, notation, axiom, sorry.
-/
import Derived.Test.YtlhedmifkfipcaaGreatDoorRows
import GoSem.ClaimSeven
namespace Go.Proofs.YtlhedmifkfipcaaGreatDoor
namespace Rows

/-- THE TIED CARD OF 'chisellaw32.KeysKnown'. -/
def keysKnownCard : Claim7 := { stood := { row := keysKnownRow, standIns := [], harness := (true, "503509f4fc32e92b00af41059a635bb685077253bae0f1def7b360e02a23709c"), looks := true }, kinds := [], alts := [], laidByText := true, laidKinds := [.data, .data, .widerDeep, .data, .data, .data, .widerDeep, .widerDeep, .pinned], laidTests := true, laidLooks := .later }
def KeysKnownCardSaid : Prop := Claim7.holds Tryz.pinned (.plain (OpenSpec.ofChange keysKnownSpec)) keysKnownCard

/-- THE TIED CARD OF 'chisellaw22.PartsKnown'. -/
def partsKnownCard : Claim7 := { stood := { row := partsKnownRow, standIns := [], harness := (true, "503509f4fc32e92b00af41059a635bb685077253bae0f1def7b360e02a23709c"), looks := true }, kinds := [], alts := [], laidByText := true, laidKinds := [.data, .data, .data, .widerDeep, .widerDeep], laidTests := true, laidLooks := .later }
def PartsKnownCardSaid : Prop := Claim7.holds Tryz.pinned (.plain (OpenSpec.ofChange partsKnownSpec)) partsKnownCard

/-- THE SECOND FORM's CARD OF 'chisellaw32.KeysKnown'. -/
def keysKnownUptoCard : Claim7 := { stood := { row := keysKnownUptoRow, standIns := [], harness := (true, "503509f4fc32e92b00af41059a635bb685077253bae0f1def7b360e02a23709c"), looks := true }, kinds := [], alts := [], laidByText := true, laidKinds := [.data, .data, .widerDeep, .data, .data, .data, .widerDeep, .widerDeep, .pinned], laidTests := true, laidLooks := .later }
def KeysKnownUptoCardSaid : Prop := Claim7.holds Tryz.pinned (.plain (OpenSpec.upto keysKnownSpec)) keysKnownUptoCard

/-- THE SECOND FORM's CARD OF 'chisellaw22.PartsKnown'. -/
def partsKnownUptoCard : Claim7 := { stood := { row := partsKnownUptoRow, standIns := [], harness := (true, "503509f4fc32e92b00af41059a635bb685077253bae0f1def7b360e02a23709c"), looks := true }, kinds := [], alts := [], laidByText := true, laidKinds := [.data, .data, .data, .widerDeep, .widerDeep], laidTests := true, laidLooks := .later }
def PartsKnownUptoCardSaid : Prop := Claim7.holds Tryz.pinned (.plain (OpenSpec.upto partsKnownSpec)) partsKnownUptoCard
end Rows
end Go.Proofs.YtlhedmifkfipcaaGreatDoor
