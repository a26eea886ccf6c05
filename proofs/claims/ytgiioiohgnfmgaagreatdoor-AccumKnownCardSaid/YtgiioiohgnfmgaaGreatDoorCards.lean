/-
  DERIVED. GIVEN WITH THE SEED: THE CARDS: each row of YtgiioiohgnfmgaaGreatDoorRows.lean that lists a variable, with what it lists TIED to the program's text (the seventh form; the later family's looks); each row that meets fmt, with fmt's text TOLD by the authors' own Lean function (tested against real Go, not proved from fmt's source: count such statements apart). THE CARD IS WHAT COUNTS. Prove the row's statement (the work); the ties are given (YtgiioiohgnfmgaaGreatDoorTie.lean); close each card by the builder's one call (the guide's Derived/Test/ToyasCard.lean, 'card_holds'). Laid BY PROGRAM, IN A SANDBOX (cutbox-door.mjs). By AI agents, Wed Nov 11 2026. No macro, syntax, notation, axiom, sorry.
-/
import Derived.Test.YtgiioiohgnfmgaaGreatDoorRows
import GoSem.ClaimSeven
namespace Go.Proofs.YtgiioiohgnfmgaaGreatDoor
namespace Rows

/-- THE TIED CARD OF 'chisellaw21.EvalKnown'. -/
def evalKnownCard : Claim7 := { stood := { row := evalKnownRow, standIns := [], harness := (true, "883129819e47cefd0960c9478e1a6069aa6717df4280c5263ec371d08a4ea9db"), looks := true }, kinds := [], alts := [], laidByText := true, laidKinds := [.data, .data, .widerDeep, .widerDeep, .data, .data, .data, .data, .data, .data, .sentinel, .sentinel, .listed, .data, .widerDeep, .widerDeep, .data, .data, .data, .data, .pinned, .pinned, .pinned, .pinned], laidTests := true, laidLooks := .later }
def EvalKnownCardSaid : Prop := Claim7.holds Tryz.pinned (.plain (OpenSpec.ofChange evalKnownSpec)) evalKnownCard

/-- THE TIED CARD OF 'chisellaw23.PatternKnown'. -/
def patternKnownCard : Claim7 := { stood := { row := patternKnownRow, standIns := [], harness := (true, "883129819e47cefd0960c9478e1a6069aa6717df4280c5263ec371d08a4ea9db"), looks := true }, kinds := [], alts := [], laidByText := true, laidKinds := [.data, .data, .data, .widerDeep, .widerDeep], laidTests := true, laidLooks := .later }
def PatternKnownCardSaid : Prop := Claim7.holds Tryz.pinned (.plain (OpenSpec.ofChange patternKnownSpec)) patternKnownCard

/-- THE TIED CARD OF 'chisellaw33.AccumKnown'. -/
def accumKnownCard : Claim7 := { stood := { row := accumKnownRow, standIns := [], harness := (true, "883129819e47cefd0960c9478e1a6069aa6717df4280c5263ec371d08a4ea9db"), looks := true }, kinds := [], alts := [], laidByText := true, laidKinds := [.data, .data, .data, .widerDeep, .widerDeep], laidTests := true, laidLooks := .later }
def AccumKnownCardSaid : Prop := Claim7.holds Tryz.pinned (.plain (OpenSpec.ofChange accumKnownSpec)) accumKnownCard

/-- THE SECOND FORM's CARD OF 'chisellaw21.EvalKnown'. -/
def evalKnownUptoCard : Claim7 := { stood := { row := evalKnownUptoRow, standIns := [], harness := (true, "883129819e47cefd0960c9478e1a6069aa6717df4280c5263ec371d08a4ea9db"), looks := true }, kinds := [], alts := [], laidByText := true, laidKinds := [.data, .data, .widerDeep, .widerDeep, .data, .data, .data, .data, .data, .data, .sentinel, .sentinel, .listed, .data, .widerDeep, .widerDeep, .data, .data, .data, .data, .pinned, .pinned, .pinned, .pinned], laidTests := true, laidLooks := .later }
def EvalKnownUptoCardSaid : Prop := Claim7.holds Tryz.pinned (.plain (OpenSpec.upto evalKnownSpec)) evalKnownUptoCard

/-- THE SECOND FORM's CARD OF 'chisellaw33.AccumKnown'. -/
def accumKnownUptoCard : Claim7 := { stood := { row := accumKnownUptoRow, standIns := [], harness := (true, "883129819e47cefd0960c9478e1a6069aa6717df4280c5263ec371d08a4ea9db"), looks := true }, kinds := [], alts := [], laidByText := true, laidKinds := [.data, .data, .data, .widerDeep, .widerDeep], laidTests := true, laidLooks := .later }
def AccumKnownUptoCardSaid : Prop := Claim7.holds Tryz.pinned (.plain (OpenSpec.upto accumKnownSpec)) accumKnownUptoCard
end Rows
end Go.Proofs.YtgiioiohgnfmgaaGreatDoor
