/-
  DERIVED. GIVEN WITH THE SEED: THE CARDS: each row of YthphbkkkbolcnaaGreatDoorRows.lean that lists a variable, with what it lists TIED to the program's text (the seventh form; the later family's looks); each row that meets fmt, with fmt's text TOLD by the authors' own Lean function (tested against real Go, not proved from fmt's source: count such statements apart). THE CARD IS WHAT COUNTS. Prove the row's statement (the work); the ties are given (YthphbkkkbolcnaaGreatDoorTie.lean); close each card by the builder's one call (the guide's Derived/Test/ToyasCard.lean, 'card_holds'). Laid BY PROGRAM, IN A SANDBOX (cutbox-door.mjs). By AI agents, Wed Nov 11 2026. No macro, syntax, notation, axiom, sorry.
-/
import Derived.Test.YthphbkkkbolcnaaGreatDoorRows
import GoSem.ClaimSeven
namespace Go.Proofs.YthphbkkkbolcnaaGreatDoor
namespace Rows

/-- THE TIED CARD OF 'laws.FnModels'. -/
def fnModelsCard : Claim7 := { stood := { row := fnModelsRow, standIns := [], harness := (true, "7b11972a959d61da2d1410e217e38ceb0e59f535b97e3ced3b0d0a5ea12b7754"), looks := false }, kinds := [], alts := [], laidByText := true, laidKinds := [.data, .data, .data, .data, .pinned], laidTests := true, laidLooks := .later }
def FnModelsCardSaid : Prop := Claim7.holds Tryz.pinned (.plain (OpenSpec.ofChange fnModelsSpec)) fnModelsCard

/-- THE SECOND FORM's CARD OF 'laws.FnModels'. -/
def fnModelsUptoCard : Claim7 := { stood := { row := fnModelsUptoRow, standIns := [], harness := (true, "7b11972a959d61da2d1410e217e38ceb0e59f535b97e3ced3b0d0a5ea12b7754"), looks := false }, kinds := [], alts := [], laidByText := true, laidKinds := [.data, .data, .data, .data, .pinned], laidTests := true, laidLooks := .later }
def FnModelsUptoCardSaid : Prop := Claim7.holds Tryz.pinned (.plain (OpenSpec.upto fnModelsSpec)) fnModelsUptoCard
end Rows
end Go.Proofs.YthphbkkkbolcnaaGreatDoor
