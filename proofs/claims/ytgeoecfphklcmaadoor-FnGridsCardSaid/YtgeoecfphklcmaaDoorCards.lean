/-
  DERIVED. GIVEN WITH THE SEED: THE CARDS: each row of YtgeoecfphklcmaaDoorRows.lean that lists a variable, with what it lists TIED to the program's text (the seventh form; the later family's looks); each row that meets fmt, with fmt's text TOLD by the authors' own Lean function (tested against real Go, not proved from fmt's source: count such statements apart). THE CARD IS WHAT COUNTS. Prove the row's statement (the work); the ties are given (YtgeoecfphklcmaaDoorTie.lean); close each card by the builder's one call (the guide's Derived/Test/ToyasCard.lean, 'card_holds'). Laid BY PROGRAM, IN A SANDBOX (cutbox-door.mjs). By AI agents, Wed Nov 11 2026. No macro, syntax, notation, axiom, sorry.
-/
import Derived.Test.YtgeoecfphklcmaaDoorRows
import GoSem.ClaimSeven
namespace Go.Proofs.YtgeoecfphklcmaaDoor
namespace Rows

/-- THE TIED CARD OF 'laws.FnExactBlockName'. -/
def fnExactBlockNameCard : Claim7 := { stood := { row := fnExactBlockNameRow, standIns := [], harness := (true, "a3ccc3bed0aa0eaa7867086a7a2a5fe681c5d4f4d11c86ed91966f15b5b29318"), looks := false }, kinds := [], alts := [], laidByText := true, laidKinds := [.data, .data, .data], laidTests := true, laidLooks := .later }
def FnExactBlockNameCardSaid : Prop := Claim7.holds Tryd.pinned (.plain (OpenSpec.ofChange fnExactBlockNameSpec)) fnExactBlockNameCard

/-- THE TIED CARD OF 'laws.FnExactParseBlock'. -/
def fnExactParseBlockCard : Claim7 := { stood := { row := fnExactParseBlockRow, standIns := [], harness := (true, "a3ccc3bed0aa0eaa7867086a7a2a5fe681c5d4f4d11c86ed91966f15b5b29318"), looks := false }, kinds := [], alts := [], laidByText := true, laidKinds := [.data, .data, .data], laidTests := true, laidLooks := .later }
def FnExactParseBlockCardSaid : Prop := Claim7.holds Tryd.pinned (.plain (OpenSpec.ofChange fnExactParseBlockSpec)) fnExactParseBlockCard

/-- THE TIED CARD OF 'laws.FnExactGridText'. -/
def fnExactGridTextCard : Claim7 := { stood := { row := fnExactGridTextRow, standIns := [], harness := (true, "a3ccc3bed0aa0eaa7867086a7a2a5fe681c5d4f4d11c86ed91966f15b5b29318"), looks := false }, kinds := [], alts := [], laidByText := true, laidKinds := [.data, .data, .data], laidTests := true, laidLooks := .later }
def FnExactGridTextCardSaid : Prop := Claim7.holds Tryd.pinned (.plain (OpenSpec.ofChange fnExactGridTextSpec)) fnExactGridTextCard

/-- THE TIED CARD OF 'laws.FnGrids'. -/
def fnGridsCard : Claim7 := { stood := { row := fnGridsRow, standIns := [], harness := (true, "a3ccc3bed0aa0eaa7867086a7a2a5fe681c5d4f4d11c86ed91966f15b5b29318"), looks := false }, kinds := [], alts := [], laidByText := true, laidKinds := [.data, .data, .data], laidTests := true, laidLooks := .later }
def FnGridsCardSaid : Prop := Claim7.holds Tryd.pinned (.plain (OpenSpec.ofChange fnGridsSpec)) fnGridsCard

/-- THE SECOND FORM's CARD OF 'laws.FnExactBlockName'. -/
def fnExactBlockNameUptoCard : Claim7 := { stood := { row := fnExactBlockNameUptoRow, standIns := [], harness := (true, "a3ccc3bed0aa0eaa7867086a7a2a5fe681c5d4f4d11c86ed91966f15b5b29318"), looks := false }, kinds := [], alts := [], laidByText := true, laidKinds := [.data, .data, .data], laidTests := true, laidLooks := .later }
def FnExactBlockNameUptoCardSaid : Prop := Claim7.holds Tryd.pinned (.plain (OpenSpec.upto fnExactBlockNameSpec)) fnExactBlockNameUptoCard

/-- THE SECOND FORM's CARD OF 'laws.FnExactParseBlock'. -/
def fnExactParseBlockUptoCard : Claim7 := { stood := { row := fnExactParseBlockUptoRow, standIns := [], harness := (true, "a3ccc3bed0aa0eaa7867086a7a2a5fe681c5d4f4d11c86ed91966f15b5b29318"), looks := false }, kinds := [], alts := [], laidByText := true, laidKinds := [.data, .data, .data], laidTests := true, laidLooks := .later }
def FnExactParseBlockUptoCardSaid : Prop := Claim7.holds Tryd.pinned (.plain (OpenSpec.upto fnExactParseBlockSpec)) fnExactParseBlockUptoCard

/-- THE SECOND FORM's CARD OF 'laws.FnExactGridText'. -/
def fnExactGridTextUptoCard : Claim7 := { stood := { row := fnExactGridTextUptoRow, standIns := [], harness := (true, "a3ccc3bed0aa0eaa7867086a7a2a5fe681c5d4f4d11c86ed91966f15b5b29318"), looks := false }, kinds := [], alts := [], laidByText := true, laidKinds := [.data, .data, .data], laidTests := true, laidLooks := .later }
def FnExactGridTextUptoCardSaid : Prop := Claim7.holds Tryd.pinned (.plain (OpenSpec.upto fnExactGridTextSpec)) fnExactGridTextUptoCard

/-- THE SECOND FORM's CARD OF 'laws.FnGrids'. -/
def fnGridsUptoCard : Claim7 := { stood := { row := fnGridsUptoRow, standIns := [], harness := (true, "a3ccc3bed0aa0eaa7867086a7a2a5fe681c5d4f4d11c86ed91966f15b5b29318"), looks := false }, kinds := [], alts := [], laidByText := true, laidKinds := [.data, .data, .data], laidTests := true, laidLooks := .later }
def FnGridsUptoCardSaid : Prop := Claim7.holds Tryd.pinned (.plain (OpenSpec.upto fnGridsSpec)) fnGridsUptoCard
end Rows
end Go.Proofs.YtgeoecfphklcmaaDoor
