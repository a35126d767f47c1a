/-
  DERIVED. GIVEN WITH THE SEED: THE CARDS: each row of YtciapdgpljlciaaDoorRows.lean that lists a variable, with what it lists TIED to the program's text (the seventh form; the later family's looks); each row that meets fmt, with fmt's text TOLD by the authors' own Lean function (tested against real Go, not proved from fmt's source: count such statements apart). THE CARD IS WHAT COUNTS. Prove the row's statement (the work); the ties are given (YtciapdgpljlciaaDoorTie.lean); close each card by the builder's one call (the guide's Derived/Test/ToyasCard.lean, 'card_holds'). Laid BY PROGRAM, IN A SANDBOX (cutbox-door.mjs). By AI agents, Wed Nov 11 2026. No macro, syntax, notation, axiom, sorry.
-/
import Derived.Test.YtciapdgpljlciaaDoorRows
import GoSem.ClaimSeven
namespace Go.Proofs.YtciapdgpljlciaaDoor
namespace Rows

/-- THE TIED CARD OF 'laws.FnExactRightWords'. -/
def fnExactRightWordsCard : Claim7 := { stood := { row := fnExactRightWordsRow, standIns := [], harness := (true, "d297325973263e4b38b59c269fd49eb7733c65dead2add681a59d4e1b4ce61ae"), looks := false }, kinds := [], alts := [], laidByText := true, laidKinds := [.data, .data, .pinned], laidTests := true, laidLooks := .later }
def FnExactRightWordsCardSaid : Prop := Claim7.holds Tryd.pinned (.plain (OpenSpec.ofChange fnExactRightWordsSpec)) fnExactRightWordsCard

/-- THE TIED CARD OF 'laws.FnExactParseRule'. -/
def fnExactParseRuleCard : Claim7 := { stood := { row := fnExactParseRuleRow, standIns := [], harness := (true, "d297325973263e4b38b59c269fd49eb7733c65dead2add681a59d4e1b4ce61ae"), looks := false }, kinds := [], alts := [], laidByText := true, laidKinds := [.data, .data, .pinned], laidTests := true, laidLooks := .later }
def FnExactParseRuleCardSaid : Prop := Claim7.holds Tryd.pinned (.plain (OpenSpec.ofChange fnExactParseRuleSpec)) fnExactParseRuleCard

/-- THE SECOND FORM's CARD OF 'laws.FnExactRightWords'. -/
def fnExactRightWordsUptoCard : Claim7 := { stood := { row := fnExactRightWordsUptoRow, standIns := [], harness := (true, "d297325973263e4b38b59c269fd49eb7733c65dead2add681a59d4e1b4ce61ae"), looks := false }, kinds := [], alts := [], laidByText := true, laidKinds := [.data, .data, .pinned], laidTests := true, laidLooks := .later }
def FnExactRightWordsUptoCardSaid : Prop := Claim7.holds Tryd.pinned (.plain (OpenSpec.upto fnExactRightWordsSpec)) fnExactRightWordsUptoCard

/-- THE SECOND FORM's CARD OF 'laws.FnExactParseRule'. -/
def fnExactParseRuleUptoCard : Claim7 := { stood := { row := fnExactParseRuleUptoRow, standIns := [], harness := (true, "d297325973263e4b38b59c269fd49eb7733c65dead2add681a59d4e1b4ce61ae"), looks := false }, kinds := [], alts := [], laidByText := true, laidKinds := [.data, .data, .pinned], laidTests := true, laidLooks := .later }
def FnExactParseRuleUptoCardSaid : Prop := Claim7.holds Tryd.pinned (.plain (OpenSpec.upto fnExactParseRuleSpec)) fnExactParseRuleUptoCard
end Rows
end Go.Proofs.YtciapdgpljlciaaDoor
