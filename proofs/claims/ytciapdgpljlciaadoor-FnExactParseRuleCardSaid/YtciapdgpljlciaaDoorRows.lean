/-
  NARROWER THAN 'FOR EVERY INPUT', by the rows' own cells (each row's printed sentence says how): FnExactRightWords: laid · FnExactParseRule: laid.
  DERIVED. THE GIVEN ROWS OF THIS SEAT. 2 by the template 'for every input the law returns true; each argument reads behind the call as it read before'; 0 by the template 'total and deterministic' (their statements: YtciapdgpljlciaaDoorTotals.lean).
  GIVEN WITH THE SEED: the statements are not yours to turn. If you find one false, say at which input.
  Laid BY PROGRAM, IN A SANDBOX (cutbox-rows.mjs): the forced cells as the released guide's own fill.sh prints them over the translation f45078b34db52882… (all of the seat's roots in one cut). By AI agents, Wed Nov 11 2026. No macro, syntax, notation, axiom, sorry.
-/
import Derived.Test.YtciapdgpljlciaaDoorChecked
import GoSem.PinnedTables
import GoSem.Claim
import GoSem.ClaimJoined
import GoSem.ClaimMapViews
import Derived.JoinedTies
import Derived.KernelRfl
namespace Go.Proofs.YtciapdgpljlciaaDoor
/- THE CELL 'sum', in the pinned program and in every row, IS THE sha256 OF THE DUMP (.gsa) THAT YtciapdgpljlciaaDoorProg.lean LOADS. Nothing in Lean hashes anything: it is a label: what it is worth is what the hold of that sum in a sandbox is worth. -/
noncomputable def Tryd.pinned : Pinned := { name := "ytciapdgpljlciaadoor", sum := "f45078b34db52882011f28a1c07f13f97b535eb7e11d04dbee46829890f452f9", checked := Tryd.checked }
namespace Rows
def none {H : Type} : Left H := { results := [], args := [] }

/- WHAT THE LISTED PACKAGE-LEVEL VARIABLES READ AS WHEN THE CALL BEGINS. Each datum BY PROGRAM (the guide's laid-datum.mjs) off the statement by which the dump's own 'gosem.cut.vars' lays the variable. In a bare row this is a premise. The card (YtciapdgpljlciaaDoorCards.lean) ties it to the program's text. -/
def laid_unicode_utf8_acceptRanges {H : Type} : DataW H := .agg [.agg [.lit (.int .u8 128), .lit (.int .u8 191)], .agg [.lit (.int .u8 160), .lit (.int .u8 191)], .agg [.lit (.int .u8 128), .lit (.int .u8 159)], .agg [.lit (.int .u8 144), .lit (.int .u8 191)], .agg [.lit (.int .u8 128), .lit (.int .u8 143)], .agg [.lit (.int .u8 0), .lit (.int .u8 0)], .agg [.lit (.int .u8 0), .lit (.int .u8 0)], .agg [.lit (.int .u8 0), .lit (.int .u8 0)], .agg [.lit (.int .u8 0), .lit (.int .u8 0)], .agg [.lit (.int .u8 0), .lit (.int .u8 0)], .agg [.lit (.int .u8 0), .lit (.int .u8 0)], .agg [.lit (.int .u8 0), .lit (.int .u8 0)], .agg [.lit (.int .u8 0), .lit (.int .u8 0)], .agg [.lit (.int .u8 0), .lit (.int .u8 0)], .agg [.lit (.int .u8 0), .lit (.int .u8 0)], .agg [.lit (.int .u8 0), .lit (.int .u8 0)]]
def laid_loop_example_g00914_impl_fieldNames {H : Type} : DataW H := .agg [.lit (.string [116, 111, 110, 110, 101, 115]), .lit (.string [103, 114, 97, 100, 101]), .lit (.string [114, 111, 99, 107]), .lit (.string [108, 101, 118, 101, 108]), .lit (.string [109, 101, 116, 97, 108])]
/-- One of Go's own tables, pinned by name: the form's constant. -/
def laid_unicode_utf8_first : DataW Unit := Go.Pinned.utf8First

/-- 'laws.FnExactRightWords': WHATEVER THE INPUT: true; the input reads as it did. -/
def fnExactRightWordsSpec : ChangeSpec := { name := "fnExactRightWords", vars := ["loop.example/g00914/impl.fieldNames"], fn := fun _ => fun
  | [d, g1] => { results := [.lit (.bool true)], args := [d], vars := [g1] }
  | _ => none }
def fnExactRightWordsRow : OpenClaim := { program := "ytciapdgpljlciaadoor", sum := "f45078b34db52882011f28a1c07f13f97b535eb7e11d04dbee46829890f452f9", func := "loop.example/g00914/laws.FnExactRightWords", spec := "fnExactRightWords", inPlace := ["internal/bytealg.CountString", "internal/bytealg.IndexByteString", "internal/bytealg.IndexString"], recurses := true, named := ["unicode/utf8.first", "unicode/utf8.acceptRanges", "internal/bytealg.MaxLen", "loop.example/g00914/impl.fieldNames"], apart := false, laid := [("unicode/utf8.acceptRanges", laid_unicode_utf8_acceptRanges), ("loop.example/g00914/impl.fieldNames", laid_loop_example_g00914_impl_fieldNames), ("unicode/utf8.first", laid_unicode_utf8_first)] }
def FnExactRightWordsSaid : Prop := fnExactRightWordsRow.holds Tryd.pinned (OpenSpec.ofChange fnExactRightWordsSpec)

/-- ITS FALSE NEIGHBOUR: 'it returns false'. Refute it at one input. -/
def fnExactRightWordsWrong : ChangeSpec := { name := "fnExactRightWords", vars := ["loop.example/g00914/impl.fieldNames"], fn := fun _ => fun
  | [d, g1] => { results := [.lit (.bool false)], args := [d], vars := [g1] }
  | _ => none }
def FnExactRightWordsWrongFalsely : Prop := fnExactRightWordsRow.holds Tryd.pinned (OpenSpec.ofChange fnExactRightWordsWrong)

/-- 'laws.FnExactParseRule': WHATEVER THE INPUT: true; the input reads as it did. -/
def fnExactParseRuleSpec : ChangeSpec := { name := "fnExactParseRule", vars := ["loop.example/g00914/impl.fieldNames"], fn := fun _ => fun
  | [d, g1] => { results := [.lit (.bool true)], args := [d], vars := [g1] }
  | _ => none }
def fnExactParseRuleRow : OpenClaim := { program := "ytciapdgpljlciaadoor", sum := "f45078b34db52882011f28a1c07f13f97b535eb7e11d04dbee46829890f452f9", func := "loop.example/g00914/laws.FnExactParseRule", spec := "fnExactParseRule", inPlace := ["internal/bytealg.CountString", "internal/bytealg.IndexByteString", "internal/bytealg.IndexString"], recurses := true, named := ["unicode/utf8.first", "unicode/utf8.acceptRanges", "internal/bytealg.MaxLen", "loop.example/g00914/impl.fieldNames"], apart := false, laid := [("unicode/utf8.acceptRanges", laid_unicode_utf8_acceptRanges), ("loop.example/g00914/impl.fieldNames", laid_loop_example_g00914_impl_fieldNames), ("unicode/utf8.first", laid_unicode_utf8_first)] }
def FnExactParseRuleSaid : Prop := fnExactParseRuleRow.holds Tryd.pinned (OpenSpec.ofChange fnExactParseRuleSpec)

/-- ITS FALSE NEIGHBOUR: 'it returns false'. Refute it at one input. -/
def fnExactParseRuleWrong : ChangeSpec := { name := "fnExactParseRule", vars := ["loop.example/g00914/impl.fieldNames"], fn := fun _ => fun
  | [d, g1] => { results := [.lit (.bool false)], args := [d], vars := [g1] }
  | _ => none }
def FnExactParseRuleWrongFalsely : Prop := fnExactParseRuleRow.holds Tryd.pinned (OpenSpec.ofChange fnExactParseRuleWrong)

/- THE SECOND FORM. 'bulk': how many values and letters a reading holds, each counted each time it is reached (what is shared counts as often as it is met; a slice's spare places count too). A statement '..UptoSaid' is the law's where the arguments, and the package variables that the reading takes, are together of bulk at most 1048576: NARROWER than '..Said'. Prove '..Said' where nothing that the law and all that it calls make is longer than what came in: it says more and counts as full. Else prove '..UptoSaid'. A law counts once. -/
mutual
def uptoBulk {H : Type} : DataW H → Nat
  | .lit (.string bytes) => bytes.length + 1
  | .lit _ => 1
  | .nil => 1
  | .ptr d => uptoBulk d + 1
  | .slice elems spare => uptoBulkAll elems + uptoBulkAll spare + 1
  | .agg parts => uptoBulkAll parts + 1
  | .iface _ d => uptoBulk d + 1
  | .map entries => uptoBulkEntries entries + 1
  | .held _ => 1
def uptoBulkAll {H : Type} : List (DataW H) → Nat
  | [] => 0
  | d :: r => uptoBulk d + uptoBulkAll r
def uptoBulkEntries {H : Type} : List (Lit × DataW H) → Nat
  | [] => 0
  | x :: r => uptoBulkEntry x + uptoBulkEntries r
def uptoBulkEntry {H : Type} : Lit × DataW H → Nat
  | (.string bytes, d) => bytes.length + uptoBulk d + 1
  | (_, d) => uptoBulk d + 1
 end
def uptoSmall : (H : Type) → List (DataW H) → Bool := fun _ ds => decide (uptoBulkAll ds ≤ 1048576)
def OpenSpec.upto (s : _root_.Go.ChangeSpec) : _root_.Go.OpenSpec := { _root_.Go.OpenSpec.ofChange s with cond := some uptoSmall }

/-- 'laws.FnExactRightWords', WHERE WHAT IT READS IS OF BULK AT MOST 1048576: true; the input reads as it did. -/
def fnExactRightWordsUptoRow : OpenClaim := { program := "ytciapdgpljlciaadoor", sum := "f45078b34db52882011f28a1c07f13f97b535eb7e11d04dbee46829890f452f9", func := "loop.example/g00914/laws.FnExactRightWords", spec := "fnExactRightWords", inPlace := ["internal/bytealg.CountString", "internal/bytealg.IndexByteString", "internal/bytealg.IndexString"], recurses := true, named := ["unicode/utf8.first", "unicode/utf8.acceptRanges", "internal/bytealg.MaxLen", "loop.example/g00914/impl.fieldNames"], apart := false, laid := [("unicode/utf8.acceptRanges", laid_unicode_utf8_acceptRanges), ("loop.example/g00914/impl.fieldNames", laid_loop_example_g00914_impl_fieldNames), ("unicode/utf8.first", laid_unicode_utf8_first)], narrowed := true }
def FnExactRightWordsUptoSaid : Prop := fnExactRightWordsUptoRow.holds Tryd.pinned (OpenSpec.upto fnExactRightWordsSpec)

/-- 'laws.FnExactParseRule', WHERE WHAT IT READS IS OF BULK AT MOST 1048576: true; the input reads as it did. -/
def fnExactParseRuleUptoRow : OpenClaim := { program := "ytciapdgpljlciaadoor", sum := "f45078b34db52882011f28a1c07f13f97b535eb7e11d04dbee46829890f452f9", func := "loop.example/g00914/laws.FnExactParseRule", spec := "fnExactParseRule", inPlace := ["internal/bytealg.CountString", "internal/bytealg.IndexByteString", "internal/bytealg.IndexString"], recurses := true, named := ["unicode/utf8.first", "unicode/utf8.acceptRanges", "internal/bytealg.MaxLen", "loop.example/g00914/impl.fieldNames"], apart := false, laid := [("unicode/utf8.acceptRanges", laid_unicode_utf8_acceptRanges), ("loop.example/g00914/impl.fieldNames", laid_loop_example_g00914_impl_fieldNames), ("unicode/utf8.first", laid_unicode_utf8_first)], narrowed := true }
def FnExactParseRuleUptoSaid : Prop := fnExactParseRuleUptoRow.holds Tryd.pinned (OpenSpec.upto fnExactParseRuleSpec)

end Rows
end Go.Proofs.YtciapdgpljlciaaDoor
