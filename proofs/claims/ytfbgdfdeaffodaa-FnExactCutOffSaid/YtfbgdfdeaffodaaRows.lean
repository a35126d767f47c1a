/-
  No cell of these rows narrows 'for every input' (looked for: loops, veiled, ifaces, maps, wideKeys, modest, calm, conditions, laid).
  DERIVED. THE GIVEN ROWS OF THIS SEAT. 12 by the template 'for every input the law returns true; each argument reads behind the call as it read before'; 0 by the template 'total and deterministic' (their statements: YtfbgdfdeaffodaaTotals.lean).
  GIVEN WITH THE SEED: the statements are not yours to turn. If you find one false, say at which input.
  Laid BY PROGRAM, IN A SANDBOX (cutbox-rows.mjs): the forced cells as the released guide's own fill.sh prints them over the translation a5a9fd69d85ccd79… (all of the seat's roots in one cut). By AI agents, Wed Nov 11 2026. No macro, syntax, notation, axiom, sorry.
-/
import Derived.Test.YtfbgdfdeaffodaaChecked
import GoSem.Claim
import GoSem.ClaimJoined
import GoSem.ClaimMapViews
import Derived.JoinedTies
import Derived.KernelRfl
namespace Go.Proofs.Ytfbgdfdeaffodaa
/- THE CELL 'sum', in the pinned program and in every row, IS THE sha256 OF THE DUMP (.gsa) THAT YtfbgdfdeaffodaaProg.lean LOADS. Nothing in Lean hashes anything: it is a label: what it is worth is what the hold of that sum in a sandbox is worth. -/
noncomputable def Try.pinned : Pinned := { name := "ytfbgdfdeaffodaa", sum := "a5a9fd69d85ccd79a777a84860a3e6890bd155bd1a3ad1441d49ee0a31f359f8", checked := Try.checked }
namespace Rows
def none {H : Type} : Left H := { results := [], args := [] }

/-- 'laws.FnExactConstants': WHATEVER THE INPUT: true; the input reads as it did. -/
def fnExactConstantsSpec : ChangeSpec := { name := "fnExactConstants", fn := fun _ => fun
  | [] => { results := [.lit (.bool true)], args := [] }
  | _ => none }
def fnExactConstantsRow : OpenClaim := { program := "ytfbgdfdeaffodaa", sum := "a5a9fd69d85ccd79a777a84860a3e6890bd155bd1a3ad1441d49ee0a31f359f8", func := "loop.example/g00914/laws.FnExactConstants", spec := "fnExactConstants", apart := false }
def FnExactConstantsSaid : Prop := fnExactConstantsRow.holds Try.pinned (OpenSpec.ofChange fnExactConstantsSpec)

/-- ITS FALSE NEIGHBOUR: 'it returns false'. Refute it at one input. -/
def fnExactConstantsWrong : ChangeSpec := { name := "fnExactConstants", fn := fun _ => fun
  | [] => { results := [.lit (.bool false)], args := [] }
  | _ => none }
def FnExactConstantsWrongFalsely : Prop := fnExactConstantsRow.holds Try.pinned (OpenSpec.ofChange fnExactConstantsWrong)

/-- 'laws.FnExactIsGrid': WHATEVER THE INPUT: true; the input reads as it did. -/
def fnExactIsGridSpec : ChangeSpec := { name := "fnExactIsGrid", fn := fun _ => fun
  | [d] => { results := [.lit (.bool true)], args := [d] }
  | _ => none }
def fnExactIsGridRow : OpenClaim := { program := "ytfbgdfdeaffodaa", sum := "a5a9fd69d85ccd79a777a84860a3e6890bd155bd1a3ad1441d49ee0a31f359f8", func := "loop.example/g00914/laws.FnExactIsGrid", spec := "fnExactIsGrid", apart := false }
def FnExactIsGridSaid : Prop := fnExactIsGridRow.holds Try.pinned (OpenSpec.ofChange fnExactIsGridSpec)

/-- ITS FALSE NEIGHBOUR: 'it returns false'. Refute it at one input. -/
def fnExactIsGridWrong : ChangeSpec := { name := "fnExactIsGrid", fn := fun _ => fun
  | [d] => { results := [.lit (.bool false)], args := [d] }
  | _ => none }
def FnExactIsGridWrongFalsely : Prop := fnExactIsGridRow.holds Try.pinned (OpenSpec.ofChange fnExactIsGridWrong)

/-- 'laws.FnExactIsPiece': WHATEVER THE INPUT: true; the input reads as it did. -/
def fnExactIsPieceSpec : ChangeSpec := { name := "fnExactIsPiece", fn := fun _ => fun
  | [d] => { results := [.lit (.bool true)], args := [d] }
  | _ => none }
def fnExactIsPieceRow : OpenClaim := { program := "ytfbgdfdeaffodaa", sum := "a5a9fd69d85ccd79a777a84860a3e6890bd155bd1a3ad1441d49ee0a31f359f8", func := "loop.example/g00914/laws.FnExactIsPiece", spec := "fnExactIsPiece", apart := false }
def FnExactIsPieceSaid : Prop := fnExactIsPieceRow.holds Try.pinned (OpenSpec.ofChange fnExactIsPieceSpec)

/-- ITS FALSE NEIGHBOUR: 'it returns false'. Refute it at one input. -/
def fnExactIsPieceWrong : ChangeSpec := { name := "fnExactIsPiece", fn := fun _ => fun
  | [d] => { results := [.lit (.bool false)], args := [d] }
  | _ => none }
def FnExactIsPieceWrongFalsely : Prop := fnExactIsPieceRow.holds Try.pinned (OpenSpec.ofChange fnExactIsPieceWrong)

/-- 'laws.FnExactArePrices': WHATEVER THE INPUT: true; the input reads as it did. -/
def fnExactArePricesSpec : ChangeSpec := { name := "fnExactArePrices", fn := fun _ => fun
  | [d] => { results := [.lit (.bool true)], args := [d] }
  | _ => none }
def fnExactArePricesRow : OpenClaim := { program := "ytfbgdfdeaffodaa", sum := "a5a9fd69d85ccd79a777a84860a3e6890bd155bd1a3ad1441d49ee0a31f359f8", func := "loop.example/g00914/laws.FnExactArePrices", spec := "fnExactArePrices", apart := false }
def FnExactArePricesSaid : Prop := fnExactArePricesRow.holds Try.pinned (OpenSpec.ofChange fnExactArePricesSpec)

/-- ITS FALSE NEIGHBOUR: 'it returns false'. Refute it at one input. -/
def fnExactArePricesWrong : ChangeSpec := { name := "fnExactArePrices", fn := fun _ => fun
  | [d] => { results := [.lit (.bool false)], args := [d] }
  | _ => none }
def FnExactArePricesWrongFalsely : Prop := fnExactArePricesRow.holds Try.pinned (OpenSpec.ofChange fnExactArePricesWrong)

/-- 'laws.FnExactBlockCount': WHATEVER THE INPUT: true; the input reads as it did. -/
def fnExactBlockCountSpec : ChangeSpec := { name := "fnExactBlockCount", fn := fun _ => fun
  | [d] => { results := [.lit (.bool true)], args := [d] }
  | _ => none }
def fnExactBlockCountRow : OpenClaim := { program := "ytfbgdfdeaffodaa", sum := "a5a9fd69d85ccd79a777a84860a3e6890bd155bd1a3ad1441d49ee0a31f359f8", func := "loop.example/g00914/laws.FnExactBlockCount", spec := "fnExactBlockCount", apart := false }
def FnExactBlockCountSaid : Prop := fnExactBlockCountRow.holds Try.pinned (OpenSpec.ofChange fnExactBlockCountSpec)

/-- ITS FALSE NEIGHBOUR: 'it returns false'. Refute it at one input. -/
def fnExactBlockCountWrong : ChangeSpec := { name := "fnExactBlockCount", fn := fun _ => fun
  | [d] => { results := [.lit (.bool false)], args := [d] }
  | _ => none }
def FnExactBlockCountWrongFalsely : Prop := fnExactBlockCountRow.holds Try.pinned (OpenSpec.ofChange fnExactBlockCountWrong)

/-- 'laws.FnExactBlockAt': WHATEVER THE INPUT: true; the input reads as it did. -/
def fnExactBlockAtSpec : ChangeSpec := { name := "fnExactBlockAt", fn := fun _ => fun
  | [d1, d2, d3, d4] => { results := [.lit (.bool true)], args := [d1, d2, d3, d4] }
  | _ => none }
def fnExactBlockAtRow : OpenClaim := { program := "ytfbgdfdeaffodaa", sum := "a5a9fd69d85ccd79a777a84860a3e6890bd155bd1a3ad1441d49ee0a31f359f8", func := "loop.example/g00914/laws.FnExactBlockAt", spec := "fnExactBlockAt", apart := false }
def FnExactBlockAtSaid : Prop := fnExactBlockAtRow.holds Try.pinned (OpenSpec.ofChange fnExactBlockAtSpec)

/-- ITS FALSE NEIGHBOUR: 'it returns false'. Refute it at one input. -/
def fnExactBlockAtWrong : ChangeSpec := { name := "fnExactBlockAt", fn := fun _ => fun
  | [d1, d2, d3, d4] => { results := [.lit (.bool false)], args := [d1, d2, d3, d4] }
  | _ => none }
def FnExactBlockAtWrongFalsely : Prop := fnExactBlockAtRow.holds Try.pinned (OpenSpec.ofChange fnExactBlockAtWrong)

/-- 'laws.FnExactPlaceOf': WHATEVER THE INPUT: true; the input reads as it did. -/
def fnExactPlaceOfSpec : ChangeSpec := { name := "fnExactPlaceOf", fn := fun _ => fun
  | [d1, d2] => { results := [.lit (.bool true)], args := [d1, d2] }
  | _ => none }
def fnExactPlaceOfRow : OpenClaim := { program := "ytfbgdfdeaffodaa", sum := "a5a9fd69d85ccd79a777a84860a3e6890bd155bd1a3ad1441d49ee0a31f359f8", func := "loop.example/g00914/laws.FnExactPlaceOf", spec := "fnExactPlaceOf", apart := false }
def FnExactPlaceOfSaid : Prop := fnExactPlaceOfRow.holds Try.pinned (OpenSpec.ofChange fnExactPlaceOfSpec)

/-- ITS FALSE NEIGHBOUR: 'it returns false'. Refute it at one input. -/
def fnExactPlaceOfWrong : ChangeSpec := { name := "fnExactPlaceOf", fn := fun _ => fun
  | [d1, d2] => { results := [.lit (.bool false)], args := [d1, d2] }
  | _ => none }
def FnExactPlaceOfWrongFalsely : Prop := fnExactPlaceOfRow.holds Try.pinned (OpenSpec.ofChange fnExactPlaceOfWrong)

/-- 'laws.FnExactRoundedGrade': WHATEVER THE INPUT: true; the input reads as it did. -/
def fnExactRoundedGradeSpec : ChangeSpec := { name := "fnExactRoundedGrade", fn := fun _ => fun
  | [d] => { results := [.lit (.bool true)], args := [d] }
  | _ => none }
def fnExactRoundedGradeRow : OpenClaim := { program := "ytfbgdfdeaffodaa", sum := "a5a9fd69d85ccd79a777a84860a3e6890bd155bd1a3ad1441d49ee0a31f359f8", func := "loop.example/g00914/laws.FnExactRoundedGrade", spec := "fnExactRoundedGrade", apart := false }
def FnExactRoundedGradeSaid : Prop := fnExactRoundedGradeRow.holds Try.pinned (OpenSpec.ofChange fnExactRoundedGradeSpec)

/-- ITS FALSE NEIGHBOUR: 'it returns false'. Refute it at one input. -/
def fnExactRoundedGradeWrong : ChangeSpec := { name := "fnExactRoundedGrade", fn := fun _ => fun
  | [d] => { results := [.lit (.bool false)], args := [d] }
  | _ => none }
def FnExactRoundedGradeWrongFalsely : Prop := fnExactRoundedGradeRow.holds Try.pinned (OpenSpec.ofChange fnExactRoundedGradeWrong)

/-- 'laws.FnExactAreValues': WHATEVER THE INPUT: true; the input reads as it did. -/
def fnExactAreValuesSpec : ChangeSpec := { name := "fnExactAreValues", fn := fun _ => fun
  | [d1, d2] => { results := [.lit (.bool true)], args := [d1, d2] }
  | _ => none }
def fnExactAreValuesRow : OpenClaim := { program := "ytfbgdfdeaffodaa", sum := "a5a9fd69d85ccd79a777a84860a3e6890bd155bd1a3ad1441d49ee0a31f359f8", func := "loop.example/g00914/laws.FnExactAreValues", spec := "fnExactAreValues", apart := false }
def FnExactAreValuesSaid : Prop := fnExactAreValuesRow.holds Try.pinned (OpenSpec.ofChange fnExactAreValuesSpec)

/-- ITS FALSE NEIGHBOUR: 'it returns false'. Refute it at one input. -/
def fnExactAreValuesWrong : ChangeSpec := { name := "fnExactAreValues", fn := fun _ => fun
  | [d1, d2] => { results := [.lit (.bool false)], args := [d1, d2] }
  | _ => none }
def FnExactAreValuesWrongFalsely : Prop := fnExactAreValuesRow.holds Try.pinned (OpenSpec.ofChange fnExactAreValuesWrong)

/-- 'laws.FnExactPieceGrade': WHATEVER THE INPUT: true; the input reads as it did. -/
def fnExactPieceGradeSpec : ChangeSpec := { name := "fnExactPieceGrade", fn := fun _ => fun
  | [d] => { results := [.lit (.bool true)], args := [d] }
  | _ => none }
def fnExactPieceGradeRow : OpenClaim := { program := "ytfbgdfdeaffodaa", sum := "a5a9fd69d85ccd79a777a84860a3e6890bd155bd1a3ad1441d49ee0a31f359f8", func := "loop.example/g00914/laws.FnExactPieceGrade", spec := "fnExactPieceGrade", apart := false }
def FnExactPieceGradeSaid : Prop := fnExactPieceGradeRow.holds Try.pinned (OpenSpec.ofChange fnExactPieceGradeSpec)

/-- ITS FALSE NEIGHBOUR: 'it returns false'. Refute it at one input. -/
def fnExactPieceGradeWrong : ChangeSpec := { name := "fnExactPieceGrade", fn := fun _ => fun
  | [d] => { results := [.lit (.bool false)], args := [d] }
  | _ => none }
def FnExactPieceGradeWrongFalsely : Prop := fnExactPieceGradeRow.holds Try.pinned (OpenSpec.ofChange fnExactPieceGradeWrong)

/-- 'laws.FnExactCoarseBlock': WHATEVER THE INPUT: true; the input reads as it did. -/
def fnExactCoarseBlockSpec : ChangeSpec := { name := "fnExactCoarseBlock", fn := fun _ => fun
  | [d1, d2] => { results := [.lit (.bool true)], args := [d1, d2] }
  | _ => none }
def fnExactCoarseBlockRow : OpenClaim := { program := "ytfbgdfdeaffodaa", sum := "a5a9fd69d85ccd79a777a84860a3e6890bd155bd1a3ad1441d49ee0a31f359f8", func := "loop.example/g00914/laws.FnExactCoarseBlock", spec := "fnExactCoarseBlock", apart := false }
def FnExactCoarseBlockSaid : Prop := fnExactCoarseBlockRow.holds Try.pinned (OpenSpec.ofChange fnExactCoarseBlockSpec)

/-- ITS FALSE NEIGHBOUR: 'it returns false'. Refute it at one input. -/
def fnExactCoarseBlockWrong : ChangeSpec := { name := "fnExactCoarseBlock", fn := fun _ => fun
  | [d1, d2] => { results := [.lit (.bool false)], args := [d1, d2] }
  | _ => none }
def FnExactCoarseBlockWrongFalsely : Prop := fnExactCoarseBlockRow.holds Try.pinned (OpenSpec.ofChange fnExactCoarseBlockWrong)

/-- 'laws.FnExactCutOff': WHATEVER THE INPUT: true; the input reads as it did. -/
def fnExactCutOffSpec : ChangeSpec := { name := "fnExactCutOff", fn := fun _ => fun
  | [d] => { results := [.lit (.bool true)], args := [d] }
  | _ => none }
def fnExactCutOffRow : OpenClaim := { program := "ytfbgdfdeaffodaa", sum := "a5a9fd69d85ccd79a777a84860a3e6890bd155bd1a3ad1441d49ee0a31f359f8", func := "loop.example/g00914/laws.FnExactCutOff", spec := "fnExactCutOff", apart := false }
def FnExactCutOffSaid : Prop := fnExactCutOffRow.holds Try.pinned (OpenSpec.ofChange fnExactCutOffSpec)

/-- ITS FALSE NEIGHBOUR: 'it returns false'. Refute it at one input. -/
def fnExactCutOffWrong : ChangeSpec := { name := "fnExactCutOff", fn := fun _ => fun
  | [d] => { results := [.lit (.bool false)], args := [d] }
  | _ => none }
def FnExactCutOffWrongFalsely : Prop := fnExactCutOffRow.holds Try.pinned (OpenSpec.ofChange fnExactCutOffWrong)

/- THE SECOND FORM. 'bulk': how many values and letters a reading holds, each counted each time it is reached (what is shared counts as often as it is met; a slice's spare places count too). A statement '..UptoSaid' is the law's where the arguments, and the package variables that the reading takes, are together of bulk at most 1048576: NARROWER than '..Said'. Prove '..Said' where nothing that the law and all that it calls make is longer than what came in: it says more and counts as full. Else prove '..UptoSaid'. A law counts once. -/
mutual
def uptoBulk {H : Type} : DataW H → Nat
  | .lit (.string bytes) => bytes.length + 1
  | .lit _ => 1
  | .nil => 1
  | .ptr d => uptoBulk d + 1
  | .slice elems spare => uptoBulkAll elems + uptoBulkAll spare + 1
  | .agg parts => uptoBulkAll parts + 1
  | .iface _ d => uptoBulk d + 1
  | .map entries => uptoBulkEntries entries + 1
  | .held _ => 1
def uptoBulkAll {H : Type} : List (DataW H) → Nat
  | [] => 0
  | d :: r => uptoBulk d + uptoBulkAll r
def uptoBulkEntries {H : Type} : List (Lit × DataW H) → Nat
  | [] => 0
  | x :: r => uptoBulkEntry x + uptoBulkEntries r
def uptoBulkEntry {H : Type} : Lit × DataW H → Nat
  | (.string bytes, d) => bytes.length + uptoBulk d + 1
  | (_, d) => uptoBulk d + 1
 end
def uptoSmall : (H : Type) → List (DataW H) → Bool := fun _ ds => decide (uptoBulkAll ds ≤ 1048576)
def OpenSpec.upto (s : _root_.Go.ChangeSpec) : _root_.Go.OpenSpec := { _root_.Go.OpenSpec.ofChange s with cond := some uptoSmall }

/-- 'laws.FnExactConstants', WHERE WHAT IT READS IS OF BULK AT MOST 1048576: true; the input reads as it did. -/
def fnExactConstantsUptoRow : OpenClaim := { program := "ytfbgdfdeaffodaa", sum := "a5a9fd69d85ccd79a777a84860a3e6890bd155bd1a3ad1441d49ee0a31f359f8", func := "loop.example/g00914/laws.FnExactConstants", spec := "fnExactConstants", apart := false, narrowed := true }
def FnExactConstantsUptoSaid : Prop := fnExactConstantsUptoRow.holds Try.pinned (OpenSpec.upto fnExactConstantsSpec)

/-- 'laws.FnExactIsGrid', WHERE WHAT IT READS IS OF BULK AT MOST 1048576: true; the input reads as it did. -/
def fnExactIsGridUptoRow : OpenClaim := { program := "ytfbgdfdeaffodaa", sum := "a5a9fd69d85ccd79a777a84860a3e6890bd155bd1a3ad1441d49ee0a31f359f8", func := "loop.example/g00914/laws.FnExactIsGrid", spec := "fnExactIsGrid", apart := false, narrowed := true }
def FnExactIsGridUptoSaid : Prop := fnExactIsGridUptoRow.holds Try.pinned (OpenSpec.upto fnExactIsGridSpec)

/-- 'laws.FnExactIsPiece', WHERE WHAT IT READS IS OF BULK AT MOST 1048576: true; the input reads as it did. -/
def fnExactIsPieceUptoRow : OpenClaim := { program := "ytfbgdfdeaffodaa", sum := "a5a9fd69d85ccd79a777a84860a3e6890bd155bd1a3ad1441d49ee0a31f359f8", func := "loop.example/g00914/laws.FnExactIsPiece", spec := "fnExactIsPiece", apart := false, narrowed := true }
def FnExactIsPieceUptoSaid : Prop := fnExactIsPieceUptoRow.holds Try.pinned (OpenSpec.upto fnExactIsPieceSpec)

/-- 'laws.FnExactArePrices', WHERE WHAT IT READS IS OF BULK AT MOST 1048576: true; the input reads as it did. -/
def fnExactArePricesUptoRow : OpenClaim := { program := "ytfbgdfdeaffodaa", sum := "a5a9fd69d85ccd79a777a84860a3e6890bd155bd1a3ad1441d49ee0a31f359f8", func := "loop.example/g00914/laws.FnExactArePrices", spec := "fnExactArePrices", apart := false, narrowed := true }
def FnExactArePricesUptoSaid : Prop := fnExactArePricesUptoRow.holds Try.pinned (OpenSpec.upto fnExactArePricesSpec)

/-- 'laws.FnExactBlockCount', WHERE WHAT IT READS IS OF BULK AT MOST 1048576: true; the input reads as it did. -/
def fnExactBlockCountUptoRow : OpenClaim := { program := "ytfbgdfdeaffodaa", sum := "a5a9fd69d85ccd79a777a84860a3e6890bd155bd1a3ad1441d49ee0a31f359f8", func := "loop.example/g00914/laws.FnExactBlockCount", spec := "fnExactBlockCount", apart := false, narrowed := true }
def FnExactBlockCountUptoSaid : Prop := fnExactBlockCountUptoRow.holds Try.pinned (OpenSpec.upto fnExactBlockCountSpec)

/-- 'laws.FnExactBlockAt', WHERE WHAT IT READS IS OF BULK AT MOST 1048576: true; the input reads as it did. -/
def fnExactBlockAtUptoRow : OpenClaim := { program := "ytfbgdfdeaffodaa", sum := "a5a9fd69d85ccd79a777a84860a3e6890bd155bd1a3ad1441d49ee0a31f359f8", func := "loop.example/g00914/laws.FnExactBlockAt", spec := "fnExactBlockAt", apart := false, narrowed := true }
def FnExactBlockAtUptoSaid : Prop := fnExactBlockAtUptoRow.holds Try.pinned (OpenSpec.upto fnExactBlockAtSpec)

/-- 'laws.FnExactPlaceOf', WHERE WHAT IT READS IS OF BULK AT MOST 1048576: true; the input reads as it did. -/
def fnExactPlaceOfUptoRow : OpenClaim := { program := "ytfbgdfdeaffodaa", sum := "a5a9fd69d85ccd79a777a84860a3e6890bd155bd1a3ad1441d49ee0a31f359f8", func := "loop.example/g00914/laws.FnExactPlaceOf", spec := "fnExactPlaceOf", apart := false, narrowed := true }
def FnExactPlaceOfUptoSaid : Prop := fnExactPlaceOfUptoRow.holds Try.pinned (OpenSpec.upto fnExactPlaceOfSpec)

/-- 'laws.FnExactRoundedGrade', WHERE WHAT IT READS IS OF BULK AT MOST 1048576: true; the input reads as it did. -/
def fnExactRoundedGradeUptoRow : OpenClaim := { program := "ytfbgdfdeaffodaa", sum := "a5a9fd69d85ccd79a777a84860a3e6890bd155bd1a3ad1441d49ee0a31f359f8", func := "loop.example/g00914/laws.FnExactRoundedGrade", spec := "fnExactRoundedGrade", apart := false, narrowed := true }
def FnExactRoundedGradeUptoSaid : Prop := fnExactRoundedGradeUptoRow.holds Try.pinned (OpenSpec.upto fnExactRoundedGradeSpec)

/-- 'laws.FnExactAreValues', WHERE WHAT IT READS IS OF BULK AT MOST 1048576: true; the input reads as it did. -/
def fnExactAreValuesUptoRow : OpenClaim := { program := "ytfbgdfdeaffodaa", sum := "a5a9fd69d85ccd79a777a84860a3e6890bd155bd1a3ad1441d49ee0a31f359f8", func := "loop.example/g00914/laws.FnExactAreValues", spec := "fnExactAreValues", apart := false, narrowed := true }
def FnExactAreValuesUptoSaid : Prop := fnExactAreValuesUptoRow.holds Try.pinned (OpenSpec.upto fnExactAreValuesSpec)

/-- 'laws.FnExactPieceGrade', WHERE WHAT IT READS IS OF BULK AT MOST 1048576: true; the input reads as it did. -/
def fnExactPieceGradeUptoRow : OpenClaim := { program := "ytfbgdfdeaffodaa", sum := "a5a9fd69d85ccd79a777a84860a3e6890bd155bd1a3ad1441d49ee0a31f359f8", func := "loop.example/g00914/laws.FnExactPieceGrade", spec := "fnExactPieceGrade", apart := false, narrowed := true }
def FnExactPieceGradeUptoSaid : Prop := fnExactPieceGradeUptoRow.holds Try.pinned (OpenSpec.upto fnExactPieceGradeSpec)

/-- 'laws.FnExactCoarseBlock', WHERE WHAT IT READS IS OF BULK AT MOST 1048576: true; the input reads as it did. -/
def fnExactCoarseBlockUptoRow : OpenClaim := { program := "ytfbgdfdeaffodaa", sum := "a5a9fd69d85ccd79a777a84860a3e6890bd155bd1a3ad1441d49ee0a31f359f8", func := "loop.example/g00914/laws.FnExactCoarseBlock", spec := "fnExactCoarseBlock", apart := false, narrowed := true }
def FnExactCoarseBlockUptoSaid : Prop := fnExactCoarseBlockUptoRow.holds Try.pinned (OpenSpec.upto fnExactCoarseBlockSpec)

/-- 'laws.FnExactCutOff', WHERE WHAT IT READS IS OF BULK AT MOST 1048576: true; the input reads as it did. -/
def fnExactCutOffUptoRow : OpenClaim := { program := "ytfbgdfdeaffodaa", sum := "a5a9fd69d85ccd79a777a84860a3e6890bd155bd1a3ad1441d49ee0a31f359f8", func := "loop.example/g00914/laws.FnExactCutOff", spec := "fnExactCutOff", apart := false, narrowed := true }
def FnExactCutOffUptoSaid : Prop := fnExactCutOffUptoRow.holds Try.pinned (OpenSpec.upto fnExactCutOffSpec)

end Rows
end Go.Proofs.Ytfbgdfdeaffodaa
