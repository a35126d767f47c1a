/-
  No cell of these rows narrows 'for every input' (looked for: loops, veiled, ifaces, maps, wideKeys, modest, calm, conditions, laid).
  DERIVED. THE GIVEN ROWS OF THIS SEAT. 4 by the template 'for every input the law returns true; each argument reads behind the call as it read before'; 0 by the template 'total and deterministic' (their statements: YtdfjlelbkkaloaaTotals.lean).
  GIVEN WITH THE SEED: the statements are not yours to turn. If you find one false, say at which input.
  Laid BY PROGRAM, IN A SANDBOX (cutbox-rows.mjs): the forced cells as the released guide's own fill.sh prints them over the translation 2f9dfa5629d12448… (all of the seat's roots in one cut). By AI agents, Wed Nov 11 2026. No macro, syntax, notation, axiom, sorry.
-/
import Derived.Test.YtdfjlelbkkaloaaChecked
import GoSem.Claim
import GoSem.ClaimJoined
import GoSem.ClaimMapViews
import Derived.JoinedTies
import Derived.KernelRfl
namespace Go.Proofs.Ytdfjlelbkkaloaa
/- THE CELL 'sum', in the pinned program and in every row, IS THE sha256 OF THE DUMP (.gsa) THAT YtdfjlelbkkaloaaProg.lean LOADS. Nothing in Lean hashes anything: it is a label: what it is worth is what the hold of that sum in a sandbox is worth. -/
noncomputable def Try.pinned : Pinned := { name := "ytdfjlelbkkaloaa", sum := "2f9dfa5629d12448bd5400ead18c1c0dd6eb6d1c395eca751b178a4f2880a6b3", checked := Try.checked }
namespace Rows
def none {H : Type} : Left H := { results := [], args := [] }

/-- 'laws.FnExactSetBlock': WHATEVER THE INPUT: true; the input reads as it did. -/
def fnExactSetBlockSpec : ChangeSpec := { name := "fnExactSetBlock", fn := fun _ => fun
  | [d1, d2, d3, d4, d5] => { results := [.lit (.bool true)], args := [d1, d2, d3, d4, d5] }
  | _ => none }
def fnExactSetBlockRow : OpenClaim := { program := "ytdfjlelbkkaloaa", sum := "2f9dfa5629d12448bd5400ead18c1c0dd6eb6d1c395eca751b178a4f2880a6b3", func := "loop.example/g00914/laws.FnExactSetBlock", spec := "fnExactSetBlock", apart := false }
def FnExactSetBlockSaid : Prop := fnExactSetBlockRow.holds Try.pinned (OpenSpec.ofChange fnExactSetBlockSpec)

/-- ITS FALSE NEIGHBOUR: 'it returns false'. Refute it at one input. -/
def fnExactSetBlockWrong : ChangeSpec := { name := "fnExactSetBlock", fn := fun _ => fun
  | [d1, d2, d3, d4, d5] => { results := [.lit (.bool false)], args := [d1, d2, d3, d4, d5] }
  | _ => none }
def FnExactSetBlockWrongFalsely : Prop := fnExactSetBlockRow.holds Try.pinned (OpenSpec.ofChange fnExactSetBlockWrong)

/-- 'laws.FnExactEmptyBlocks': WHATEVER THE INPUT: true; the input reads as it did. -/
def fnExactEmptyBlocksSpec : ChangeSpec := { name := "fnExactEmptyBlocks", fn := fun _ => fun
  | [d1, d2] => { results := [.lit (.bool true)], args := [d1, d2] }
  | _ => none }
def fnExactEmptyBlocksRow : OpenClaim := { program := "ytdfjlelbkkaloaa", sum := "2f9dfa5629d12448bd5400ead18c1c0dd6eb6d1c395eca751b178a4f2880a6b3", func := "loop.example/g00914/laws.FnExactEmptyBlocks", spec := "fnExactEmptyBlocks", apart := false }
def FnExactEmptyBlocksSaid : Prop := fnExactEmptyBlocksRow.holds Try.pinned (OpenSpec.ofChange fnExactEmptyBlocksSpec)

/-- ITS FALSE NEIGHBOUR: 'it returns false'. Refute it at one input. -/
def fnExactEmptyBlocksWrong : ChangeSpec := { name := "fnExactEmptyBlocks", fn := fun _ => fun
  | [d1, d2] => { results := [.lit (.bool false)], args := [d1, d2] }
  | _ => none }
def FnExactEmptyBlocksWrongFalsely : Prop := fnExactEmptyBlocksRow.holds Try.pinned (OpenSpec.ofChange fnExactEmptyBlocksWrong)

/-- 'laws.FnExactLevelSums': WHATEVER THE INPUT: true; the input reads as it did. -/
def fnExactLevelSumsSpec : ChangeSpec := { name := "fnExactLevelSums", fn := fun _ => fun
  | [d] => { results := [.lit (.bool true)], args := [d] }
  | _ => none }
def fnExactLevelSumsRow : OpenClaim := { program := "ytdfjlelbkkaloaa", sum := "2f9dfa5629d12448bd5400ead18c1c0dd6eb6d1c395eca751b178a4f2880a6b3", func := "loop.example/g00914/laws.FnExactLevelSums", spec := "fnExactLevelSums", apart := false }
def FnExactLevelSumsSaid : Prop := fnExactLevelSumsRow.holds Try.pinned (OpenSpec.ofChange fnExactLevelSumsSpec)

/-- ITS FALSE NEIGHBOUR: 'it returns false'. Refute it at one input. -/
def fnExactLevelSumsWrong : ChangeSpec := { name := "fnExactLevelSums", fn := fun _ => fun
  | [d] => { results := [.lit (.bool false)], args := [d] }
  | _ => none }
def FnExactLevelSumsWrongFalsely : Prop := fnExactLevelSumsRow.holds Try.pinned (OpenSpec.ofChange fnExactLevelSumsWrong)

/-- 'laws.FnGrades': WHATEVER THE INPUT: true; the input reads as it did. -/
def fnGradesSpec : ChangeSpec := { name := "fnGrades", fn := fun _ => fun
  | [d1, d2] => { results := [.lit (.bool true)], args := [d1, d2] }
  | _ => none }
def fnGradesRow : OpenClaim := { program := "ytdfjlelbkkaloaa", sum := "2f9dfa5629d12448bd5400ead18c1c0dd6eb6d1c395eca751b178a4f2880a6b3", func := "loop.example/g00914/laws.FnGrades", spec := "fnGrades", apart := false }
def FnGradesSaid : Prop := fnGradesRow.holds Try.pinned (OpenSpec.ofChange fnGradesSpec)

/-- ITS FALSE NEIGHBOUR: 'it returns false'. Refute it at one input. -/
def fnGradesWrong : ChangeSpec := { name := "fnGrades", fn := fun _ => fun
  | [d1, d2] => { results := [.lit (.bool false)], args := [d1, d2] }
  | _ => none }
def FnGradesWrongFalsely : Prop := fnGradesRow.holds Try.pinned (OpenSpec.ofChange fnGradesWrong)

/- THE SECOND FORM. 'bulk': how many values and letters a reading holds, each counted each time it is reached (what is shared counts as often as it is met; a slice's spare places count too). A statement '..UptoSaid' is the law's where the arguments, and the package variables that the reading takes, are together of bulk at most 1048576: NARROWER than '..Said'. Prove '..Said' where nothing that the law and all that it calls make is longer than what came in: it says more and counts as full. Else prove '..UptoSaid'. A law counts once. -/
mutual
def uptoBulk {H : Type} : DataW H → Nat
  | .lit (.string bytes) => bytes.length + 1
  | .lit _ => 1
  | .nil => 1
  | .ptr d => uptoBulk d + 1
  | .slice elems spare => uptoBulkAll elems + uptoBulkAll spare + 1
  | .agg parts => uptoBulkAll parts + 1
  | .iface _ d => uptoBulk d + 1
  | .map entries => uptoBulkEntries entries + 1
  | .held _ => 1
def uptoBulkAll {H : Type} : List (DataW H) → Nat
  | [] => 0
  | d :: r => uptoBulk d + uptoBulkAll r
def uptoBulkEntries {H : Type} : List (Lit × DataW H) → Nat
  | [] => 0
  | x :: r => uptoBulkEntry x + uptoBulkEntries r
def uptoBulkEntry {H : Type} : Lit × DataW H → Nat
  | (.string bytes, d) => bytes.length + uptoBulk d + 1
  | (_, d) => uptoBulk d + 1
 end
def uptoSmall : (H : Type) → List (DataW H) → Bool := fun _ ds => decide (uptoBulkAll ds ≤ 1048576)
def OpenSpec.upto (s : _root_.Go.ChangeSpec) : _root_.Go.OpenSpec := { _root_.Go.OpenSpec.ofChange s with cond := some uptoSmall }

/-- 'laws.FnExactSetBlock', WHERE WHAT IT READS IS OF BULK AT MOST 1048576: true; the input reads as it did. -/
def fnExactSetBlockUptoRow : OpenClaim := { program := "ytdfjlelbkkaloaa", sum := "2f9dfa5629d12448bd5400ead18c1c0dd6eb6d1c395eca751b178a4f2880a6b3", func := "loop.example/g00914/laws.FnExactSetBlock", spec := "fnExactSetBlock", apart := false, narrowed := true }
def FnExactSetBlockUptoSaid : Prop := fnExactSetBlockUptoRow.holds Try.pinned (OpenSpec.upto fnExactSetBlockSpec)

/-- 'laws.FnExactEmptyBlocks', WHERE WHAT IT READS IS OF BULK AT MOST 1048576: true; the input reads as it did. -/
def fnExactEmptyBlocksUptoRow : OpenClaim := { program := "ytdfjlelbkkaloaa", sum := "2f9dfa5629d12448bd5400ead18c1c0dd6eb6d1c395eca751b178a4f2880a6b3", func := "loop.example/g00914/laws.FnExactEmptyBlocks", spec := "fnExactEmptyBlocks", apart := false, narrowed := true }
def FnExactEmptyBlocksUptoSaid : Prop := fnExactEmptyBlocksUptoRow.holds Try.pinned (OpenSpec.upto fnExactEmptyBlocksSpec)

/-- 'laws.FnExactLevelSums', WHERE WHAT IT READS IS OF BULK AT MOST 1048576: true; the input reads as it did. -/
def fnExactLevelSumsUptoRow : OpenClaim := { program := "ytdfjlelbkkaloaa", sum := "2f9dfa5629d12448bd5400ead18c1c0dd6eb6d1c395eca751b178a4f2880a6b3", func := "loop.example/g00914/laws.FnExactLevelSums", spec := "fnExactLevelSums", apart := false, narrowed := true }
def FnExactLevelSumsUptoSaid : Prop := fnExactLevelSumsUptoRow.holds Try.pinned (OpenSpec.upto fnExactLevelSumsSpec)

/-- 'laws.FnGrades', WHERE WHAT IT READS IS OF BULK AT MOST 1048576: true; the input reads as it did. -/
def fnGradesUptoRow : OpenClaim := { program := "ytdfjlelbkkaloaa", sum := "2f9dfa5629d12448bd5400ead18c1c0dd6eb6d1c395eca751b178a4f2880a6b3", func := "loop.example/g00914/laws.FnGrades", spec := "fnGrades", apart := false, narrowed := true }
def FnGradesUptoSaid : Prop := fnGradesUptoRow.holds Try.pinned (OpenSpec.upto fnGradesSpec)

end Rows
end Go.Proofs.Ytdfjlelbkkaloaa
