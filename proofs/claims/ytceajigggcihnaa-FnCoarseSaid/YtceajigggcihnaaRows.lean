/-
  No cell of these rows narrows 'for every input' (looked for: loops, veiled, ifaces, maps, wideKeys, modest, calm, conditions, laid).
  DERIVED. THE GIVEN ROWS OF THIS SEAT. 8 by the template 'for every input the law returns true; each argument reads behind the call as it read before'; 0 by the template 'total and deterministic' (their statements: YtceajigggcihnaaTotals.lean).
  GIVEN WITH THE SEED: the statements are not yours to turn. If you find one false, say at which input.
  Laid BY PROGRAM, IN A SANDBOX (cutbox-rows.mjs): the forced cells as the released guide's own fill.sh prints them over the translation 4d55a0648b9e6f37… (all of the seat's roots in one cut). By AI agents, Wed Nov 11 2026. No macro, syntax, notation, axiom, sorry.
-/
import Derived.Test.YtceajigggcihnaaChecked
import GoSem.Claim
import GoSem.ClaimJoined
import GoSem.ClaimMapViews
import Derived.JoinedTies
import Derived.KernelRfl
namespace Go.Proofs.Ytceajigggcihnaa
/- THE CELL 'sum', in the pinned program and in every row, IS THE sha256 OF THE DUMP (.gsa) THAT YtceajigggcihnaaProg.lean LOADS. Nothing in Lean hashes anything: it is a label: what it is worth is what the hold of that sum in a sandbox is worth. -/
noncomputable def Try.pinned : Pinned := { name := "ytceajigggcihnaa", sum := "4d55a0648b9e6f37ac72691db715e64ed24ad6fba9a1b587051732b704356e21", checked := Try.checked }
namespace Rows
def none {H : Type} : Left H := { results := [], args := [] }

/-- 'laws.FnExactPieceOf': WHATEVER THE INPUT: true; the input reads as it did. -/
def fnExactPieceOfSpec : ChangeSpec := { name := "fnExactPieceOf", fn := fun _ => fun
  | [d1, d2] => { results := [.lit (.bool true)], args := [d1, d2] }
  | _ => none }
def fnExactPieceOfRow : OpenClaim := { program := "ytceajigggcihnaa", sum := "4d55a0648b9e6f37ac72691db715e64ed24ad6fba9a1b587051732b704356e21", func := "loop.example/g00914/laws.FnExactPieceOf", spec := "fnExactPieceOf", apart := false }
def FnExactPieceOfSaid : Prop := fnExactPieceOfRow.holds Try.pinned (OpenSpec.ofChange fnExactPieceOfSpec)

/-- ITS FALSE NEIGHBOUR: 'it returns false'. Refute it at one input. -/
def fnExactPieceOfWrong : ChangeSpec := { name := "fnExactPieceOf", fn := fun _ => fun
  | [d1, d2] => { results := [.lit (.bool false)], args := [d1, d2] }
  | _ => none }
def FnExactPieceOfWrongFalsely : Prop := fnExactPieceOfRow.holds Try.pinned (OpenSpec.ofChange fnExactPieceOfWrong)

/-- 'laws.FnExactJoinPieces': WHATEVER THE INPUT: true; the input reads as it did. -/
def fnExactJoinPiecesSpec : ChangeSpec := { name := "fnExactJoinPieces", fn := fun _ => fun
  | [d] => { results := [.lit (.bool true)], args := [d] }
  | _ => none }
def fnExactJoinPiecesRow : OpenClaim := { program := "ytceajigggcihnaa", sum := "4d55a0648b9e6f37ac72691db715e64ed24ad6fba9a1b587051732b704356e21", func := "loop.example/g00914/laws.FnExactJoinPieces", spec := "fnExactJoinPieces", apart := false }
def FnExactJoinPiecesSaid : Prop := fnExactJoinPiecesRow.holds Try.pinned (OpenSpec.ofChange fnExactJoinPiecesSpec)

/-- ITS FALSE NEIGHBOUR: 'it returns false'. Refute it at one input. -/
def fnExactJoinPiecesWrong : ChangeSpec := { name := "fnExactJoinPieces", fn := fun _ => fun
  | [d] => { results := [.lit (.bool false)], args := [d] }
  | _ => none }
def FnExactJoinPiecesWrongFalsely : Prop := fnExactJoinPiecesRow.holds Try.pinned (OpenSpec.ofChange fnExactJoinPiecesWrong)

/-- 'laws.FnExactSplitPiece': WHATEVER THE INPUT: true; the input reads as it did. -/
def fnExactSplitPieceSpec : ChangeSpec := { name := "fnExactSplitPiece", fn := fun _ => fun
  | [d1, d2] => { results := [.lit (.bool true)], args := [d1, d2] }
  | _ => none }
def fnExactSplitPieceRow : OpenClaim := { program := "ytceajigggcihnaa", sum := "4d55a0648b9e6f37ac72691db715e64ed24ad6fba9a1b587051732b704356e21", func := "loop.example/g00914/laws.FnExactSplitPiece", spec := "fnExactSplitPiece", apart := false }
def FnExactSplitPieceSaid : Prop := fnExactSplitPieceRow.holds Try.pinned (OpenSpec.ofChange fnExactSplitPieceSpec)

/-- ITS FALSE NEIGHBOUR: 'it returns false'. Refute it at one input. -/
def fnExactSplitPieceWrong : ChangeSpec := { name := "fnExactSplitPiece", fn := fun _ => fun
  | [d1, d2] => { results := [.lit (.bool false)], args := [d1, d2] }
  | _ => none }
def FnExactSplitPieceWrongFalsely : Prop := fnExactSplitPieceRow.holds Try.pinned (OpenSpec.ofChange fnExactSplitPieceWrong)

/-- 'laws.FnExactSortPieces': WHATEVER THE INPUT: true; the input reads as it did. -/
def fnExactSortPiecesSpec : ChangeSpec := { name := "fnExactSortPieces", fn := fun _ => fun
  | [d] => { results := [.lit (.bool true)], args := [d] }
  | _ => none }
def fnExactSortPiecesRow : OpenClaim := { program := "ytceajigggcihnaa", sum := "4d55a0648b9e6f37ac72691db715e64ed24ad6fba9a1b587051732b704356e21", func := "loop.example/g00914/laws.FnExactSortPieces", spec := "fnExactSortPieces", unfollowed := true, recurses := true, apart := false }
def FnExactSortPiecesSaid : Prop := fnExactSortPiecesRow.holds Try.pinned (OpenSpec.ofChange fnExactSortPiecesSpec)

/-- ITS FALSE NEIGHBOUR: 'it returns false'. Refute it at one input. -/
def fnExactSortPiecesWrong : ChangeSpec := { name := "fnExactSortPieces", fn := fun _ => fun
  | [d] => { results := [.lit (.bool false)], args := [d] }
  | _ => none }
def FnExactSortPiecesWrongFalsely : Prop := fnExactSortPiecesRow.holds Try.pinned (OpenSpec.ofChange fnExactSortPiecesWrong)

/-- 'laws.FnExactCoarseModel': WHATEVER THE INPUT: true; the input reads as it did. -/
def fnExactCoarseModelSpec : ChangeSpec := { name := "fnExactCoarseModel", fn := fun _ => fun
  | [d] => { results := [.lit (.bool true)], args := [d] }
  | _ => none }
def fnExactCoarseModelRow : OpenClaim := { program := "ytceajigggcihnaa", sum := "4d55a0648b9e6f37ac72691db715e64ed24ad6fba9a1b587051732b704356e21", func := "loop.example/g00914/laws.FnExactCoarseModel", spec := "fnExactCoarseModel", apart := false }
def FnExactCoarseModelSaid : Prop := fnExactCoarseModelRow.holds Try.pinned (OpenSpec.ofChange fnExactCoarseModelSpec)

/-- ITS FALSE NEIGHBOUR: 'it returns false'. Refute it at one input. -/
def fnExactCoarseModelWrong : ChangeSpec := { name := "fnExactCoarseModel", fn := fun _ => fun
  | [d] => { results := [.lit (.bool false)], args := [d] }
  | _ => none }
def FnExactCoarseModelWrongFalsely : Prop := fnExactCoarseModelRow.holds Try.pinned (OpenSpec.ofChange fnExactCoarseModelWrong)

/-- 'laws.FnExactBestPieces': WHATEVER THE INPUT: true; the input reads as it did. -/
def fnExactBestPiecesSpec : ChangeSpec := { name := "fnExactBestPieces", fn := fun _ => fun
  | [d1, d2] => { results := [.lit (.bool true)], args := [d1, d2] }
  | _ => none }
def fnExactBestPiecesRow : OpenClaim := { program := "ytceajigggcihnaa", sum := "4d55a0648b9e6f37ac72691db715e64ed24ad6fba9a1b587051732b704356e21", func := "loop.example/g00914/laws.FnExactBestPieces", spec := "fnExactBestPieces", unfollowed := true, recurses := true, apart := false }
def FnExactBestPiecesSaid : Prop := fnExactBestPiecesRow.holds Try.pinned (OpenSpec.ofChange fnExactBestPiecesSpec)

/-- ITS FALSE NEIGHBOUR: 'it returns false'. Refute it at one input. -/
def fnExactBestPiecesWrong : ChangeSpec := { name := "fnExactBestPieces", fn := fun _ => fun
  | [d1, d2] => { results := [.lit (.bool false)], args := [d1, d2] }
  | _ => none }
def FnExactBestPiecesWrongFalsely : Prop := fnExactBestPiecesRow.holds Try.pinned (OpenSpec.ofChange fnExactBestPiecesWrong)

/-- 'laws.FnPieces': WHATEVER THE INPUT: true; the input reads as it did. -/
def fnPiecesSpec : ChangeSpec := { name := "fnPieces", fn := fun _ => fun
  | [d1, d2] => { results := [.lit (.bool true)], args := [d1, d2] }
  | _ => none }
def fnPiecesRow : OpenClaim := { program := "ytceajigggcihnaa", sum := "4d55a0648b9e6f37ac72691db715e64ed24ad6fba9a1b587051732b704356e21", func := "loop.example/g00914/laws.FnPieces", spec := "fnPieces", apart := false }
def FnPiecesSaid : Prop := fnPiecesRow.holds Try.pinned (OpenSpec.ofChange fnPiecesSpec)

/-- ITS FALSE NEIGHBOUR: 'it returns false'. Refute it at one input. -/
def fnPiecesWrong : ChangeSpec := { name := "fnPieces", fn := fun _ => fun
  | [d1, d2] => { results := [.lit (.bool false)], args := [d1, d2] }
  | _ => none }
def FnPiecesWrongFalsely : Prop := fnPiecesRow.holds Try.pinned (OpenSpec.ofChange fnPiecesWrong)

/-- 'laws.FnCoarse': WHATEVER THE INPUT: true; the input reads as it did. -/
def fnCoarseSpec : ChangeSpec := { name := "fnCoarse", fn := fun _ => fun
  | [d1, d2] => { results := [.lit (.bool true)], args := [d1, d2] }
  | _ => none }
def fnCoarseRow : OpenClaim := { program := "ytceajigggcihnaa", sum := "4d55a0648b9e6f37ac72691db715e64ed24ad6fba9a1b587051732b704356e21", func := "loop.example/g00914/laws.FnCoarse", spec := "fnCoarse", unfollowed := true, recurses := true, apart := false }
def FnCoarseSaid : Prop := fnCoarseRow.holds Try.pinned (OpenSpec.ofChange fnCoarseSpec)

/-- ITS FALSE NEIGHBOUR: 'it returns false'. Refute it at one input. -/
def fnCoarseWrong : ChangeSpec := { name := "fnCoarse", fn := fun _ => fun
  | [d1, d2] => { results := [.lit (.bool false)], args := [d1, d2] }
  | _ => none }
def FnCoarseWrongFalsely : Prop := fnCoarseRow.holds Try.pinned (OpenSpec.ofChange fnCoarseWrong)

/- THE SECOND FORM. 'bulk': how many values and letters a reading holds, each counted each time it is reached (what is shared counts as often as it is met; a slice's spare places count too). A statement '..UptoSaid' is the law's where the arguments, and the package variables that the reading takes, are together of bulk at most 1048576: NARROWER than '..Said'. Prove '..Said' where nothing that the law and all that it calls make is longer than what came in: it says more and counts as full. Else prove '..UptoSaid'. A law counts once. -/
mutual
def uptoBulk {H : Type} : DataW H → Nat
  | .lit (.string bytes) => bytes.length + 1
  | .lit _ => 1
  | .nil => 1
  | .ptr d => uptoBulk d + 1
  | .slice elems spare => uptoBulkAll elems + uptoBulkAll spare + 1
  | .agg parts => uptoBulkAll parts + 1
  | .iface _ d => uptoBulk d + 1
  | .map entries => uptoBulkEntries entries + 1
  | .held _ => 1
def uptoBulkAll {H : Type} : List (DataW H) → Nat
  | [] => 0
  | d :: r => uptoBulk d + uptoBulkAll r
def uptoBulkEntries {H : Type} : List (Lit × DataW H) → Nat
  | [] => 0
  | x :: r => uptoBulkEntry x + uptoBulkEntries r
def uptoBulkEntry {H : Type} : Lit × DataW H → Nat
  | (.string bytes, d) => bytes.length + uptoBulk d + 1
  | (_, d) => uptoBulk d + 1
 end
def uptoSmall : (H : Type) → List (DataW H) → Bool := fun _ ds => decide (uptoBulkAll ds ≤ 1048576)
def OpenSpec.upto (s : _root_.Go.ChangeSpec) : _root_.Go.OpenSpec := { _root_.Go.OpenSpec.ofChange s with cond := some uptoSmall }

/-- 'laws.FnExactPieceOf', WHERE WHAT IT READS IS OF BULK AT MOST 1048576: true; the input reads as it did. -/
def fnExactPieceOfUptoRow : OpenClaim := { program := "ytceajigggcihnaa", sum := "4d55a0648b9e6f37ac72691db715e64ed24ad6fba9a1b587051732b704356e21", func := "loop.example/g00914/laws.FnExactPieceOf", spec := "fnExactPieceOf", apart := false, narrowed := true }
def FnExactPieceOfUptoSaid : Prop := fnExactPieceOfUptoRow.holds Try.pinned (OpenSpec.upto fnExactPieceOfSpec)

/-- 'laws.FnExactJoinPieces', WHERE WHAT IT READS IS OF BULK AT MOST 1048576: true; the input reads as it did. -/
def fnExactJoinPiecesUptoRow : OpenClaim := { program := "ytceajigggcihnaa", sum := "4d55a0648b9e6f37ac72691db715e64ed24ad6fba9a1b587051732b704356e21", func := "loop.example/g00914/laws.FnExactJoinPieces", spec := "fnExactJoinPieces", apart := false, narrowed := true }
def FnExactJoinPiecesUptoSaid : Prop := fnExactJoinPiecesUptoRow.holds Try.pinned (OpenSpec.upto fnExactJoinPiecesSpec)

/-- 'laws.FnExactSplitPiece', WHERE WHAT IT READS IS OF BULK AT MOST 1048576: true; the input reads as it did. -/
def fnExactSplitPieceUptoRow : OpenClaim := { program := "ytceajigggcihnaa", sum := "4d55a0648b9e6f37ac72691db715e64ed24ad6fba9a1b587051732b704356e21", func := "loop.example/g00914/laws.FnExactSplitPiece", spec := "fnExactSplitPiece", apart := false, narrowed := true }
def FnExactSplitPieceUptoSaid : Prop := fnExactSplitPieceUptoRow.holds Try.pinned (OpenSpec.upto fnExactSplitPieceSpec)

/-- 'laws.FnExactSortPieces', WHERE WHAT IT READS IS OF BULK AT MOST 1048576: true; the input reads as it did. -/
def fnExactSortPiecesUptoRow : OpenClaim := { program := "ytceajigggcihnaa", sum := "4d55a0648b9e6f37ac72691db715e64ed24ad6fba9a1b587051732b704356e21", func := "loop.example/g00914/laws.FnExactSortPieces", spec := "fnExactSortPieces", unfollowed := true, recurses := true, apart := false, narrowed := true }
def FnExactSortPiecesUptoSaid : Prop := fnExactSortPiecesUptoRow.holds Try.pinned (OpenSpec.upto fnExactSortPiecesSpec)

/-- 'laws.FnExactCoarseModel', WHERE WHAT IT READS IS OF BULK AT MOST 1048576: true; the input reads as it did. -/
def fnExactCoarseModelUptoRow : OpenClaim := { program := "ytceajigggcihnaa", sum := "4d55a0648b9e6f37ac72691db715e64ed24ad6fba9a1b587051732b704356e21", func := "loop.example/g00914/laws.FnExactCoarseModel", spec := "fnExactCoarseModel", apart := false, narrowed := true }
def FnExactCoarseModelUptoSaid : Prop := fnExactCoarseModelUptoRow.holds Try.pinned (OpenSpec.upto fnExactCoarseModelSpec)

/-- 'laws.FnExactBestPieces', WHERE WHAT IT READS IS OF BULK AT MOST 1048576: true; the input reads as it did. -/
def fnExactBestPiecesUptoRow : OpenClaim := { program := "ytceajigggcihnaa", sum := "4d55a0648b9e6f37ac72691db715e64ed24ad6fba9a1b587051732b704356e21", func := "loop.example/g00914/laws.FnExactBestPieces", spec := "fnExactBestPieces", unfollowed := true, recurses := true, apart := false, narrowed := true }
def FnExactBestPiecesUptoSaid : Prop := fnExactBestPiecesUptoRow.holds Try.pinned (OpenSpec.upto fnExactBestPiecesSpec)

/-- 'laws.FnPieces', WHERE WHAT IT READS IS OF BULK AT MOST 1048576: true; the input reads as it did. -/
def fnPiecesUptoRow : OpenClaim := { program := "ytceajigggcihnaa", sum := "4d55a0648b9e6f37ac72691db715e64ed24ad6fba9a1b587051732b704356e21", func := "loop.example/g00914/laws.FnPieces", spec := "fnPieces", apart := false, narrowed := true }
def FnPiecesUptoSaid : Prop := fnPiecesUptoRow.holds Try.pinned (OpenSpec.upto fnPiecesSpec)

/-- 'laws.FnCoarse', WHERE WHAT IT READS IS OF BULK AT MOST 1048576: true; the input reads as it did. -/
def fnCoarseUptoRow : OpenClaim := { program := "ytceajigggcihnaa", sum := "4d55a0648b9e6f37ac72691db715e64ed24ad6fba9a1b587051732b704356e21", func := "loop.example/g00914/laws.FnCoarse", spec := "fnCoarse", unfollowed := true, recurses := true, apart := false, narrowed := true }
def FnCoarseUptoSaid : Prop := fnCoarseUptoRow.holds Try.pinned (OpenSpec.upto fnCoarseSpec)

end Rows
end Go.Proofs.Ytceajigggcihnaa
