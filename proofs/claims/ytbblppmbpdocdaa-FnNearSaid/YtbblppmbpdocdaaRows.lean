/-
  No cell of these rows narrows 'for every input' (looked for: loops, veiled, ifaces, maps, wideKeys, modest, calm, conditions, laid).
  DERIVED. THE GIVEN ROWS OF THIS SEAT. 6 by the template 'for every input the law returns true; each argument reads behind the call as it read before'; 0 by the template 'total and deterministic' (their statements: YtbblppmbpdocdaaTotals.lean).
  GIVEN WITH THE SEED: the statements are not yours to turn. If you find one false, say at which input.
  Laid BY PROGRAM, IN A SANDBOX (cutbox-rows.mjs): the forced cells as the released guide's own fill.sh prints them over the translation 983cd83c540d9c28… (all of the seat's roots in one cut). By AI agents, Wed Nov 11 2026. No macro, syntax, notation, axiom, sorry.
-/
import Derived.Test.YtbblppmbpdocdaaChecked
import GoSem.Claim
import GoSem.ClaimJoined
import GoSem.ClaimMapViews
import Derived.JoinedTies
import Derived.KernelRfl
namespace Go.Proofs.Ytbblppmbpdocdaa
/- THE CELL 'sum', in the pinned program and in every row, IS THE sha256 OF THE DUMP (.gsa) THAT YtbblppmbpdocdaaProg.lean LOADS. Nothing in Lean hashes anything: it is a label: what it is worth is what the hold of that sum in a sandbox is worth. -/
noncomputable def Try.pinned : Pinned := { name := "ytbblppmbpdocdaa", sum := "983cd83c540d9c2829e945a3f1b95a1eb42ae43d62a7809eb45ba395d26eb51b", checked := Try.checked }
namespace Rows
def none {H : Type} : Left H := { results := [], args := [] }

/-- 'laws.FnExactLevelBlocks': WHATEVER THE INPUT: true; the input reads as it did. -/
def fnExactLevelBlocksSpec : ChangeSpec := { name := "fnExactLevelBlocks", fn := fun _ => fun
  | [d1, d2] => { results := [.lit (.bool true)], args := [d1, d2] }
  | _ => none }
def fnExactLevelBlocksRow : OpenClaim := { program := "ytbblppmbpdocdaa", sum := "983cd83c540d9c2829e945a3f1b95a1eb42ae43d62a7809eb45ba395d26eb51b", func := "loop.example/g00914/laws.FnExactLevelBlocks", spec := "fnExactLevelBlocks", apart := false }
def FnExactLevelBlocksSaid : Prop := fnExactLevelBlocksRow.holds Try.pinned (OpenSpec.ofChange fnExactLevelBlocksSpec)

/-- ITS FALSE NEIGHBOUR: 'it returns false'. Refute it at one input. -/
def fnExactLevelBlocksWrong : ChangeSpec := { name := "fnExactLevelBlocks", fn := fun _ => fun
  | [d1, d2] => { results := [.lit (.bool false)], args := [d1, d2] }
  | _ => none }
def FnExactLevelBlocksWrongFalsely : Prop := fnExactLevelBlocksRow.holds Try.pinned (OpenSpec.ofChange fnExactLevelBlocksWrong)

/-- 'laws.FnExactColumnBlocks': WHATEVER THE INPUT: true; the input reads as it did. -/
def fnExactColumnBlocksSpec : ChangeSpec := { name := "fnExactColumnBlocks", fn := fun _ => fun
  | [d1, d2, d3] => { results := [.lit (.bool true)], args := [d1, d2, d3] }
  | _ => none }
def fnExactColumnBlocksRow : OpenClaim := { program := "ytbblppmbpdocdaa", sum := "983cd83c540d9c2829e945a3f1b95a1eb42ae43d62a7809eb45ba395d26eb51b", func := "loop.example/g00914/laws.FnExactColumnBlocks", spec := "fnExactColumnBlocks", apart := false }
def FnExactColumnBlocksSaid : Prop := fnExactColumnBlocksRow.holds Try.pinned (OpenSpec.ofChange fnExactColumnBlocksSpec)

/-- ITS FALSE NEIGHBOUR: 'it returns false'. Refute it at one input. -/
def fnExactColumnBlocksWrong : ChangeSpec := { name := "fnExactColumnBlocks", fn := fun _ => fun
  | [d1, d2, d3] => { results := [.lit (.bool false)], args := [d1, d2, d3] }
  | _ => none }
def FnExactColumnBlocksWrongFalsely : Prop := fnExactColumnBlocksRow.holds Try.pinned (OpenSpec.ofChange fnExactColumnBlocksWrong)

/-- 'laws.FnExactBoxOf': WHATEVER THE INPUT: true; the input reads as it did. -/
def fnExactBoxOfSpec : ChangeSpec := { name := "fnExactBoxOf", fn := fun _ => fun
  | [d1, d2, d3] => { results := [.lit (.bool true)], args := [d1, d2, d3] }
  | _ => none }
def fnExactBoxOfRow : OpenClaim := { program := "ytbblppmbpdocdaa", sum := "983cd83c540d9c2829e945a3f1b95a1eb42ae43d62a7809eb45ba395d26eb51b", func := "loop.example/g00914/laws.FnExactBoxOf", spec := "fnExactBoxOf", apart := false }
def FnExactBoxOfSaid : Prop := fnExactBoxOfRow.holds Try.pinned (OpenSpec.ofChange fnExactBoxOfSpec)

/-- ITS FALSE NEIGHBOUR: 'it returns false'. Refute it at one input. -/
def fnExactBoxOfWrong : ChangeSpec := { name := "fnExactBoxOf", fn := fun _ => fun
  | [d1, d2, d3] => { results := [.lit (.bool false)], args := [d1, d2, d3] }
  | _ => none }
def FnExactBoxOfWrongFalsely : Prop := fnExactBoxOfRow.holds Try.pinned (OpenSpec.ofChange fnExactBoxOfWrong)

/-- 'laws.FnExactNeighboursOf': WHATEVER THE INPUT: true; the input reads as it did. -/
def fnExactNeighboursOfSpec : ChangeSpec := { name := "fnExactNeighboursOf", fn := fun _ => fun
  | [d1, d2] => { results := [.lit (.bool true)], args := [d1, d2] }
  | _ => none }
def fnExactNeighboursOfRow : OpenClaim := { program := "ytbblppmbpdocdaa", sum := "983cd83c540d9c2829e945a3f1b95a1eb42ae43d62a7809eb45ba395d26eb51b", func := "loop.example/g00914/laws.FnExactNeighboursOf", spec := "fnExactNeighboursOf", apart := false }
def FnExactNeighboursOfSaid : Prop := fnExactNeighboursOfRow.holds Try.pinned (OpenSpec.ofChange fnExactNeighboursOfSpec)

/-- ITS FALSE NEIGHBOUR: 'it returns false'. Refute it at one input. -/
def fnExactNeighboursOfWrong : ChangeSpec := { name := "fnExactNeighboursOf", fn := fun _ => fun
  | [d1, d2] => { results := [.lit (.bool false)], args := [d1, d2] }
  | _ => none }
def FnExactNeighboursOfWrongFalsely : Prop := fnExactNeighboursOfRow.holds Try.pinned (OpenSpec.ofChange fnExactNeighboursOfWrong)

/-- 'laws.FnExactStepsBetween': WHATEVER THE INPUT: true; the input reads as it did. -/
def fnExactStepsBetweenSpec : ChangeSpec := { name := "fnExactStepsBetween", fn := fun _ => fun
  | [d1, d2, d3] => { results := [.lit (.bool true)], args := [d1, d2, d3] }
  | _ => none }
def fnExactStepsBetweenRow : OpenClaim := { program := "ytbblppmbpdocdaa", sum := "983cd83c540d9c2829e945a3f1b95a1eb42ae43d62a7809eb45ba395d26eb51b", func := "loop.example/g00914/laws.FnExactStepsBetween", spec := "fnExactStepsBetween", apart := false }
def FnExactStepsBetweenSaid : Prop := fnExactStepsBetweenRow.holds Try.pinned (OpenSpec.ofChange fnExactStepsBetweenSpec)

/-- ITS FALSE NEIGHBOUR: 'it returns false'. Refute it at one input. -/
def fnExactStepsBetweenWrong : ChangeSpec := { name := "fnExactStepsBetween", fn := fun _ => fun
  | [d1, d2, d3] => { results := [.lit (.bool false)], args := [d1, d2, d3] }
  | _ => none }
def FnExactStepsBetweenWrongFalsely : Prop := fnExactStepsBetweenRow.holds Try.pinned (OpenSpec.ofChange fnExactStepsBetweenWrong)

/-- 'laws.FnNear': WHATEVER THE INPUT: true; the input reads as it did. -/
def fnNearSpec : ChangeSpec := { name := "fnNear", fn := fun _ => fun
  | [d1, d2] => { results := [.lit (.bool true)], args := [d1, d2] }
  | _ => none }
def fnNearRow : OpenClaim := { program := "ytbblppmbpdocdaa", sum := "983cd83c540d9c2829e945a3f1b95a1eb42ae43d62a7809eb45ba395d26eb51b", func := "loop.example/g00914/laws.FnNear", spec := "fnNear", apart := false }
def FnNearSaid : Prop := fnNearRow.holds Try.pinned (OpenSpec.ofChange fnNearSpec)

/-- ITS FALSE NEIGHBOUR: 'it returns false'. Refute it at one input. -/
def fnNearWrong : ChangeSpec := { name := "fnNear", fn := fun _ => fun
  | [d1, d2] => { results := [.lit (.bool false)], args := [d1, d2] }
  | _ => none }
def FnNearWrongFalsely : Prop := fnNearRow.holds Try.pinned (OpenSpec.ofChange fnNearWrong)

/- THE SECOND FORM. 'bulk': how many values and letters a reading holds, each counted each time it is reached (what is shared counts as often as it is met; a slice's spare places count too). A statement '..UptoSaid' is the law's where the arguments, and the package variables that the reading takes, are together of bulk at most 1048576: NARROWER than '..Said'. Prove '..Said' where nothing that the law and all that it calls make is longer than what came in: it says more and counts as full. Else prove '..UptoSaid'. A law counts once. -/
mutual
def uptoBulk {H : Type} : DataW H → Nat
  | .lit (.string bytes) => bytes.length + 1
  | .lit _ => 1
  | .nil => 1
  | .ptr d => uptoBulk d + 1
  | .slice elems spare => uptoBulkAll elems + uptoBulkAll spare + 1
  | .agg parts => uptoBulkAll parts + 1
  | .iface _ d => uptoBulk d + 1
  | .map entries => uptoBulkEntries entries + 1
  | .held _ => 1
def uptoBulkAll {H : Type} : List (DataW H) → Nat
  | [] => 0
  | d :: r => uptoBulk d + uptoBulkAll r
def uptoBulkEntries {H : Type} : List (Lit × DataW H) → Nat
  | [] => 0
  | x :: r => uptoBulkEntry x + uptoBulkEntries r
def uptoBulkEntry {H : Type} : Lit × DataW H → Nat
  | (.string bytes, d) => bytes.length + uptoBulk d + 1
  | (_, d) => uptoBulk d + 1
 end
def uptoSmall : (H : Type) → List (DataW H) → Bool := fun _ ds => decide (uptoBulkAll ds ≤ 1048576)
def OpenSpec.upto (s : _root_.Go.ChangeSpec) : _root_.Go.OpenSpec := { _root_.Go.OpenSpec.ofChange s with cond := some uptoSmall }

/-- 'laws.FnExactLevelBlocks', WHERE WHAT IT READS IS OF BULK AT MOST 1048576: true; the input reads as it did. -/
def fnExactLevelBlocksUptoRow : OpenClaim := { program := "ytbblppmbpdocdaa", sum := "983cd83c540d9c2829e945a3f1b95a1eb42ae43d62a7809eb45ba395d26eb51b", func := "loop.example/g00914/laws.FnExactLevelBlocks", spec := "fnExactLevelBlocks", apart := false, narrowed := true }
def FnExactLevelBlocksUptoSaid : Prop := fnExactLevelBlocksUptoRow.holds Try.pinned (OpenSpec.upto fnExactLevelBlocksSpec)

/-- 'laws.FnExactColumnBlocks', WHERE WHAT IT READS IS OF BULK AT MOST 1048576: true; the input reads as it did. -/
def fnExactColumnBlocksUptoRow : OpenClaim := { program := "ytbblppmbpdocdaa", sum := "983cd83c540d9c2829e945a3f1b95a1eb42ae43d62a7809eb45ba395d26eb51b", func := "loop.example/g00914/laws.FnExactColumnBlocks", spec := "fnExactColumnBlocks", apart := false, narrowed := true }
def FnExactColumnBlocksUptoSaid : Prop := fnExactColumnBlocksUptoRow.holds Try.pinned (OpenSpec.upto fnExactColumnBlocksSpec)

/-- 'laws.FnExactBoxOf', WHERE WHAT IT READS IS OF BULK AT MOST 1048576: true; the input reads as it did. -/
def fnExactBoxOfUptoRow : OpenClaim := { program := "ytbblppmbpdocdaa", sum := "983cd83c540d9c2829e945a3f1b95a1eb42ae43d62a7809eb45ba395d26eb51b", func := "loop.example/g00914/laws.FnExactBoxOf", spec := "fnExactBoxOf", apart := false, narrowed := true }
def FnExactBoxOfUptoSaid : Prop := fnExactBoxOfUptoRow.holds Try.pinned (OpenSpec.upto fnExactBoxOfSpec)

/-- 'laws.FnExactNeighboursOf', WHERE WHAT IT READS IS OF BULK AT MOST 1048576: true; the input reads as it did. -/
def fnExactNeighboursOfUptoRow : OpenClaim := { program := "ytbblppmbpdocdaa", sum := "983cd83c540d9c2829e945a3f1b95a1eb42ae43d62a7809eb45ba395d26eb51b", func := "loop.example/g00914/laws.FnExactNeighboursOf", spec := "fnExactNeighboursOf", apart := false, narrowed := true }
def FnExactNeighboursOfUptoSaid : Prop := fnExactNeighboursOfUptoRow.holds Try.pinned (OpenSpec.upto fnExactNeighboursOfSpec)

/-- 'laws.FnExactStepsBetween', WHERE WHAT IT READS IS OF BULK AT MOST 1048576: true; the input reads as it did. -/
def fnExactStepsBetweenUptoRow : OpenClaim := { program := "ytbblppmbpdocdaa", sum := "983cd83c540d9c2829e945a3f1b95a1eb42ae43d62a7809eb45ba395d26eb51b", func := "loop.example/g00914/laws.FnExactStepsBetween", spec := "fnExactStepsBetween", apart := false, narrowed := true }
def FnExactStepsBetweenUptoSaid : Prop := fnExactStepsBetweenUptoRow.holds Try.pinned (OpenSpec.upto fnExactStepsBetweenSpec)

/-- 'laws.FnNear', WHERE WHAT IT READS IS OF BULK AT MOST 1048576: true; the input reads as it did. -/
def fnNearUptoRow : OpenClaim := { program := "ytbblppmbpdocdaa", sum := "983cd83c540d9c2829e945a3f1b95a1eb42ae43d62a7809eb45ba395d26eb51b", func := "loop.example/g00914/laws.FnNear", spec := "fnNear", apart := false, narrowed := true }
def FnNearUptoSaid : Prop := fnNearUptoRow.holds Try.pinned (OpenSpec.upto fnNearSpec)

end Rows
end Go.Proofs.Ytbblppmbpdocdaa
