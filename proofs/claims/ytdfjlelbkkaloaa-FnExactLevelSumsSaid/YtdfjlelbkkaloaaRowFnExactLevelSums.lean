/- FnExactLevelSums returns true for every input, and each argument reads behind the call as it read before: the given statement, with no condition of our own. -/
import Derived.Test.YtdfjlelbkkaloaaRows
import Derived.Test.YtdfjlelbkkaloaaPFnExactLevelSumsx6
import Derived.Test.YtdfjlelbkkaloaaPureFnExactLevelSums
import Derived.WalkKit
import Derived.ProofKit
import Derived.OpenShut
import Derived.ShutString
import Derived.ChangeOld
import Derived.Below
import Derived.SizedLaws
import Derived.Lib.SmallJoins
import Derived.Test.YtdfjlelbkkaloaaWSized
namespace Go.Proofs.Ytdfjlelbkkaloaa.fnExactLevelSums
open Go.ChangeShapes Go.WideShapes Go.ChangeAt Go.RowKit
open Go.ChangeMaps (open_string shut_string)
open Go.Proofs.YtdfjlelbkkaloaaW.PrintWords
set_option linter.unusedVariables false
set_option linter.unusedSimpArgs false
theorem own : ownKnob Try.prog.godebug = none := by kernel_rfl
theorem laidOut : laidOutB Try.prog = true := by kernel_rfl
theorem cells3 : Try.prog.cellsOf 3 = 1 := by kernel_rfl
theorem cells23 : Try.prog.cellsOf 23 = 3 := by kernel_rfl
theorem cells24 : Try.prog.cellsOf 24 = 1 := by kernel_rfl
theorem cells26 : Try.prog.cellsOf 26 = 6 := by kernel_rfl
theorem ints_C {H : Type} {ki : IntKind} {enc : TypeId × Value → H} {P : Program} {w : World} {t e : TypeId} {fuel : Nat} {cs : List Value} {y : DataW H × List MemPlace} (ht : P.underlying t = some (.slice e)) (he : P.underlying e = some (.int ki)) (hc : P.cellsOf e = 1)
    (hf : DataW.trod enc P w 0 (fun _ => true) true fuel t cs = some y) :
    ∃ (A : Option Addr) (l : List Int) (cap : Nat), cs = [.slice A l.length cap] ∧ Kd.C (Kd.int ki) w A l.length l ∧ l.length ≤ cap ∧ l.length ≤ maxLen ∧ ∀ x ∈ l, (Lit.int ki x).wf = true := by
  obtain ⟨a, len, cap, zs, hcs, hw⟩ : ∃ (a : Option Addr) (len cap : Nat) (zs : List Int), cs = [.slice a len cap] ∧ ((a = none ∧ len = 0 ∧ cap = 0 ∧ zs = []) ∨ ∃ x, a = some x ∧ len ≤ cap ∧ cap ≤ maxLen ∧ zs.length = cap ∧ (∀ i, i < zs.length → w.cell? (x.add i) = some (.int ki (zs.getD i 0))) ∧ ∀ n ∈ zs, (Lit.int ki n).wf = true) := by
    rcases open_ints ht he hc hf with ⟨hcs, _⟩ | ⟨x, l, c, zs, hcs, _, hl, hm, hz, _, hcell, hwz⟩
    · exact ⟨none, 0, 0, [], hcs, .inl ⟨rfl, rfl, rfl, rfl⟩⟩
    · exact ⟨some x, l, c, zs, hcs, .inr ⟨x, rfl, hl, hm, by simpa using hz, hcell, hwz⟩⟩
  obtain ⟨l, rfl, hr, hm, hwf, hcap⟩ := ReadsInt.ofRowC hw
  exact ⟨a, l, cap, hcs, Kd.C_of_reads (d := (0 : Int)) (h1 := fun _ => rfl) hr, hcap, hm, hwf⟩
theorem array6 {α : Type} {cs : Array α} (h : cs.size = 6) : ∃ c0 c1 c2 c3 c4 c5, cs = #[c0, c1, c2, c3, c4, c5] := by
  obtain ⟨l⟩ := cs
  match l, h with
  | [c0, c1, c2, c3, c4, c5], _ => exact ⟨c0, c1, c2, c3, c4, c5, rfl⟩
set_option maxRecDepth 100000 in
theorem lifted (os : Os) (started : os.Started) (H : Type) (enc : TypeId × Value → H) :
    ReturnsInHanded {} Try.checked os 5 .any (Rows.fnExactLevelSumsSpec.pre6 enc Try.prog Try.f5 Rows.fnExactLevelSumsRow.domain false) (Rows.fnExactLevelSumsSpec.post enc Try.prog Try.f5 false true false false) := by
  refine returnsInHanded_of_change_sized (C := Try.checked) own started (by kernel_rfl) Try.func5
    (ChangeSpec.witness6 (enc := enc) (C := Try.checked) false ⟨#[], #[.agg #[.int .i64 0, .int .i64 0, .int .i64 0, .slice none 0 0, .slice none 0 0, .slice none 0 0]], []⟩ 8 (by kernel_rfl) (by kernel_rfl) (by kernel_rfl) (by kernel_rfl)) ?_
  intro W base args ds gs before hval0 hW hcnd hsz0 _
  have hval : ∀ (j : Nat) t v, Try.f5.params[j]? = some t → args[j]? = some v → Value.okWide Try.prog W .any base t v := hval0
  have hW' := hW
  obtain ⟨p, q, hA0, hV, rfl, hfz, hnd⟩ := hW
  have hA : DataW.TrodAll enc Try.prog W 0 (fun _ => true) true Try.f5.params.toList args.toList ds p := hA0
  rw [Try.params5] at hA hval
  obtain ⟨v0, vs0, d0, ds0, p0, q0, hargs, rfl, rfl, h0, r0⟩ := trodAll_cons hA
  obtain ⟨rfl, rfl, rfl⟩ := trodAll_nil r0
  obtain rfl : args = #[v0] := by cases args; simp_all
  obtain ⟨rfl, rfl⟩ := trodVars_none hV
  have k0 := h0
  have lt0 : ∀ x ∈ p0, x.block < W.heap.size := by obtain ⟨m, hm⟩ := k0; exact DataW.trod_lt m _ _ _ hm
  obtain ⟨a0_0, a0_1, a0_2, A0_3, A0_4, A0_5, l0_3, l0_4, l0_5, c0_3, c0_4, c0_5, rfl, w0_0, w0_1, w0_2, ⟨hr0_3, hc0_3, hm0_3, hw0_3⟩, ⟨hr0_4, hc0_4, hm0_4, hw0_4⟩, ⟨hr0_5, hc0_5, hm0_5, hw0_5⟩⟩ : ∃ (a0_0 a0_1 a0_2 : Int) (A0_3 A0_4 A0_5 : Option Addr) (l0_3 l0_4 l0_5 : List Int) (c0_3 c0_4 c0_5 : Nat), v0 = (.agg #[.int .i64 a0_0, .int .i64 a0_1, .int .i64 a0_2, .slice A0_3 l0_3.length c0_3, .slice A0_4 l0_4.length c0_4, .slice A0_5 l0_5.length c0_5] : Value) ∧ (Lit.int .i64 a0_0).wf = true ∧ (Lit.int .i64 a0_1).wf = true ∧ (Lit.int .i64 a0_2).wf = true ∧ (Kd.C (Kd.int .i64) W A0_3 l0_3.length l0_3 ∧ l0_3.length ≤ c0_3 ∧ l0_3.length ≤ maxLen ∧ ∀ x ∈ l0_3, (Lit.int .i64 x).wf = true) ∧ (Kd.C (Kd.int .i64) W A0_4 l0_4.length l0_4 ∧ l0_4.length ≤ c0_4 ∧ l0_4.length ≤ maxLen ∧ ∀ x ∈ l0_4, (Lit.int .i64 x).wf = true) ∧ (Kd.C (Kd.int .i64) W A0_5 l0_5.length l0_5 ∧ l0_5.length ≤ c0_5 ∧ l0_5.length ≤ maxLen ∧ ∀ x ∈ l0_5, (Lit.int .i64 x).wf = true) := by
    obtain ⟨cs, rfl, hsz⟩ := okWide_struct Try.underlying26 (hval 0 26 v0 rfl rfl)
    obtain ⟨c0, c1, c2, c3, c4, c5, rfl⟩ := array6 (hsz.trans cells26)
    obtain ⟨fuel, hf⟩ := h0
    obtain ⟨y0, y1, y2, y3, n, _, _, g0, g1, g2, g3⟩ := Go.Joins.trod_struct4 Try.underlying26 hf
    have u0 : DataW.trod enc Try.prog W 0 (fun _ => true) true n 23 [c0, c1, c2] = some y0 := by simpa [Value.cells, cells23] using g0
    have u1 : DataW.trod enc Try.prog W 0 (fun _ => true) true n 24 [c3] = some y1 := by simpa [Value.cells, cells24] using g1
    have u2 : DataW.trod enc Try.prog W 0 (fun _ => true) true n 24 [c4] = some y2 := by simpa [Value.cells, cells24] using g2
    have u3 : DataW.trod enc Try.prog W 0 (fun _ => true) true n 24 [c5] = some y3 := by simpa [Value.cells, cells24] using g3
    clear g0 g1 g2 g3 hf
    obtain ⟨z0, z1, z2, m, _, _, q0, q1, q2⟩ := Go.Deep.trod_struct3 Try.underlying23 u0
    obtain ⟨b0, e0, _, f0⟩ := DataW.trod_int Try.underlying3 (show DataW.trod enc Try.prog W 0 (fun _ => true) true m 3 [c0] = some z0 by simpa [cells3] using q0)
    simp only [List.cons.injEq, and_true] at e0
    subst e0
    obtain ⟨b1, e1, _, f1⟩ := DataW.trod_int Try.underlying3 (show DataW.trod enc Try.prog W 0 (fun _ => true) true m 3 [c1] = some z1 by simpa [cells3] using q1)
    simp only [List.cons.injEq, and_true] at e1
    subst e1
    obtain ⟨b2, e2, _, f2⟩ := DataW.trod_int Try.underlying3 (show DataW.trod enc Try.prog W 0 (fun _ => true) true m 3 [c2] = some z2 by simpa [cells3] using q2)
    simp only [List.cons.injEq, and_true] at e2
    subst e2
    obtain ⟨A1, l1, k1, e1, r1⟩ := ints_C Try.underlying24 Try.underlying3 cells3 u1
    simp only [List.cons.injEq, and_true] at e1
    subst e1
    obtain ⟨A2, l2, k2, e2, r2⟩ := ints_C Try.underlying24 Try.underlying3 cells3 u2
    simp only [List.cons.injEq, and_true] at e2
    subst e2
    obtain ⟨A3, l3, k3, e3, r3⟩ := ints_C Try.underlying24 Try.underlying3 cells3 u3
    simp only [List.cons.injEq, and_true] at e3
    subst e3
    exact ⟨b0, b1, b2, A1, A2, A3, l1, l2, l3, k1, k2, k3, rfl, f0, f1, f2, r1, r2, r3⟩
  clear hA0 hval0 hsz0
  obtain ⟨k, hk⟩ := Pure.pure_FnExactLevelSums a0_0 a0_1 a0_2 l0_3 l0_4 l0_5 w0_0 w0_1 w0_2 hm0_3 hw0_3 hm0_4 hw0_4 hm0_5 hw0_5
  refine (PFnExactLevelSums.laws_FnExactLevelSums.calls k a0_0 a0_1 a0_2 A0_3 c0_3 l0_3 A0_4 c0_4 l0_4 A0_5 c0_5 l0_5 true W hr0_3 hc0_3 hr0_4 hc0_4 hr0_5 hc0_5 hk).mono fun e W' ⟨he, bel⟩ => ?_
  subst he
  exact ⟨_, rfl, _, _, _, [], _, [], hW', trodAll_mk1 (shut_bool Try.underlying4 _), (trodAll_cons_mk (Below.trod laidOut (by kernel_rfl) (of_decide_eq_true (by kernel_rfl)) k0 bel lt0) trodAll_mk0), rfl, bel.frame _, fun h => by cases h⟩
theorem over : Rows.fnExactLevelSumsRow.holds Try.pinned (OpenSpec.ofChange Rows.fnExactLevelSumsSpec) :=
  OpenClaim.holds_of_wide 5 Try.f5 rfl rfl rfl rfl rfl rfl rfl ⟨rfl, rfl, rfl, rfl, rfl⟩ rfl rfl rfl rfl rfl (by kernel_rfl) Try.func5 (by kernel_rfl)
    (of_decide_eq_true (by kernel_rfl)) (by unfold Func.isWrapper; first | (rw [if_pos (by decide +kernel)]; kernel_rfl) | (rw [if_neg (by decide +kernel)]; exact ⟨rfl, rfl⟩))
    (fun os started H enc _ => lifted os started H enc)
theorem proved : Rows.FnExactLevelSumsSaid := over
#print axioms proved
end Go.Proofs.Ytdfjlelbkkaloaa.fnExactLevelSums
namespace Go.Proofs.Ytdfjlelbkkaloaa
/-- The row, under a short name, for the claim. -/
theorem fnExactLevelSums_holds : Rows.FnExactLevelSumsSaid := fnExactLevelSums.proved
end Go.Proofs.Ytdfjlelbkkaloaa
