/- FnExactCutOff returns true for every input, and each argument reads behind the call as it read before: the given statement, with no condition of our own. -/
import Derived.Test.YtfbgdfdeaffodaaRows
import Derived.Test.YtfbgdfdeaffodaaPFnExactCutOffx1
import Derived.Test.YtfbgdfdeaffodaaPureFnExactCutOff
import Derived.WalkKit
import Derived.ProofKit
import Derived.OpenShut
import Derived.ShutString
import Derived.ChangeOld
import Derived.Below
import Derived.SizedLaws
import Derived.Lib.SmallJoins
import Derived.Test.YtfbgdfdeaffodaaWSized
namespace Go.Proofs.Ytfbgdfdeaffodaa.fnExactCutOff
open Go.ChangeShapes Go.WideShapes Go.ChangeAt Go.RowKit
open Go.ChangeMaps (open_string shut_string)
set_option linter.unusedVariables false
theorem own : ownKnob Try.prog.godebug = none := by kernel_rfl
theorem laidOut : laidOutB Try.prog = true := by kernel_rfl
theorem cells36 : Try.prog.cellsOf 36 = 4 := by kernel_rfl
set_option maxRecDepth 100000 in
theorem lifted (os : Os) (started : os.Started) (H : Type) (enc : TypeId × Value → H) :
    ReturnsInHanded {} Try.checked os 14 .any (Rows.fnExactCutOffSpec.pre6 enc Try.prog Try.f14 Rows.fnExactCutOffRow.domain false) (Rows.fnExactCutOffSpec.post enc Try.prog Try.f14 false true false false) := by
  refine returnsInHanded_of_change_sized (C := Try.checked) own started (by kernel_rfl) Try.func14
    (ChangeSpec.witness6 (enc := enc) (C := Try.checked) false ⟨#[], #[.agg #[.int .i64 0, .int .i64 0, .int .i64 0, .int .i64 0]], []⟩ 8 (by kernel_rfl) (by kernel_rfl) (by kernel_rfl) (by kernel_rfl)) ?_
  intro W base args ds gs before hval0 hW hcnd hsz0 _
  have hval : ∀ (j : Nat) t v, Try.f14.params[j]? = some t → args[j]? = some v → Value.okWide Try.prog W .any base t v := hval0
  have hW' := hW
  obtain ⟨p, q, hA0, hV, rfl, hfz, hnd⟩ := hW
  have hA : DataW.TrodAll enc Try.prog W 0 (fun _ => true) true Try.f14.params.toList args.toList ds p := hA0
  rw [Try.params14] at hA hval
  obtain ⟨v0, vs0, d0, ds0, p0, q0, hargs, rfl, rfl, h0, r0⟩ := trodAll_cons hA
  obtain ⟨rfl, rfl, rfl⟩ := trodAll_nil r0
  obtain rfl : args = #[v0] := by cases args; simp_all
  obtain ⟨rfl, rfl⟩ := trodVars_none hV
  have k0 := h0
  have lt0 : ∀ x ∈ p0, x.block < W.heap.size := by obtain ⟨m, hm⟩ := k0; exact DataW.trod_lt m _ _ _ hm
  obtain ⟨a0_0, a0_1, a0_2, a0_3, rfl, w0_0, w0_1, w0_2, w0_3⟩ : ∃ a0_0 a0_1 a0_2 a0_3 : Int, v0 = (.agg #[.int .i64 a0_0, .int .i64 a0_1, .int .i64 a0_2, .int .i64 a0_3] : Value) ∧ (Lit.int .i64 a0_0).wf = true ∧ (Lit.int .i64 a0_1).wf = true ∧ (Lit.int .i64 a0_2).wf = true ∧ (Lit.int .i64 a0_3).wf = true := by
    obtain ⟨c0, c1, c2, c3, y0, y1, y2, y3, m, e, _, _, g0, g1, g2, g3⟩ := Go.Joins.open_agg4 Try.underlying36 (by kernel_rfl) cells36 (hval 0 36 v0 rfl rfl) h0
    obtain ⟨b0, e0, _, f0⟩ := DataW.trod_int Try.underlying3 g0
    simp only [List.cons.injEq, and_true] at e0
    subst e0
    obtain ⟨b1, e1, _, f1⟩ := DataW.trod_int Try.underlying3 g1
    simp only [List.cons.injEq, and_true] at e1
    subst e1
    obtain ⟨b2, e2, _, f2⟩ := DataW.trod_int Try.underlying3 g2
    simp only [List.cons.injEq, and_true] at e2
    subst e2
    obtain ⟨b3, e3, _, f3⟩ := DataW.trod_int Try.underlying3 g3
    simp only [List.cons.injEq, and_true] at e3
    subst e3
    exact ⟨b0, b1, b2, b3, e, f0, f1, f2, f3⟩
  clear hA0 hval0 hsz0
  obtain ⟨k, hk⟩ := Pure.pure_FnExactCutOff a0_0 a0_1 a0_2 a0_3
  refine (PFnExactCutOff.laws_FnExactCutOff.calls k a0_0 a0_1 a0_2 a0_3 true W hk).mono fun e W' ⟨he, bel⟩ => ?_
  subst he
  exact ⟨_, rfl, _, _, _, [], _, [], hW', trodAll_mk1 (shut_bool Try.underlying4 _), (trodAll_cons_mk (Below.trod laidOut (by kernel_rfl) (of_decide_eq_true (by kernel_rfl)) k0 bel lt0) trodAll_mk0), rfl, bel.frame _, fun h => by cases h⟩
theorem over : Rows.fnExactCutOffRow.holds Try.pinned (OpenSpec.ofChange Rows.fnExactCutOffSpec) :=
  OpenClaim.holds_of_wide 14 Try.f14 rfl rfl rfl rfl rfl rfl rfl ⟨rfl, rfl, rfl, rfl, rfl⟩ rfl rfl rfl rfl rfl (by kernel_rfl) Try.func14 (by kernel_rfl)
    (of_decide_eq_true (by kernel_rfl)) (by unfold Func.isWrapper; first | (rw [if_pos (by decide +kernel)]; kernel_rfl) | (rw [if_neg (by decide +kernel)]; exact ⟨rfl, rfl⟩))
    (fun os started H enc _ => lifted os started H enc)
theorem proved : Rows.FnExactCutOffSaid := over
#print axioms proved
end Go.Proofs.Ytfbgdfdeaffodaa.fnExactCutOff
namespace Go.Proofs.Ytfbgdfdeaffodaa
/-- The row, under a short name, for the claim. -/
theorem fnExactCutOff_holds : Rows.FnExactCutOffSaid := fnExactCutOff.proved
end Go.Proofs.Ytfbgdfdeaffodaa
