/- FnExactBestPieces returns true for every input, and each argument reads behind the call as it read before: the given statement, with no condition of our own. -/
import Derived.Test.YtceajigggcihnaaRows
import Derived.Test.YtceajigggcihnaaPFnExactBestPiecesx6
import Derived.Test.YtceajigggcihnaaPureFnExactBestPieces
import Derived.WalkKit
import Derived.ProofKit
import Derived.OpenShut
import Derived.ShutString
import Derived.ChangeOld
import Derived.Below
import Derived.SizedLaws
import Derived.Lib.SmallJoins
import Derived.Test.YtceajigggcihnaaWSized
namespace Go.Proofs.Ytceajigggcihnaa.fnExactBestPieces
open Go.ChangeShapes Go.WideShapes Go.ChangeAt Go.RowKit
open Go.ChangeMaps (open_string shut_string)
open Go.Proofs.YtceajigggcihnaaW.PrintWords
set_option linter.unusedVariables false
set_option linter.unusedSimpArgs false
theorem own : ownKnob Try.prog.godebug = none := by kernel_rfl
theorem laidOut : laidOutB Try.prog = true := by kernel_rfl
theorem cells3 : Try.prog.cellsOf 3 = 1 := by kernel_rfl
theorem cells46 : Try.prog.cellsOf 46 = 3 := by kernel_rfl
set_option maxRecDepth 100000 in
theorem rows_C39 {H : Type} {enc : TypeId × Value → H} {w : World} {fuel : Nat} {cs : List Value} {y : DataW H × List MemPlace} (hf : DataW.trod enc Try.prog w 0 (fun _ => true) true fuel 39 cs = some y) :
    ∃ (A : Option Addr) (l : List PFnExactBestPieces.S46) (cap : Nat), cs = [.slice A l.length cap] ∧ Kd.C PFnExactBestPieces.k46 w A l.length l ∧ l.length ≤ cap ∧ l.length ≤ maxLen ∧ ∀ x ∈ l, (Lit.int .i64 x.f0).wf = true ∧ (Lit.int .i64 x.f1).wf = true ∧ (Lit.int .i64 x.f2).wf = true := by
  rcases Go.Deep.open_slice Try.underlying39 hf with ⟨rfl, _⟩ | ⟨a, len, cap, m, n, D, Pl, rfl, _, hl, hm, hmm, _, hx⟩
  · exact ⟨none, [], 0, rfl, ⟨rfl, by decide, fun h => absurd h (by decide)⟩, by decide, by decide, fun x hx => by simp at hx⟩
  · have hlm : len ≤ m := by rw [hmm]; split <;> omega
    haveI : Inhabited PFnExactBestPieces.S46 := ⟨PFnExactBestPieces.z46⟩
    obtain ⟨F, hF⟩ := Go.Deep.choose_lt (α := PFnExactBestPieces.S46) (n := len) (p := fun i x => (∀ j u, ([.int .i64 x.f0, .int .i64 x.f1, .int .i64 x.f2] : List Value)[j]? = some u → w.cell? (a.add (i * 3 + j)) = some u) ∧ (Lit.int .i64 x.f0).wf = true ∧ (Lit.int .i64 x.f1).wf = true ∧ (Lit.int .i64 x.f2).wf = true) (fun i hi => by
      obtain ⟨cs', h1, h2⟩ := hx i (by omega)
      rw [cells46] at h1
      obtain ⟨_, hlen, hcell⟩ := World.cells?_some h1
      obtain ⟨y0, y1, y2, n', _, _, g0, g1, g2⟩ := Go.Deep.trod_struct3 Try.underlying46 h2
      match cs', hlen with
      | [v0, v1, v2], _ =>
        obtain ⟨b0, e0, _, f0⟩ := DataW.trod_int Try.underlying3 (show DataW.trod enc Try.prog w 0 (fun _ => true) true n' 3 [v0] = some y0 by simpa [cells3] using g0)
        simp only [List.cons.injEq, and_true] at e0
        subst e0
        obtain ⟨b1, e1, _, f1⟩ := DataW.trod_int Try.underlying3 (show DataW.trod enc Try.prog w 0 (fun _ => true) true n' 3 [v1] = some y1 by simpa [cells3] using g1)
        simp only [List.cons.injEq, and_true] at e1
        subst e1
        obtain ⟨b2, e2, _, f2⟩ := DataW.trod_int Try.underlying3 (show DataW.trod enc Try.prog w 0 (fun _ => true) true n' 3 [v2] = some y2 by simpa [cells3] using g2)
        simp only [List.cons.injEq, and_true] at e2
        subst e2
        refine ⟨⟨b0, b1, b2⟩, fun j u hj => ?_, f0, f1, f2⟩
        have hj' : j < 3 := by
          have := (List.getElem?_eq_some_iff.mp hj).1
          simpa using this
        have := hcell j hj'
        rw [Addr.add_add] at this
        exact this.trans hj)
    have hml : maxLen ≤ 9223372036854775807 := by decide
    refine ⟨some a, (List.range len).map F, cap, by simp, ⟨rfl, (by simp; omega), fun _ => ⟨a, rfl, fun j p hj => ?_⟩⟩, (by simpa using hl), (by simp; omega), fun x hx' => ?_⟩
    · rw [List.getElem?_map] at hj
      have hjl : j < len := by
        by_cases hh : j < len
        · exact hh
        · rw [List.getElem?_eq_none (by simp; omega)] at hj; simp at hj
      rw [List.getElem?_range hjl] at hj
      simp only [Option.map_some, Option.some.injEq] at hj
      subst hj
      exact ⟨_, rfl, PFnExactBestPieces.k46_mk w (F j), (hF j hjl).1⟩
    · obtain ⟨i, hi, rfl⟩ := List.mem_map.mp hx'
      exact (hF i (by simpa using hi)).2
set_option maxRecDepth 100000 in
theorem lifted (os : Os) (started : os.Started) (H : Type) (enc : TypeId × Value → H) :
    ReturnsInHanded {} Try.checked os 8 .any (Rows.fnExactBestPiecesSpec.pre6 enc Try.prog Try.f8 Rows.fnExactBestPiecesRow.domain false) (Rows.fnExactBestPiecesSpec.post enc Try.prog Try.f8 false true false false) := by
  refine returnsInHanded_of_change_sized (C := Try.checked) own started (by kernel_rfl) Try.func8
    (ChangeSpec.witness6 (enc := enc) (C := Try.checked) false ⟨#[], #[.slice none 0 0, .int .i64 0], []⟩ 8 (by kernel_rfl) (by kernel_rfl) (by kernel_rfl) (by kernel_rfl)) ?_
  intro W base args ds gs before hval0 hW hcnd hsz0 _
  have hval : ∀ (j : Nat) t v, Try.f8.params[j]? = some t → args[j]? = some v → Value.okWide Try.prog W .any base t v := hval0
  have hW' := hW
  obtain ⟨p, q, hA0, hV, rfl, hfz, hnd⟩ := hW
  have hA : DataW.TrodAll enc Try.prog W 0 (fun _ => true) true Try.f8.params.toList args.toList ds p := hA0
  rw [Try.params8] at hA hval
  obtain ⟨v0, vs0, d0, ds0, p0, q0, hargs, rfl, rfl, h0, r0⟩ := trodAll_cons hA
  obtain ⟨v1, vs1, d1, ds1, p1, q1, rfl, rfl, rfl, h1, r1⟩ := trodAll_cons r0
  obtain ⟨rfl, rfl, rfl⟩ := trodAll_nil r1
  obtain rfl : args = #[v0, v1] := by cases args; simp_all
  obtain ⟨rfl, rfl⟩ := trodVars_none hV
  have k0 := h0
  have lt0 : ∀ x ∈ p0, x.block < W.heap.size := by obtain ⟨m, hm⟩ := k0; exact DataW.trod_lt m _ _ _ hm
  obtain ⟨A0, l0, c0, rfl, hr0, hc0, hm0, hw0⟩ : ∃ (A : Option Addr) (l : List PFnExactBestPieces.S46) (c : Nat), v0 = (.slice A l.length c : Value) ∧ Kd.C PFnExactBestPieces.k46 W A l.length l ∧ l.length ≤ c ∧ l.length ≤ maxLen ∧ ∀ x ∈ l, (Lit.int .i64 x.f0).wf = true ∧ (Lit.int .i64 x.f1).wf = true ∧ (Lit.int .i64 x.f2).wf = true := by
    obtain ⟨a, len, cap, rfl⟩ := okWide_slice Try.underlying39 (hval 0 39 v0 rfl rfl)
    obtain ⟨fuel, hf⟩ := h0
    obtain ⟨A, l, c, e, r⟩ := rows_C39 (by simpa [Value.cells] using hf)
    exact ⟨A, l, c, by simpa using e, r⟩
  obtain ⟨a1, rfl, rfl, rfl, w1⟩ := open_int Try.underlying3 (hval 1 3 v1 rfl rfl) h1
  clear hA0 hval0 hsz0
  obtain ⟨k, hk⟩ := Pure.pure_FnExactBestPieces l0 a1 hm0 hw0 w1
  refine (PFnExactBestPieces.laws_FnExactBestPieces.calls k A0 c0 l0 a1 true W hr0 hc0 hk).mono fun e W' ⟨he, bel⟩ => ?_
  subst he
  exact ⟨_, rfl, _, _, _, [], _, [], hW', trodAll_mk1 (shut_bool Try.underlying4 _), (trodAll_cons_mk (Below.trod laidOut (by kernel_rfl) (of_decide_eq_true (by kernel_rfl)) k0 bel lt0) (trodAll_cons_mk (shut_int Try.underlying3 w1) trodAll_mk0)), rfl, bel.frame _, fun h => by cases h⟩
theorem over : Rows.fnExactBestPiecesRow.holds Try.pinned (OpenSpec.ofChange Rows.fnExactBestPiecesSpec) :=
  OpenClaim.holds_of_wide 8 Try.f8 rfl rfl rfl rfl rfl rfl rfl ⟨rfl, rfl, rfl, rfl, rfl⟩ rfl rfl rfl rfl rfl (by kernel_rfl) Try.func8 (by kernel_rfl)
    (of_decide_eq_true (by kernel_rfl)) (by unfold Func.isWrapper; first | (rw [if_pos (by decide +kernel)]; kernel_rfl) | (rw [if_neg (by decide +kernel)]; exact ⟨rfl, rfl⟩))
    (fun os started H enc _ => lifted os started H enc)
theorem proved : Rows.FnExactBestPiecesSaid := over
#print axioms proved
end Go.Proofs.Ytceajigggcihnaa.fnExactBestPieces
namespace Go.Proofs.Ytceajigggcihnaa
/-- The row, under a short name, for the claim. -/
theorem fnExactBestPieces_holds : Rows.FnExactBestPiecesSaid := fnExactBestPieces.proved
end Go.Proofs.Ytceajigggcihnaa
