/- FnExactModelText returns true for every input, and each argument reads behind the call as it read before: the given statement, with no condition of our own. -/
import Derived.Test.YtckhegdfabcehaaDoorRows
import Derived.Test.YtckhegdfabcehaaDoorCards
import Derived.Test.YtckhegdfabcehaaDoorTie
import Derived.LaidMore
import Derived.LaidSub
import Derived.Lib.LaidTab
import Derived.MakeChecks
import Derived.Lay
import Derived.SevenTiedAt
import Derived.Stop.Joined
import Derived.Test.YtckhegdfabcehaaDoorPFnExactModelTextx7
import Derived.Test.YtckhegdfabcehaaDoorPureFnExactModelText
import Derived.WalkKit
import Derived.ProofKit
import Derived.OpenShut
import Derived.ShutString
import Derived.ChangeOld
import Derived.Below
import Derived.SizedLaws
import Derived.Lib.SmallJoins
import Derived.Test.YtckhegdfabcehaaDoorWSized
namespace Go.Proofs.YtckhegdfabcehaaDoor.fnExactModelText
open Go.ChangeShapes Go.WideShapes Go.ChangeAt Go.RowKit
open Go.ChangeMaps (open_string shut_string)
open Go.Proofs.YtckhegdfabcehaaDoorW.PrintWords
set_option linter.unusedVariables false
set_option linter.unusedSimpArgs false
theorem laidW {W : World} (hL : laidMetH Tryd.prog Rows.fnExactModelTextRow.laid W) : PFnExactModelText.LaidW W := by
  rw [MakeChecks.laidMetH_plain _ _ _ (by kernel_rfl)] at hL
  have hF := laidMet.filter (fun x => x.1 == "internal/strconv.uint64pow10") hL
  have e : (Rows.fnExactModelTextRow.laid.filter fun x => x.1 == "internal/strconv.uint64pow10") = [("internal/strconv.uint64pow10", Lib.tabData .u64 Lib.pow10Tab)] := by kernel_rfl
  rw [e] at hF
  exact Lib.tabIs_of_head (g := 0) (t := 76) (e := 66) (n := 20) (by kernel_rfl) (by kernel_rfl) (by kernel_rfl) (by kernel_rfl) (by kernel_rfl) (by kernel_rfl) hF
theorem own : ownKnob Tryd.prog.godebug = none := by kernel_rfl
theorem laidOut : laidOutB Tryd.prog = true := by kernel_rfl
theorem cells3 : Tryd.prog.cellsOf 3 = 1 := by kernel_rfl
theorem cells23 : Tryd.prog.cellsOf 23 = 3 := by kernel_rfl
theorem cells24 : Tryd.prog.cellsOf 24 = 1 := by kernel_rfl
theorem cells26 : Tryd.prog.cellsOf 26 = 6 := by kernel_rfl
theorem ints_C {H : Type} {ki : IntKind} {enc : TypeId × Value → H} {P : Program} {w : World} {t e : TypeId} {fuel : Nat} {cs : List Value} {y : DataW H × List MemPlace} (ht : P.underlying t = some (.slice e)) (he : P.underlying e = some (.int ki)) (hc : P.cellsOf e = 1)
    (hf : DataW.trod enc P w 0 (fun _ => true) true fuel t cs = some y) :
    ∃ (A : Option Addr) (l : List Int) (cap : Nat), cs = [.slice A l.length cap] ∧ Kd.C (Kd.int ki) w A l.length l ∧ l.length ≤ cap ∧ l.length ≤ maxLen ∧ ∀ x ∈ l, (Lit.int ki x).wf = true := by
  obtain ⟨a, len, cap, zs, hcs, hw⟩ : ∃ (a : Option Addr) (len cap : Nat) (zs : List Int), cs = [.slice a len cap] ∧ ((a = none ∧ len = 0 ∧ cap = 0 ∧ zs = []) ∨ ∃ x, a = some x ∧ len ≤ cap ∧ cap ≤ maxLen ∧ zs.length = cap ∧ (∀ i, i < zs.length → w.cell? (x.add i) = some (.int ki (zs.getD i 0))) ∧ ∀ n ∈ zs, (Lit.int ki n).wf = true) := by
    rcases open_ints ht he hc hf with ⟨hcs, _⟩ | ⟨x, l, c, zs, hcs, _, hl, hm, hz, _, hcell, hwz⟩
    · exact ⟨none, 0, 0, [], hcs, .inl ⟨rfl, rfl, rfl, rfl⟩⟩
    · exact ⟨some x, l, c, zs, hcs, .inr ⟨x, rfl, hl, hm, by simpa using hz, hcell, hwz⟩⟩
  obtain ⟨l, rfl, hr, hm, hwf, hcap⟩ := ReadsInt.ofRowC hw
  exact ⟨a, l, cap, hcs, Kd.C_of_reads (d := (0 : Int)) (h1 := fun _ => rfl) hr, hcap, hm, hwf⟩
theorem array6 {α : Type} {cs : Array α} (h : cs.size = 6) : ∃ c0 c1 c2 c3 c4 c5, cs = #[c0, c1, c2, c3, c4, c5] := by
  obtain ⟨l⟩ := cs
  match l, h with
  | [c0, c1, c2, c3, c4, c5], _ => exact ⟨c0, c1, c2, c3, c4, c5, rfl⟩
set_option maxRecDepth 100000 in
theorem lifted (os : Os) (started : os.Started) (H : Type) (enc : TypeId × Value → H) :
    ReturnsInHanded {} Tryd.checked os 3 .any (fun w args => (Rows.fnExactModelTextSpec.pre enc Tryd.prog Tryd.f3 Rows.fnExactModelTextRow.domain false w args ∧ laidMetH Tryd.prog Rows.fnExactModelTextRow.laid w) ∧ sizedMet enc Tryd.prog Tryd.f3 (OpenSpec.ofChange Rows.fnExactModelTextSpec) false w args) (Rows.fnExactModelTextSpec.post enc Tryd.prog Tryd.f3 false true false false) := by
  refine returnsInHanded_of_change_and (C := Tryd.checked) (X := fun w _ => laidMetH Tryd.prog Rows.fnExactModelTextRow.laid w) (fun _ _ _ hh h => h.of_heap hh) own started (by kernel_rfl) Tryd.func3
    (ChangeSpec.witness_shaped (enc := enc) (C := Tryd.checked) (os := os) (X := fun w _ => laidMetH Tryd.prog Rows.fnExactModelTextRow.laid w) false (World.laidAll Tryd.prog os Rows.fnExactModelTextRow.laid) #[.agg #[.int .i64 0, .int .i64 0, .int .i64 0, .slice none 0 0, .slice none 0 0, .slice none 0 0]] 8 (World.laidAll_os _ _ _)
      (World.shaped_of_ZipB (by kernel_rfl) (by kernel_rfl)) (by kernel_rfl) (by kernel_rfl) (by kernel_rfl)
      (by rw [MakeChecks.laidMetH_plain _ _ _ (by kernel_rfl)]; exact laidMet_laidAll _ (by kernel_rfl) (by kernel_rfl))) ?_
  intro W base args ds gs before hval0 hW hcnd hsz0 hL _
  have hval : ∀ (j : Nat) t v, Tryd.f3.params[j]? = some t → args[j]? = some v → Value.okWide Tryd.prog W .any base t v := hval0
  have hW' := hW
  obtain ⟨p, q, hA0, hV, rfl, hfz, hnd⟩ := hW
  have hA : DataW.TrodAll enc Tryd.prog W 0 (fun _ => true) true Tryd.f3.params.toList args.toList ds p := hA0
  rw [Tryd.params3] at hA hval
  obtain ⟨v0, vs0, d0, ds0, p0, q0, hargs, rfl, rfl, h0, r0⟩ := trodAll_cons hA
  obtain ⟨rfl, rfl, rfl⟩ := trodAll_nil r0
  obtain rfl : args = #[v0] := by cases args; simp_all
  obtain ⟨rfl, rfl⟩ := trodVars_none hV
  have k0 := h0
  have lt0 : ∀ x ∈ p0, x.block < W.heap.size := by obtain ⟨m, hm⟩ := k0; exact DataW.trod_lt m _ _ _ hm
  obtain ⟨a0_0, a0_1, a0_2, A0_3, A0_4, A0_5, l0_3, l0_4, l0_5, c0_3, c0_4, c0_5, rfl, w0_0, w0_1, w0_2, ⟨hr0_3, hc0_3, hm0_3, hw0_3⟩, ⟨hr0_4, hc0_4, hm0_4, hw0_4⟩, ⟨hr0_5, hc0_5, hm0_5, hw0_5⟩⟩ : ∃ (a0_0 a0_1 a0_2 : Int) (A0_3 A0_4 A0_5 : Option Addr) (l0_3 l0_4 l0_5 : List Int) (c0_3 c0_4 c0_5 : Nat), v0 = (.agg #[.int .i64 a0_0, .int .i64 a0_1, .int .i64 a0_2, .slice A0_3 l0_3.length c0_3, .slice A0_4 l0_4.length c0_4, .slice A0_5 l0_5.length c0_5] : Value) ∧ (Lit.int .i64 a0_0).wf = true ∧ (Lit.int .i64 a0_1).wf = true ∧ (Lit.int .i64 a0_2).wf = true ∧ (Kd.C (Kd.int .i64) W A0_3 l0_3.length l0_3 ∧ l0_3.length ≤ c0_3 ∧ l0_3.length ≤ maxLen ∧ ∀ x ∈ l0_3, (Lit.int .i64 x).wf = true) ∧ (Kd.C (Kd.int .i64) W A0_4 l0_4.length l0_4 ∧ l0_4.length ≤ c0_4 ∧ l0_4.length ≤ maxLen ∧ ∀ x ∈ l0_4, (Lit.int .i64 x).wf = true) ∧ (Kd.C (Kd.int .i64) W A0_5 l0_5.length l0_5 ∧ l0_5.length ≤ c0_5 ∧ l0_5.length ≤ maxLen ∧ ∀ x ∈ l0_5, (Lit.int .i64 x).wf = true) := by
    obtain ⟨cs, rfl, hsz⟩ := okWide_struct Tryd.underlying26 (hval 0 26 v0 rfl rfl)
    obtain ⟨c0, c1, c2, c3, c4, c5, rfl⟩ := array6 (hsz.trans cells26)
    obtain ⟨fuel, hf⟩ := h0
    obtain ⟨y0, y1, y2, y3, n, _, _, g0, g1, g2, g3⟩ := Go.Joins.trod_struct4 Tryd.underlying26 hf
    have u0 : DataW.trod enc Tryd.prog W 0 (fun _ => true) true n 23 [c0, c1, c2] = some y0 := by simpa [Value.cells, cells23] using g0
    have u1 : DataW.trod enc Tryd.prog W 0 (fun _ => true) true n 24 [c3] = some y1 := by simpa [Value.cells, cells24] using g1
    have u2 : DataW.trod enc Tryd.prog W 0 (fun _ => true) true n 24 [c4] = some y2 := by simpa [Value.cells, cells24] using g2
    have u3 : DataW.trod enc Tryd.prog W 0 (fun _ => true) true n 24 [c5] = some y3 := by simpa [Value.cells, cells24] using g3
    clear g0 g1 g2 g3 hf
    obtain ⟨z0, z1, z2, m, _, _, q0, q1, q2⟩ := Go.Deep.trod_struct3 Tryd.underlying23 u0
    obtain ⟨b0, e0, _, f0⟩ := DataW.trod_int Tryd.underlying3 (show DataW.trod enc Tryd.prog W 0 (fun _ => true) true m 3 [c0] = some z0 by simpa [cells3] using q0)
    simp only [List.cons.injEq, and_true] at e0
    subst e0
    obtain ⟨b1, e1, _, f1⟩ := DataW.trod_int Tryd.underlying3 (show DataW.trod enc Tryd.prog W 0 (fun _ => true) true m 3 [c1] = some z1 by simpa [cells3] using q1)
    simp only [List.cons.injEq, and_true] at e1
    subst e1
    obtain ⟨b2, e2, _, f2⟩ := DataW.trod_int Tryd.underlying3 (show DataW.trod enc Tryd.prog W 0 (fun _ => true) true m 3 [c2] = some z2 by simpa [cells3] using q2)
    simp only [List.cons.injEq, and_true] at e2
    subst e2
    obtain ⟨A1, l1, k1, e1, r1⟩ := ints_C Tryd.underlying24 Tryd.underlying3 cells3 u1
    simp only [List.cons.injEq, and_true] at e1
    subst e1
    obtain ⟨A2, l2, k2, e2, r2⟩ := ints_C Tryd.underlying24 Tryd.underlying3 cells3 u2
    simp only [List.cons.injEq, and_true] at e2
    subst e2
    obtain ⟨A3, l3, k3, e3, r3⟩ := ints_C Tryd.underlying24 Tryd.underlying3 cells3 u3
    simp only [List.cons.injEq, and_true] at e3
    subst e3
    exact ⟨b0, b1, b2, A1, A2, A3, l1, l2, l3, k1, k2, k3, rfl, f0, f1, f2, r1, r2, r3⟩
  clear hA0 hval0 hsz0
  obtain ⟨k, hk⟩ := Pure.pure_FnExactModelText a0_0 a0_1 a0_2 l0_3 l0_4 l0_5 w0_0 w0_1 w0_2 hm0_3 hw0_3 hm0_4 hw0_4 hm0_5 hw0_5
  refine (PFnExactModelText.laws_FnExactModelText.calls k a0_0 a0_1 a0_2 A0_3 c0_3 l0_3 A0_4 c0_4 l0_4 A0_5 c0_5 l0_5 true W hr0_3 hc0_3 hr0_4 hc0_4 hr0_5 hc0_5 hk (laidW hL)).mono fun e W' ⟨he, bel⟩ => ?_
  subst he
  exact ⟨_, rfl, _, _, _, [], _, [], hW', trodAll_mk1 (shut_bool Tryd.underlying4 _), (trodAll_cons_mk (Below.trod laidOut (by kernel_rfl) (of_decide_eq_true (by kernel_rfl)) k0 bel lt0) trodAll_mk0), rfl, bel.frame _, fun h => by cases h⟩
theorem over : Rows.fnExactModelTextRow.holds Tryd.pinned (OpenSpec.ofChange Rows.fnExactModelTextSpec) :=
  OpenClaim.holds_of_wide 3 Tryd.f3 rfl rfl rfl rfl rfl rfl rfl ⟨rfl, rfl, rfl, rfl, rfl⟩ rfl rfl rfl rfl rfl (by kernel_rfl) Tryd.func3 (by kernel_rfl)
    (of_decide_eq_true (by kernel_rfl)) (by unfold Func.isWrapper; first | (rw [if_pos (by decide +kernel)]; kernel_rfl) | (rw [if_neg (by decide +kernel)]; exact ⟨rfl, rfl⟩))
    (fun os started H enc _ => lifted os started H enc)
theorem proved : Rows.FnExactModelTextSaid := over
#print axioms proved
theorem cardProved : Rows.FnExactModelTextCardSaid :=
  Claim7.holds_tied_plain_at .later [] [.data, .data, .data] true (true, "bb9548c0d51590c55145250ca2aaaf09055b561c8d4faa1ebb9c3595964e7452") false proved (fun _ h => by cases h) (by kernel_rfl) (fun _ h => by cases h) fnExactModelText_row_tie rfl ⟨rfl, rfl⟩ (by kernel_rfl) rfl
    (fun f fn hf hfn => by
      obtain rfl : f = 3 := Option.some.inj ((show Tryd.prog.funcNamed "loop.example/g00914/laws.FnExactModelText" = some 3 by kernel_rfl).symm.trans hf) |>.symm
      obtain rfl : fn = Tryd.f3 := (Option.some.inj (Tryd.func3.symm.trans hfn)).symm
      exact ⟨by kernel_rfl, fun j t ht => by
        rw [Tryd.params3] at ht
        have hm : t ∈ [26] := by simpa using Array.mem_of_getElem? ht
        have hall : ([26].all fun u => !Tryd.prog.wantsStandIn u) = true := by kernel_rfl
        exact (show Tryd.prog.wantsStandIn t = false by simpa using List.all_eq_true.1 hall t hm)⟩)
    (by kernel_rfl)
#print axioms cardProved
end Go.Proofs.YtckhegdfabcehaaDoor.fnExactModelText
namespace Go.Proofs.YtckhegdfabcehaaDoor
/-- The row, under a short name, for the claim. -/
theorem fnExactModelText_holds : Rows.FnExactModelTextCardSaid := fnExactModelText.cardProved
end Go.Proofs.YtckhegdfabcehaaDoor
