/- FnExactRuleText returns true for every input, and each argument reads behind the call as it read before: the given statement, with no condition of our own. -/
import Derived.Test.YtikdododhkljeaaDoorRows
import Derived.Test.YtikdododhkljeaaDoorCards
import Derived.Test.YtikdododhkljeaaDoorTie
import Derived.LaidMore
import Derived.LaidSub
import Derived.Lib.LaidTab
import Derived.MakeChecks
import Derived.Lay
import Derived.SevenTiedAt
import Derived.Stop.Joined
import Derived.Test.YtikdododhkljeaaDoorPFnExactRuleTextx8
import Derived.Test.YtikdododhkljeaaDoorPureFnExactRuleText
import Derived.WalkKit
import Derived.ProofKit
import Derived.OpenShut
import Derived.ShutString
import Derived.ChangeOld
import Derived.Below
import Derived.OpenVars
import Derived.ChangeVars
import Derived.SizedLaws
import Derived.Lib.SmallJoins
import Derived.Test.YtikdododhkljeaaDoorWSized
namespace Go.Proofs.YtikdododhkljeaaDoor.fnExactRuleText
open Go.ChangeShapes Go.WideShapes Go.ChangeAt Go.RowKit
open Go.ChangeMaps (open_string shut_string)
open Go.Proofs.YtikdododhkljeaaDoorW.PrintWords
set_option linter.unusedVariables false
set_option linter.unusedSimpArgs false
theorem strs_of {H : Type} {enc : TypeId × Value → H} {P : Program} {w : World} {base : Nat} {sp : Nat → Bool} {held : Bool} {fuel n : Nat} {t e : TypeId} {cs : List Value} {zs : List ByteArray} {p : List MemPlace}
    (ht : P.underlying t = some (.array n e)) (he : P.underlying e = some .string) (hce : P.cellsOf e = 1) (hct : P.cellsOf t = n)
    (h : DataW.trod enc P w base sp held fuel t cs = some (.agg (zs.map fun s => .lit (.string s.data.toList)), p)) : cs = zs.map Value.string := by
  cases fuel with
  | zero => simp [DataW.trod] at h
  | succ fuel =>
    simp only [DataW.trod, ht, hce, hct, Nat.mul_one] at h
    by_cases hl : cs.length = n
    case neg => simp [hl] at h
    simp only [hl, if_true] at h
    obtain ⟨xs, hm, hx⟩ := Option.map_eq_some_iff.1 h
    have hp : xs.map (·.1) = zs.map fun s => (DataW.lit (.string s.data.toList) : DataW H) := by simpa using congrArg Prod.fst hx
    have hn : xs.length = n := by simpa using Lib.mapM_length hm
    have hz : zs.length = n := by have := congrArg List.length hp; simp at this; omega
    refine List.ext_getElem? fun i => ?_
    rcases Nat.lt_or_ge i n with hi | hi
    · obtain ⟨b, hb, hf⟩ := Lib.mapM_at hm i i (by simp [hi])
      obtain ⟨s, hc, rfl, _⟩ := DataW.trod_string he hf
      have h1 : cs[i]? = some (.string s) := by
        have h0 := congrArg (·[0]?) hc
        simpa [List.getElem?_take, List.getElem?_drop] using h0
      have h2 := congrArg (·[i]?) hp
      simp only [List.getElem?_map, hb, Option.map_some] at h2
      obtain ⟨z, hz', e2⟩ := Option.map_eq_some_iff.1 h2.symm
      have e3 : z = s := by
        have : z.data.toList = s.data.toList := by simpa using e2
        exact ByteArray.ext (Array.toList_inj.1 this)
      simp [h1, hz', e3]
    · rw [List.getElem?_eq_none (by omega), List.getElem?_eq_none (by simp; omega)]
theorem names_of {W : World} (hL : laidMet Tryd.prog Rows.fnExactRuleTextRow.laid W) : W.var? Tryd.prog "loop.example/g00914/impl.fieldNames" = some (PFnExactRuleText.fieldNames_.map Value.string).toArray := by
  have hF := laidMet.filter (fun x => x.1 == "loop.example/g00914/impl.fieldNames") hL
  have e : (Rows.fnExactRuleTextRow.laid.filter fun x => x.1 == "loop.example/g00914/impl.fieldNames") = [("loop.example/g00914/impl.fieldNames", DataW.agg (PFnExactRuleText.fieldNames_.map fun s => .lit (.string s.data.toList)))] := by kernel_rfl
  rw [e] at hF
  obtain ⟨ps, ⟨g', t', cs, fuel, p, q, hg', ht', hvar, hd, _, _⟩, _⟩ := hF
  have hg : Tryd.prog.globalNamed "loop.example/g00914/impl.fieldNames" = some 0 := by kernel_rfl
  obtain rfl := Option.some.inj (hg.symm.trans hg')
  have ht : (Tryd.prog.globals[(0 : Nat)]?).map (·.type) = some 49 := by kernel_rfl
  obtain rfl := Option.some.inj (ht.symm.trans ht')
  have hc := strs_of (n := 5) (e := 9) (by kernel_rfl) (by kernel_rfl) (by kernel_rfl) (by kernel_rfl) hd
  rw [hvar, ← hc]
theorem laidW {W : World} (hL : laidMetH Tryd.prog Rows.fnExactRuleTextRow.laid W) : PFnExactRuleText.LaidW W := by
  rw [MakeChecks.laidMetH_plain _ _ _ (by kernel_rfl)] at hL
  have hL0 := hL
  have hF := laidMet.filter (fun x => x.1 == "internal/strconv.uint64pow10") hL
  have e : (Rows.fnExactRuleTextRow.laid.filter fun x => x.1 == "internal/strconv.uint64pow10") = [("internal/strconv.uint64pow10", Lib.tabData .u64 Lib.pow10Tab)] := by kernel_rfl
  rw [e] at hF
  exact ⟨Lib.tabIs_of_head (g := 1) (t := 66) (e := 60) (n := 20) (by kernel_rfl) (by kernel_rfl) (by kernel_rfl) (by kernel_rfl) (by kernel_rfl) (by kernel_rfl) hF, names_of hL0⟩
theorem own : ownKnob Tryd.prog.godebug = none := by kernel_rfl
theorem laidOut : laidOutB Tryd.prog = true := by kernel_rfl
theorem cells3 : Tryd.prog.cellsOf 3 = 1 := by kernel_rfl
theorem cells35 : Tryd.prog.cellsOf 35 = 2 := by kernel_rfl
set_option maxRecDepth 100000 in
theorem rows_C22 {H : Type} {enc : TypeId × Value → H} {w : World} {fuel : Nat} {cs : List Value} {y : DataW H × List MemPlace} (hf : DataW.trod enc Tryd.prog w 0 (fun _ => true) true fuel 22 cs = some y) :
    ∃ (A : Option Addr) (l : List PFnExactRuleText.S35) (cap : Nat), cs = [.slice A l.length cap] ∧ Kd.C PFnExactRuleText.k35 w A l.length l ∧ l.length ≤ cap ∧ l.length ≤ maxLen ∧ ∀ x ∈ l, (Lit.int .i64 x.f0).wf = true ∧ (Lit.int .i64 x.f1).wf = true := by
  rcases Go.Deep.open_slice Tryd.underlying22 hf with ⟨rfl, _⟩ | ⟨a, len, cap, m, n, D, Pl, rfl, _, hl, hm, hmm, _, hx⟩
  · exact ⟨none, [], 0, rfl, ⟨rfl, by decide, fun h => absurd h (by decide)⟩, by decide, by decide, fun x hx => by simp at hx⟩
  · have hlm : len ≤ m := by rw [hmm]; split <;> omega
    haveI : Inhabited PFnExactRuleText.S35 := ⟨PFnExactRuleText.z35⟩
    obtain ⟨F, hF⟩ := Go.Deep.choose_lt (α := PFnExactRuleText.S35) (n := len) (p := fun i x => (∀ j u, ([.int .i64 x.f0, .int .i64 x.f1] : List Value)[j]? = some u → w.cell? (a.add (i * 2 + j)) = some u) ∧ (Lit.int .i64 x.f0).wf = true ∧ (Lit.int .i64 x.f1).wf = true) (fun i hi => by
      obtain ⟨cs', h1, h2⟩ := hx i (by omega)
      rw [cells35] at h1
      obtain ⟨_, hlen, hcell⟩ := World.cells?_some h1
      obtain ⟨y0, y1, n', _, _, g0, g1⟩ := Go.ChangeShapes.trod_struct2 Tryd.underlying35 h2
      match cs', hlen with
      | [v0, v1], _ =>
        obtain ⟨b0, e0, _, f0⟩ := DataW.trod_int Tryd.underlying3 (show DataW.trod enc Tryd.prog w 0 (fun _ => true) true n' 3 [v0] = some y0 by simpa [cells3] using g0)
        simp only [List.cons.injEq, and_true] at e0
        subst e0
        obtain ⟨b1, e1, _, f1⟩ := DataW.trod_int Tryd.underlying3 (show DataW.trod enc Tryd.prog w 0 (fun _ => true) true n' 3 [v1] = some y1 by simpa [cells3] using g1)
        simp only [List.cons.injEq, and_true] at e1
        subst e1
        refine ⟨⟨b0, b1⟩, fun j u hj => ?_, f0, f1⟩
        have hj' : j < 2 := by
          have := (List.getElem?_eq_some_iff.mp hj).1
          simpa using this
        have := hcell j hj'
        rw [Addr.add_add] at this
        exact this.trans hj)
    have hml : maxLen ≤ 9223372036854775807 := by decide
    refine ⟨some a, (List.range len).map F, cap, by simp, ⟨rfl, (by simp; omega), fun _ => ⟨a, rfl, fun j p hj => ?_⟩⟩, (by simpa using hl), (by simp; omega), fun x hx' => ?_⟩
    · rw [List.getElem?_map] at hj
      have hjl : j < len := by
        by_cases hh : j < len
        · exact hh
        · rw [List.getElem?_eq_none (by simp; omega)] at hj; simp at hj
      rw [List.getElem?_range hjl] at hj
      simp only [Option.map_some, Option.some.injEq] at hj
      subst hj
      exact ⟨_, rfl, PFnExactRuleText.k35_mk w (F j), (hF j hjl).1⟩
    · obtain ⟨i, hi, rfl⟩ := List.mem_map.mp hx'
      exact (hF i (by simpa using hi)).2
set_option maxRecDepth 100000 in
theorem lifted (os : Os) (started : os.Started) (H : Type) (enc : TypeId × Value → H) :
    ReturnsInHanded {} Tryd.checked os 3 .any (fun w args => (Rows.fnExactRuleTextSpec.pre enc Tryd.prog Tryd.f3 Rows.fnExactRuleTextRow.domain false w args ∧ laidMetH Tryd.prog Rows.fnExactRuleTextRow.laid w) ∧ sizedMet enc Tryd.prog Tryd.f3 (OpenSpec.ofChange Rows.fnExactRuleTextSpec) false w args) (Rows.fnExactRuleTextSpec.post enc Tryd.prog Tryd.f3 false true false false) := by
  refine returnsInHanded_of_change_and (C := Tryd.checked) (X := fun w _ => laidMetH Tryd.prog Rows.fnExactRuleTextRow.laid w) (fun _ _ _ hh h => h.of_heap hh) own started (by kernel_rfl) Tryd.func3
    (ChangeSpec.witness_shaped (enc := enc) (C := Tryd.checked) (os := os) (X := fun w _ => laidMetH Tryd.prog Rows.fnExactRuleTextRow.laid w) false (World.laidAll Tryd.prog os Rows.fnExactRuleTextRow.laid) #[.slice none 0 0] 8 (World.laidAll_os _ _ _)
      (World.shaped_of_ZipB (by kernel_rfl) (by kernel_rfl)) (by kernel_rfl) (by kernel_rfl) (by kernel_rfl)
      (by rw [MakeChecks.laidMetH_plain _ _ _ (by kernel_rfl)]; exact laidMet_laidAll _ (by kernel_rfl) (by kernel_rfl))) ?_
  intro W base args ds gs before hval0 hW hcnd hsz0 hL _
  have hval : ∀ (j : Nat) t v, Tryd.f3.params[j]? = some t → args[j]? = some v → Value.okWide Tryd.prog W .any base t v := hval0
  have hW' := hW
  obtain ⟨p, q, hA0, hV, rfl, hfz, hnd⟩ := hW
  have hA : DataW.TrodAll enc Tryd.prog W 0 (fun _ => true) true Tryd.f3.params.toList args.toList ds p := hA0
  rw [Tryd.params3] at hA hval
  obtain ⟨v0, vs0, d0, ds0, p0, q0, hargs, rfl, rfl, h0, r0⟩ := trodAll_cons hA
  obtain ⟨rfl, rfl, rfl⟩ := trodAll_nil r0
  obtain rfl : args = #[v0] := by cases args; simp_all
  obtain ⟨g1, rfl⟩ : ∃ d, gs = [d] := by
    obtain ⟨_, _, _, _, d, _, e, _⟩ := trodVars_one hV
    exact ⟨d, e⟩
  have k0 := h0
  have lt0 : ∀ x ∈ p0, x.block < W.heap.size := by obtain ⟨m, hm⟩ := k0; exact DataW.trod_lt m _ _ _ hm
  obtain ⟨A0, l0, c0, rfl, hr0, hc0, hm0, hw0⟩ : ∃ (A : Option Addr) (l : List PFnExactRuleText.S35) (c : Nat), v0 = (.slice A l.length c : Value) ∧ Kd.C PFnExactRuleText.k35 W A l.length l ∧ l.length ≤ c ∧ l.length ≤ maxLen ∧ ∀ x ∈ l, (Lit.int .i64 x.f0).wf = true ∧ (Lit.int .i64 x.f1).wf = true := by
    obtain ⟨a, len, cap, rfl⟩ := okWide_slice Tryd.underlying22 (hval 0 22 v0 rfl rfl)
    obtain ⟨fuel, hf⟩ := h0
    obtain ⟨A, l, c, e, r⟩ := rows_C22 (by simpa [Value.cells] using hf)
    exact ⟨A, l, c, by simpa using e, r⟩
  clear hA0 hval0 hsz0
  obtain ⟨k, hk⟩ := Pure.pure_FnExactRuleText l0 hm0 hw0
  refine (PFnExactRuleText.laws_FnExactRuleText.calls k A0 c0 l0 true W hr0 hc0 hk (laidW hL)).mono fun e W' ⟨he, bel⟩ => ?_
  subst he
  exact ⟨_, rfl, _, _, _, [], _, _, hW', trodAll_mk1 (shut_bool Tryd.underlying4 _), (trodAll_cons_mk (Below.trod laidOut (by kernel_rfl) (of_decide_eq_true (by kernel_rfl)) k0 bel lt0) trodAll_mk0), Below.trodVars laidOut bel (by kernel_rfl) hV, bel.frame _, fun h => by cases h⟩
theorem over : Rows.fnExactRuleTextRow.holds Tryd.pinned (OpenSpec.ofChange Rows.fnExactRuleTextSpec) :=
  OpenClaim.holds_of_wide 3 Tryd.f3 rfl rfl rfl rfl rfl rfl rfl ⟨rfl, rfl, rfl, rfl, rfl⟩ rfl rfl rfl rfl rfl (by kernel_rfl) Tryd.func3 (by kernel_rfl)
    (of_decide_eq_true (by kernel_rfl)) (by unfold Func.isWrapper; first | (rw [if_pos (by decide +kernel)]; kernel_rfl) | (rw [if_neg (by decide +kernel)]; exact ⟨rfl, rfl⟩))
    (fun os started H enc _ => lifted os started H enc)
theorem proved : Rows.FnExactRuleTextSaid := over
#print axioms proved
theorem cardProved : Rows.FnExactRuleTextCardSaid :=
  Claim7.holds_tied_plain_at .later [] [.data, .data, .data, .data] true (true, "0c9c8161bd518124e217de98994f1a236953ba82926c74aeb746c97f55073a52") false proved (fun _ h => by cases h) (by kernel_rfl) (fun _ h => by cases h) fnExactRuleText_row_tie rfl ⟨rfl, rfl⟩ (by kernel_rfl) rfl
    (fun f fn hf hfn => by
      obtain rfl : f = 3 := Option.some.inj ((show Tryd.prog.funcNamed "loop.example/g00914/laws.FnExactRuleText" = some 3 by kernel_rfl).symm.trans hf) |>.symm
      obtain rfl : fn = Tryd.f3 := (Option.some.inj (Tryd.func3.symm.trans hfn)).symm
      exact ⟨by kernel_rfl, fun j t ht => by
        rw [Tryd.params3] at ht
        have hm : t ∈ [22] := by simpa using Array.mem_of_getElem? ht
        have hall : ([22].all fun u => !Tryd.prog.wantsStandIn u) = true := by kernel_rfl
        exact (show Tryd.prog.wantsStandIn t = false by simpa using List.all_eq_true.1 hall t hm)⟩)
    (by kernel_rfl)
#print axioms cardProved
end Go.Proofs.YtikdododhkljeaaDoor.fnExactRuleText
namespace Go.Proofs.YtikdododhkljeaaDoor
/-- The row, under a short name, for the claim. -/
theorem fnExactRuleText_holds : Rows.FnExactRuleTextCardSaid := fnExactRuleText.cardProved
end Go.Proofs.YtikdododhkljeaaDoor
