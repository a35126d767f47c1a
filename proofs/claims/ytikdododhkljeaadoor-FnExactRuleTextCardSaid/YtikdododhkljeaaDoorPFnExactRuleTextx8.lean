-- Laid for this claim by wip/tools/print2.sh, a changed copy of the kit's print (wip/tools/patch_print.py): not by print.sh. Changed by wip/fix/laid.py.
import Derived.Test.YtikdododhkljeaaDoorPFnExactRuleTextx0
import Derived.Test.YtikdododhkljeaaDoorPFnExactRuleTextx1
import Derived.Test.YtikdododhkljeaaDoorPFnExactRuleTextx4
import Derived.Test.YtikdododhkljeaaDoorPFnExactRuleTextx5
import Derived.Test.YtikdododhkljeaaDoorPFnExactRuleTextx7
import Derived.Test.YtikdododhkljeaaDoorWSteps
import Derived.Test.YtikdododhkljeaaDoorWSqueeze
namespace Go.Proofs.YtikdododhkljeaaDoor.PFnExactRuleText
open Go.RowKit Go.Proofs.YtikdododhkljeaaDoorW.PrintWords Go.Proofs.YtikdododhkljeaaDoorW.PrintLast Go.Proofs.YtikdododhkljeaaDoorW.PrintMore
attribute [local go_sem] max2_int min2_int max_two min_two max_three min_three max_four min_four   -- for this text's walks alone
set_option linter.unusedVariables false
set_option linter.unusedSimpArgs false

/-! ### impl_RuleText: function 7 -/
def impl_RuleText.f (k : Nat) (l0 : List (S33)) : Option (ByteArray × Bool) := (impl_isRule.f k l0).bind fun t261 => (if t261 = true then ((impl_ruleText.f k l0 (wrap64 ((l0.length : Int) - 1)) 0).bind fun t262 => (some (t262, true))) else (some ((⟨#[]⟩ : ByteArray), false)))
set_option maxHeartbeats 8000000 in
set_option maxRecDepth 100000 in
theorem impl_RuleText.calls (k : Nat) (A0 : Option Addr) (c0 : Nat) (l0 : List (S33)) (r1 : ByteArray) (r2 : Bool) (w : World) (hr0 : Kd.C k33 w A0 l0.length l0) (hc0 : l0.length ≤ c0) (h : impl_RuleText.f k l0 = some (r1, r2)) (hL : LaidW w) :
  Calls Tryd.prog 7 #[.slice A0 l0.length c0] w fun e w' => e = .returned (.tuple #[.string r1, .bool r2]) ∧ Below w.heap.size w w' := by
 have HLw := Aside0.mk hL
 clear hL
 have HR0 := Aside0.mk hr0
 have HC0 := Aside0.mk hc0
 clear hr0 hc0
 have HB := Aside0.mk (Below.refl w.heap.size w)
 have H := h
 unfold impl_RuleText.f at H
 clear h
 replace H := Option.bind_eq_some_iff.mp H
 obtain ⟨t261, A20, H⟩ := H
 try dsimp only at H
 have A2 := Aside0.mk A20
 clear A20
 by_cases c3 : t261 = true
 ·subst c3
  rw [if_pos rfl] at H
  replace H := Option.bind_eq_some_iff.mp H
  obtain ⟨t262, A40, H⟩ := H
  try dsimp only at H
  have A4 := Aside0.mk A40
  clear A40
  simp only [Option.some.injEq, Prod.mk.injEq] at H
  obtain ⟨rfl, rfl⟩ := H
  go_enter Tryd.func7, Tryd.ntmps7
  go_wp2_with (first | ((with_reducible refine gate_callee (f := 12) rfl ?_); refine gl_ (some 5) Tryd.func12 #[.slice A0 l0.length c0] rfl rfl rfl ?_; (with_reducible refine (impl_isRule.calls k _ _ l0 true _ ?side1 ?side2 A2.out).mono ?_); (case side1 => repeat (first | exact HR0.out | (with_reducible refine Kd.C_alloc ?_ _) | (with_reducible refine Kd.C_drewN ?_ _) | (with_reducible refine Kd.C_drew ?_))); (case side2 => exact HC0.out); rintro e w5 ⟨rfl, hb⟩; refine ⟨_, rfl, ?_⟩; replace HB := hbs_ HB hb) | ((with_reducible refine gate_callee (f := 13) rfl ?_); refine gl_ (some 11) Tryd.func13 #[.slice A0 l0.length c0, .int .i64 (wrap64 ((l0.length : Int) - 1)), .int .i64 0] rfl rfl rfl ?_; (with_reducible refine (impl_ruleText.calls k _ _ l0 (wrap64 ((l0.length : Int) - 1)) 0 t262 _ ?side1 ?side2 A4.out (by exact LaidW.step HLw (hb_ HB))).mono ?_); (case side1 => exact Kd.C_w HR0 HB); (case side2 => exact HC0.out); rintro e w6 ⟨rfl, hb⟩; refine ⟨_, rfl, ?_⟩; replace HB := hbs_ HB hb))
  go_ret2
  exact ad_ (hb_ HB)
 replace c3 := Bool.eq_false_iff.mpr c3
 subst c3
 rw [if_neg (show ¬ (false = true) by decide)] at H
 simp only [Option.some.injEq, Prod.mk.injEq] at H
 obtain ⟨rfl, rfl⟩ := H
 go_enter Tryd.func7, Tryd.ntmps7
 go_wp2_with (first | ((with_reducible refine gate_callee (f := 12) rfl ?_); refine gl_ (some 5) Tryd.func12 #[.slice A0 l0.length c0] rfl rfl rfl ?_; (with_reducible refine (impl_isRule.calls k _ _ l0 false _ ?side1 ?side2 A2.out).mono ?_); (case side1 => repeat (first | exact HR0.out | (with_reducible refine Kd.C_alloc ?_ _) | (with_reducible refine Kd.C_drewN ?_ _) | (with_reducible refine Kd.C_drew ?_))); (case side2 => exact HC0.out); rintro e w7 ⟨rfl, hb⟩; refine ⟨_, rfl, ?_⟩; replace HB := hbs_ HB hb))
 go_ret2
 exact ad_ (hb_ HB)

/-! ### laws_eqPart: function 14 -/
def laws_eqPart.f (a0_0 : Int) (a0_1 : Int) (a1_0 : Int) (a1_1 : Int) : Option (Bool) := if a0_0 = a1_0 then (if a0_1 = a1_1 then (some true) else (some false)) else (some false)
set_option maxHeartbeats 8000000 in
set_option maxRecDepth 100000 in
theorem laws_eqPart.calls (a0_0 : Int) (a0_1 : Int) (a1_0 : Int) (a1_1 : Int) (r : Bool) (w : World) (h : laws_eqPart.f a0_0 a0_1 a1_0 a1_1 = some r) :
  Calls Tryd.prog 14 #[.agg #[.int .i64 a0_0, .int .i64 a0_1], .agg #[.int .i64 a1_0, .int .i64 a1_1]] w fun e w' => e = .returned (.bool r) ∧ Below w.heap.size w w' := by
 have hu33 := Tryd.underlying33
 have HB := Aside0.mk (Below.refl w.heap.size w)
 have H := h
 unfold laws_eqPart.f at H
 clear h
 by_cases c3 : a0_0 = a1_0
 ·rw [if_pos c3] at H
  have c3b0 : (a0_0 == a1_0) = true := beq_iff_eq.mpr c3
  have c3b1 : (a0_0 != a1_0) = false := bne_eq_false_iff_eq.mpr c3
  clear c3
  by_cases c4 : a0_1 = a1_1
  ·rw [if_pos c4] at H
   have c4b0 : (a0_1 == a1_1) = true := beq_iff_eq.mpr c4
   have c4b1 : (a0_1 != a1_1) = false := bne_eq_false_iff_eq.mpr c4
   clear c4
   obtain rfl := Option.some.inj H
   go_enter Tryd.func14, Tryd.ntmps14
   go_wp2_with (first | ((with_reducible refine gate_dst (N := 2) rfl ?_); refine bv_ 2 (cs := #[.int .i64 a0_0, .int .i64 a0_1]) (t := 33) ?_; intro gb263 hg w5 hbox hb; have BK263 := Aside0.mk (hbox); have GW263 := gs_ hg HB; have GE263 := gs_ hg HB; replace HB := hbs_ HB hb; clear hb hbox hg) | ((with_reducible refine gate_dst (N := 3) rfl ?_); refine bv_ 3 (cs := #[.int .i64 a1_0, .int .i64 a1_1]) (t := 33) ?_; intro gb264 hg w6 hbox hb; have BK264 := Aside0.mk (hbox); have GW264 := gs_ hg HB; have GE264 := gs_ hg HB; have NB263_264 := nl_ hg BK263; have NB264_263 := ng_ hg BK263; replace BK263 := kb_ BK263 hb; replace HB := hbs_ HB hb; clear hb hbox hg; have := NB263_264.out; have := NB264_263.out; obtain ⟨hcz8_0, hcz8_1, hfz8_0, hfz8_1⟩ := bx2 BK263; obtain ⟨hcz9_0, hcz9_1, hfz9_0, hfz9_1⟩ := bx2 BK264))
   go_ret
   exact ad_ (hb_ HB)
  rw [if_neg c4] at H
  have c4b0 : (a0_1 == a1_1) = false := beq_eq_false_iff_ne.mpr c4
  have c4b1 : (a0_1 != a1_1) = true := bne_iff_ne.mpr c4
  obtain rfl := Option.some.inj H
  go_enter Tryd.func14, Tryd.ntmps14
  go_wp2_with (first | ((with_reducible refine gate_dst (N := 2) rfl ?_); refine bv_ 2 (cs := #[.int .i64 a0_0, .int .i64 a0_1]) (t := 33) ?_; intro gb263 hg w10 hbox hb; have BK263 := Aside0.mk (hbox); have GW263 := gs_ hg HB; have GE263 := gs_ hg HB; replace HB := hbs_ HB hb; clear hb hbox hg) | ((with_reducible refine gate_dst (N := 3) rfl ?_); refine bv_ 3 (cs := #[.int .i64 a1_0, .int .i64 a1_1]) (t := 33) ?_; intro gb264 hg w11 hbox hb; have BK264 := Aside0.mk (hbox); have GW264 := gs_ hg HB; have GE264 := gs_ hg HB; have NB263_264 := nl_ hg BK263; have NB264_263 := ng_ hg BK263; replace BK263 := kb_ BK263 hb; replace HB := hbs_ HB hb; clear hb hbox hg; have := NB263_264.out; have := NB264_263.out; obtain ⟨hcz13_0, hcz13_1, hfz13_0, hfz13_1⟩ := bx2 BK263; obtain ⟨hcz14_0, hcz14_1, hfz14_0, hfz14_1⟩ := bx2 BK264))
  go_ret
  exact ad_ (hb_ HB)
 rw [if_neg c3] at H
 have c3b0 : (a0_0 == a1_0) = false := beq_eq_false_iff_ne.mpr c3
 have c3b1 : (a0_0 != a1_0) = true := bne_iff_ne.mpr c3
 obtain rfl := Option.some.inj H
 go_enter Tryd.func14, Tryd.ntmps14
 go_wp2_with (first | ((with_reducible refine gate_dst (N := 2) rfl ?_); refine bv_ 2 (cs := #[.int .i64 a0_0, .int .i64 a0_1]) (t := 33) ?_; intro gb263 hg w15 hbox hb; have BK263 := Aside0.mk (hbox); have GW263 := gs_ hg HB; have GE263 := gs_ hg HB; replace HB := hbs_ HB hb; clear hb hbox hg) | ((with_reducible refine gate_dst (N := 3) rfl ?_); refine bv_ 3 (cs := #[.int .i64 a1_0, .int .i64 a1_1]) (t := 33) ?_; intro gb264 hg w16 hbox hb; have BK264 := Aside0.mk (hbox); have GW264 := gs_ hg HB; have GE264 := gs_ hg HB; have NB263_264 := nl_ hg BK263; have NB264_263 := ng_ hg BK263; replace BK263 := kb_ BK263 hb; replace HB := hbs_ HB hb; clear hb hbox hg; have := NB263_264.out; have := NB264_263.out; obtain ⟨hcz18_0, hcz18_1, hfz18_0, hfz18_1⟩ := bx2 BK263; obtain ⟨hcz19_0, hcz19_1, hfz19_0, hfz19_1⟩ := bx2 BK264))
 go_ret
 exact ad_ (hb_ HB)

/-! ### laws_eqPartS: function 8 -/
def laws_eqPartS.l0 : Nat → List (S33) → List (S33) → Int → Option (Bool)
 | 0, _, _, _ => none
 | k + 1, x0, x1, x5 => if x5 < (x0.length : Int) then (if 0 ≤ x5 then (if x5 < (x1.length : Int) then ((laws_eqPart.f ((rd_T33 x0 x5).f0) ((rd_T33 x0 x5).f1) ((rd_T33 x1 x5).f0) ((rd_T33 x1 x5).f1)).bind fun t267 => (if t267 = true then (laws_eqPartS.l0 k x0 x1 (wrap64 (x5 + 1))) else (some false))) else (none)) else (none)) else (some true)
def laws_eqPartS.f (k : Nat) (l0 : List (S33)) (l1 : List (S33)) : Option (Bool) := if (l0.length : Int) = (l1.length : Int) then (laws_eqPartS.l0 k l0 l1 0) else (some false)
def laws_eqPartS.T6 : Bool × List (List Nat × List Nat) := (true, [([], []), ([], []), ([0, 1], [0, 1]), ([2], [2]), ([], []), ([], []), ([4, 5], [4, 5]), ([6], [6]), ([3, 7], [3, 7]), ([8], [8])])
def laws_eqPartS.B6 : List Nat := [0, 0, 3, 7, 0, 0, 48, 112, 255, 511]
theorem laws_eqPartS.tab6 : rtab .any (opsOf Tryd.f8 6) = laws_eqPartS.T6 := by kernel_rfl
theorem laws_eqPartS.bits6 : waitsOk laws_eqPartS.T6.2 laws_eqPartS.B6 = true := by kernel_rfl
set_option maxHeartbeats 8000000 in
set_option maxRecDepth 100000 in
theorem laws_eqPartS.calls (k : Nat) (A0 : Option Addr) (c0 : Nat) (l0 : List (S33)) (A1 : Option Addr) (c1 : Nat) (l1 : List (S33)) (r : Bool) (w : World) (hr0 : Kd.C k33 w A0 l0.length l0) (hc0 : l0.length ≤ c0) (hr1 : Kd.C k33 w A1 l1.length l1) (hc1 : l1.length ≤ c1) (h : laws_eqPartS.f k l0 l1 = some r) :
  Calls Tryd.prog 8 #[.slice A0 l0.length c0, .slice A1 l1.length c1] w fun e w' => e = .returned (.bool r) ∧ Below w.heap.size w w' := by
 have hu33 := Tryd.underlying33
 have HR0 := Aside0.mk hr0
 have HC0 := Aside0.mk hc0
 clear hr0 hc0
 have HR1 := Aside0.mk hr1
 have HC1 := Aside0.mk hc1
 clear hr1 hc1
 have HB := Aside0.mk (Below.refl w.heap.size w)
 have H := h
 unfold laws_eqPartS.f at H
 clear h
 by_cases c3 : (l0.length : Int) = (l1.length : Int)
 case neg => rw [if_neg c3] at H; have c3b0 : ((l0.length : Int) == (l1.length : Int)) = false := beq_eq_false_iff_ne.mpr c3; have c3b1 : ((l0.length : Int) != (l1.length : Int)) = true := bne_iff_ne.mpr c3; (have c3b2 : (l0.length == l1.length) = false := by first | simpa using c3 | (simp at c3 ⊢; omega)); obtain rfl := Option.some.inj H; go_enter Tryd.func8, Tryd.ntmps8; go_wp2; go_ret; exact ad_ (hb_ HB)
 rw [if_pos c3] at H
 have c3b0 : ((l0.length : Int) == (l1.length : Int)) = true := beq_iff_eq.mpr c3
 have c3b1 : ((l0.length : Int) != (l1.length : Int)) = false := bne_eq_false_iff_eq.mpr c3
 have c3b2 : (l0.length == l1.length) = true := by first | simpa using c3 | (simp at c3 ⊢; omega)
 clear c3
 have H' := Aside0.mk H
 clear H
 go_enter Tryd.func8, Tryd.ntmps8
 go_wp2
 go_loopg [5] k (fun kq v5 w' => ∃ (x5_1 : Int), v5 = .int .i64 x5_1 ∧ Aside0 (laws_eqPartS.l0 kq l0 l1 x5_1 = some r) ∧ Aside0 (kq ≤ k) ∧ Aside0 (Below w.heap.size w w'))
 case atStart => exact ⟨(0), (by first | rfl | (simp; done) | (simp [*]; done)), H', ⟨Nat.le_refl _⟩, ⟨hb_ HB⟩⟩
 clear H'
 obtain ⟨x5_1, rfl, HA, HK1, HB⟩ := hrel
 cases gk with
 | zero => exact absurd HA.out (by simp [laws_eqPartS.l0])
 | succ k1 => ?_
 have H := HA.out
 clear HA
 simp only [laws_eqPartS.l0] at H
 by_cases c4 : x5_1 < (l0.length : Int)
 case neg => rw [if_neg c4] at H; have c4b0 := decide_eq_false c4; clear c4; obtain rfl := Option.some.inj H; go_wp2; go_ret; exact ad_ (hb_ HB)
 rw [if_pos c4] at H
 have c4b0 := decide_eq_true c4
 clear c4
 by_cases c5 : 0 ≤ x5_1
 case neg => rw [if_neg c5] at H; exact absurd H (by simp)
 rw [if_pos c5] at H
 have c5b0 := decide_eq_true c5
 clear c5
 by_cases c6 : x5_1 < (l1.length : Int)
 case neg => rw [if_neg c6] at H; exact absurd H (by simp)
 rw [if_pos c6] at H
 have c6b0 := decide_eq_true c6
 clear c6
 replace H := Option.bind_eq_some_iff.mp H
 obtain ⟨t267, A70, H⟩ := H
 try dsimp only at H
 have A7 := Aside0.mk A70
 clear A70
 by_cases c8 : t267 = true
 ·subst c8
  rw [if_pos rfl] at H
  have H' := Aside0.mk H
  clear H
  try go_wp2
  replace HB := Aside0.mk (below_drew1 HB.out)
  have p265 : 0 ≤ (x5_1 : Int) := of_decide_eq_true (by first | (with_reducible assumption) | assumption)
  have q265 : x5_1 < (l0.length : Int) := of_decide_eq_true (by first | (with_reducible assumption) | assumption)
  obtain ⟨ad265, e265, hx265_0, hx265_1⟩ := at_T33 HR0.out x5_1 p265 q265
  have hw265_1 := hx265_1
  have hw265_0 := hx265_0
  cases e265
  replace hx265_0 := hc_ HB hx265_0
  replace hx265_1 := hc_ HB hx265_1
  replace p265 := eq_true p265
  replace q265 := eq_true q265
  have p266 : 0 ≤ (x5_1 : Int) := of_decide_eq_true (by first | (with_reducible assumption) | assumption)
  have q266 : x5_1 < (l1.length : Int) := of_decide_eq_true (by first | (with_reducible assumption) | assumption)
  obtain ⟨ad266, e266, hx266_0, hx266_1⟩ := at_T33 HR1.out x5_1 p266 q266
  have hw266_1 := hx266_1
  have hw266_0 := hx266_0
  cases e266
  replace hx266_0 := hc_ HB hx266_0
  replace hx266_1 := hc_ HB hx266_1
  replace p266 := eq_true p266
  replace q266 := eq_true q266
  refine start_ (n := 10) (S := fun w' => w'.cell? (ad265.add ((x5_1).toNat * 2)) = some (.int .i64 ((rd_T33 l0 x5_1).f0)) ∧ w'.cell? ⟨(ad265.add ((x5_1).toNat * 2)).block, (ad265.add ((x5_1).toNat * 2)).off + 1, none⟩ = some (.int .i64 ((rd_T33 l0 x5_1).f1)) ∧ w'.cell? (ad266.add ((x5_1).toNat * 2)) = some (.int .i64 ((rd_T33 l1 x5_1).f0)) ∧ w'.cell? ⟨(ad266.add ((x5_1).toNat * 2)).block, (ad266.add ((x5_1).toNat * 2)).off + 1, none⟩ = some (.int .i64 ((rd_T33 l1 x5_1).f1))) (ds := []) (bb 10 0) (by kernel_rfl) rfl rfl ⟨((HB.out.cell (World.block_lt_of_cell? w _ hw265_0)).trans hw265_0), ((HB.out.cell (World.block_lt_of_cell? w _ hw265_1)).trans hw265_1), ((HB.out.cell (World.block_lt_of_cell? w _ hw266_0)).trans hw266_0), ((HB.out.cell (World.block_lt_of_cell? w _ hw266_1)).trans hw266_1)⟩ (fun hHeld => ?_); refine with_tabW laws_eqPartS.tab6 laws_eqPartS.bits6 (fun HT_ HW_ => ?_)
  generalize wr.drew = w9 at HB hx265_0 hx265_1 hx266_0 hx266_1 hHeld ⊢
  refine pl_ HT_ 0 (some 17) (bb 10 1) (h := ?_)
  refine pl_ HT_ 1 (some 18) (bb 10 3) (h := ?_)
  refine pl_ HT_ 2 (some 19) (bb 10 7) (h := ?_)
  refine pl_ HT_ 4 (some 21) (bb 10 23) (h := ?_)
  refine pl_ HT_ 5 (some 22) (bb 10 55) (h := ?_)
  refine pl_ HT_ 6 (some 23) (bb 10 119) (h := ?_)
  refine tk_ HT_ HW_ hHeld 3 (some 20) (bb 10 127) (h := ?_)
  refine tk_ HT_ HW_ hHeld 7 (some 24) (bb 10 255) (h := ?_)
  refine one_ (i := 8) (N := some 25) (bb 10 511) rfl rfl (one_of HT_.out (by kernel_rfl)) (by decide) (fun K hK => ?_)
  refine goes_ Tryd.func14 (by kernel_rfl) rfl #[.agg #[.int .i64 ((rd_T33 l0 x5_1).f0), .int .i64 ((rd_T33 l0 x5_1).f1)], .agg #[.int .i64 ((rd_T33 l1 x5_1).f0), .int .i64 ((rd_T33 l1 x5_1).f1)]] (by rfl) rfl rfl (by (try simp only [List.map_toArray, List.map_cons, List.map_nil]); first | done | rfl | (simp only [List.length_drop, List.length_take]; rfl)) ?_
  with_reducible refine (laws_eqPart.calls ((rd_T33 l0 x5_1).f0) ((rd_T33 l0 x5_1).f1) ((rd_T33 l1 x5_1).f0) ((rd_T33 l1 x5_1).f1) true _ A7.out).mono ?_
  rintro e w10 ⟨rfl, hb⟩
  refine ⟨_, rfl, ?_⟩
  replace HB := Aside0.mk (below_step (hb_ HB) hb)
  refine hK.out _ _ ⟨((HB.out.cell (World.block_lt_of_cell? w _ hw265_0)).trans hw265_0), ((HB.out.cell (World.block_lt_of_cell? w _ hw265_1)).trans hw265_1), ((HB.out.cell (World.block_lt_of_cell? w _ hw266_0)).trans hw266_0), ((HB.out.cell (World.block_lt_of_cell? w _ hw266_1)).trans hw266_1)⟩ (fun hHeld => ?_)
  clear hK K
  refine nm_ (some 25) (h := ?_)
  refine pl_ HT_ 9 (some 26) (bb 10 1023) (h := ?_)
  refine done_ (done_of HT_.out (by kernel_rfl)) ?_
  try go_wp2
  go_roundg k1
  case measure => have := HK1.out; omega
  case rel => exact ⟨(wrap64 (x5_1 + 1)), (by first | rfl | (simp; done) | (simp [*]; done)), H', ⟨by have := HK1.out; omega⟩, ⟨hb_ HB⟩⟩
 replace c8 := Bool.eq_false_iff.mpr c8
 subst c8
 rw [if_neg (show ¬ (false = true) by decide)] at H
 obtain rfl := Option.some.inj H
 try go_wp2
 replace HB := Aside0.mk (below_drew1 HB.out)
 have p265 : 0 ≤ (x5_1 : Int) := of_decide_eq_true (by first | (with_reducible assumption) | assumption)
 have q265 : x5_1 < (l0.length : Int) := of_decide_eq_true (by first | (with_reducible assumption) | assumption)
 obtain ⟨ad265, e265, hx265_0, hx265_1⟩ := at_T33 HR0.out x5_1 p265 q265
 have hw265_1 := hx265_1
 have hw265_0 := hx265_0
 cases e265
 replace hx265_0 := hc_ HB hx265_0
 replace hx265_1 := hc_ HB hx265_1
 replace p265 := eq_true p265
 replace q265 := eq_true q265
 have p266 : 0 ≤ (x5_1 : Int) := of_decide_eq_true (by first | (with_reducible assumption) | assumption)
 have q266 : x5_1 < (l1.length : Int) := of_decide_eq_true (by first | (with_reducible assumption) | assumption)
 obtain ⟨ad266, e266, hx266_0, hx266_1⟩ := at_T33 HR1.out x5_1 p266 q266
 have hw266_1 := hx266_1
 have hw266_0 := hx266_0
 cases e266
 replace hx266_0 := hc_ HB hx266_0
 replace hx266_1 := hc_ HB hx266_1
 replace p266 := eq_true p266
 replace q266 := eq_true q266
 refine start_ (n := 10) (S := fun w' => w'.cell? (ad265.add ((x5_1).toNat * 2)) = some (.int .i64 ((rd_T33 l0 x5_1).f0)) ∧ w'.cell? ⟨(ad265.add ((x5_1).toNat * 2)).block, (ad265.add ((x5_1).toNat * 2)).off + 1, none⟩ = some (.int .i64 ((rd_T33 l0 x5_1).f1)) ∧ w'.cell? (ad266.add ((x5_1).toNat * 2)) = some (.int .i64 ((rd_T33 l1 x5_1).f0)) ∧ w'.cell? ⟨(ad266.add ((x5_1).toNat * 2)).block, (ad266.add ((x5_1).toNat * 2)).off + 1, none⟩ = some (.int .i64 ((rd_T33 l1 x5_1).f1))) (ds := []) (bb 10 0) (by kernel_rfl) rfl rfl ⟨((HB.out.cell (World.block_lt_of_cell? w _ hw265_0)).trans hw265_0), ((HB.out.cell (World.block_lt_of_cell? w _ hw265_1)).trans hw265_1), ((HB.out.cell (World.block_lt_of_cell? w _ hw266_0)).trans hw266_0), ((HB.out.cell (World.block_lt_of_cell? w _ hw266_1)).trans hw266_1)⟩ (fun hHeld => ?_); refine with_tabW laws_eqPartS.tab6 laws_eqPartS.bits6 (fun HT_ HW_ => ?_)
 generalize wr.drew = w11 at HB hx265_0 hx265_1 hx266_0 hx266_1 hHeld ⊢
 refine pl_ HT_ 0 (some 17) (bb 10 1) (h := ?_)
 refine pl_ HT_ 1 (some 18) (bb 10 3) (h := ?_)
 refine pl_ HT_ 2 (some 19) (bb 10 7) (h := ?_)
 refine pl_ HT_ 4 (some 21) (bb 10 23) (h := ?_)
 refine pl_ HT_ 5 (some 22) (bb 10 55) (h := ?_)
 refine pl_ HT_ 6 (some 23) (bb 10 119) (h := ?_)
 refine tk_ HT_ HW_ hHeld 3 (some 20) (bb 10 127) (h := ?_)
 refine tk_ HT_ HW_ hHeld 7 (some 24) (bb 10 255) (h := ?_)
 refine one_ (i := 8) (N := some 25) (bb 10 511) rfl rfl (one_of HT_.out (by kernel_rfl)) (by decide) (fun K hK => ?_)
 refine goes_ Tryd.func14 (by kernel_rfl) rfl #[.agg #[.int .i64 ((rd_T33 l0 x5_1).f0), .int .i64 ((rd_T33 l0 x5_1).f1)], .agg #[.int .i64 ((rd_T33 l1 x5_1).f0), .int .i64 ((rd_T33 l1 x5_1).f1)]] (by rfl) rfl rfl (by (try simp only [List.map_toArray, List.map_cons, List.map_nil]); first | done | rfl | (simp only [List.length_drop, List.length_take]; rfl)) ?_
 with_reducible refine (laws_eqPart.calls ((rd_T33 l0 x5_1).f0) ((rd_T33 l0 x5_1).f1) ((rd_T33 l1 x5_1).f0) ((rd_T33 l1 x5_1).f1) false _ A7.out).mono ?_
 rintro e w12 ⟨rfl, hb⟩
 refine ⟨_, rfl, ?_⟩
 replace HB := Aside0.mk (below_step (hb_ HB) hb)
 refine hK.out _ _ ⟨((HB.out.cell (World.block_lt_of_cell? w _ hw265_0)).trans hw265_0), ((HB.out.cell (World.block_lt_of_cell? w _ hw265_1)).trans hw265_1), ((HB.out.cell (World.block_lt_of_cell? w _ hw266_0)).trans hw266_0), ((HB.out.cell (World.block_lt_of_cell? w _ hw266_1)).trans hw266_1)⟩ (fun hHeld => ?_)
 clear hK K
 refine nm_ (some 25) (h := ?_)
 refine pl_ HT_ 9 (some 26) (bb 10 1023) (h := ?_)
 refine done_ (done_of HT_.out (by kernel_rfl)) ?_
 try go_wp2
 go_ret
 exact ad_ (hb_ HB)

/-! ### laws_FnExactRuleText: function 3 -/
def laws_FnExactRuleText.j0 : Nat → List (S35) → List (S33) → Bool → Option (Bool)
 | 0, _, _, _ => none
 | k + 1, x0, x6, x34 => if x34 = true then (some false) else ((laws_toPartS.f k x0).bind fun t279 => ((laws_eqPartS.f k x6 t279).bind fun t282 => (if t282 = true then (some true) else (some false))))
def laws_FnExactRuleText.f (k : Nat) (l0 : List (S35)) : Option (Bool) := (laws_szPartS.f l0 1048576).bind fun t268 => (if t268 < 0 then (some true) else ((laws_toPartS.f k l0).bind fun t269 => ((spec_RuleText.f k t269).bind fun bt272 => ((laws_toPartS.f k l0).bind fun t274 => ((impl_RuleText.f k t274).bind fun bt277 => (if bt277.1.toList = bt272.1.toList then (laws_FnExactRuleText.j0 k l0 t274 (bt277.2 != bt272.2)) else (laws_FnExactRuleText.j0 k l0 t274 true)))))))
set_option maxHeartbeats 8000000 in
set_option maxRecDepth 100000 in
theorem laws_FnExactRuleText.calls (k : Nat) (A0 : Option Addr) (c0 : Nat) (l0 : List (S35)) (r : Bool) (w : World) (hr0 : Kd.C k35 w A0 l0.length l0) (hc0 : l0.length ≤ c0) (h : laws_FnExactRuleText.f k l0 = some r) (hL : LaidW w) :
  Calls Tryd.prog 3 #[.slice A0 l0.length c0] w fun e w' => e = .returned (.bool r) ∧ Below w.heap.size w w' := by
 have HLw := Aside0.mk hL
 clear hL
 have HR0 := Aside0.mk hr0
 have HC0 := Aside0.mk hc0
 clear hr0 hc0
 have HB := Aside0.mk (Below.refl w.heap.size w)
 have H := h
 unfold laws_FnExactRuleText.f at H
 clear h
 replace H := Option.bind_eq_some_iff.mp H
 obtain ⟨t268, A20, H⟩ := H
 try dsimp only at H
 have A2 := Aside0.mk A20
 clear A20
 by_cases c3 : t268 < 0
 ·rw [if_pos c3] at H
  have c3b0 := decide_eq_true c3
  clear c3
  obtain rfl := Option.some.inj H
  go_enter Tryd.func3, Tryd.ntmps3
  go_wp2_with (first | ((with_reducible refine gate_callee (f := 4) rfl ?_); refine gl_ (some 11) Tryd.func4 #[.slice A0 l0.length c0, .int .i64 1048576] rfl rfl rfl ?_; (with_reducible refine (laws_szPartS.calls _ _ l0 1048576 t268 _ ?side1 ?side2 A2.out).mono ?_); (case side1 => repeat (first | exact HR0.out | (with_reducible refine Kd.C_alloc ?_ _) | (with_reducible refine Kd.C_drewN ?_ _) | (with_reducible refine Kd.C_drew ?_))); (case side2 => exact HC0.out); rintro e w' ⟨rfl, ⟨nd, rfl⟩⟩; refine ⟨_, rfl, ?_⟩))
  go_ret
  exact ad_ (hb_ HB)
 rw [if_neg c3] at H
 have c3b0 := decide_eq_false c3
 clear c3
 replace H := Option.bind_eq_some_iff.mp H
 obtain ⟨t269, A40, H⟩ := H
 try dsimp only at H
 have A4 := Aside0.mk A40
 clear A40
 replace H := Option.bind_eq_some_iff.mp H
 obtain ⟨⟨t272, t273⟩, A50, H⟩ := H
 try dsimp only at H
 have A5 := Aside0.mk A50
 clear A50
 replace H := Option.bind_eq_some_iff.mp H
 obtain ⟨t274, A60, H⟩ := H
 try dsimp only at H
 have A6 := Aside0.mk A60
 clear A60
 replace H := Option.bind_eq_some_iff.mp H
 obtain ⟨⟨t277, t278⟩, A70, H⟩ := H
 try dsimp only at H
 have A7 := Aside0.mk A70
 clear A70
 have HC8 := Aside0.mk H
 clear H
 go_enter Tryd.func3, Tryd.ntmps3
 go_upto_region 8 with (first | ((with_reducible refine gate_callee (f := 4) rfl ?_); refine gl_ (some 11) Tryd.func4 #[.slice A0 l0.length c0, .int .i64 1048576] rfl rfl rfl ?_; (with_reducible refine (laws_szPartS.calls _ _ l0 1048576 t268 _ ?side1 ?side2 A2.out).mono ?_); (case side1 => repeat (first | exact HR0.out | (with_reducible refine Kd.C_alloc ?_ _) | (with_reducible refine Kd.C_drewN ?_ _) | (with_reducible refine Kd.C_drew ?_))); (case side2 => exact HC0.out); rintro e w' ⟨rfl, ⟨nd, rfl⟩⟩; refine ⟨_, rfl, ?_⟩) | ((with_reducible refine gate_callee (f := 6) rfl ?_); refine gl_ (some 16) Tryd.func6 #[.slice A0 l0.length c0] rfl rfl rfl ?_; (with_reducible refine (laws_toPartS.calls k _ _ l0 t269 _ ?side1 ?side2 A4.out).mono ?_); (case side1 => repeat (first | exact HR0.out | (with_reducible refine Kd.C_alloc ?_ _) | (with_reducible refine Kd.C_drewN ?_ _) | (with_reducible refine Kd.C_drew ?_))); (case side2 => exact HC0.out); rintro e w9 ⟨v270, rfl, ho0, hb⟩; refine ⟨_, rfl, ?_⟩; have HO271 := Kd.R_lo ho0 HB; replace HB := hbs_ HB hb; obtain ⟨Ao10, co10, eo10⟩ := Kd.R_slice HO271.out; subst eo10) | ((with_reducible refine gate_callee (f := 5) rfl ?_); refine gl_ (some 17) Tryd.func5 #[.slice Ao10 t269.length co10] rfl rfl rfl ?_; (with_reducible refine (spec_RuleText.calls k _ _ t269 t272 t273 _ ?side1 ?side2 A5.out).mono ?_); (case side1 => exact Kd.C_o HO271); (case side2 => exact (Kd.R_reads' HO271.out).2.1); rintro e w11 ⟨rfl, hb⟩; refine ⟨_, rfl, ?_⟩; replace HO271 := Kd.R_b HO271 hb; replace HB := hbs_ HB hb; try clear HO271) | ((with_reducible refine gate_callee (f := 6) rfl ?_); refine gl_ (some 21) Tryd.func6 #[.slice A0 l0.length c0] rfl rfl rfl ?_; (with_reducible refine (laws_toPartS.calls k _ _ l0 t274 _ ?side1 ?side2 A6.out).mono ?_); (case side1 => exact Kd.C_w HR0 HB); (case side2 => exact HC0.out); rintro e w12 ⟨v275, rfl, ho0, hb⟩; refine ⟨_, rfl, ?_⟩; have HO276 := Kd.R_lo ho0 HB; replace HB := hbs_ HB hb; obtain ⟨Ao13, co13, eo13⟩ := Kd.R_slice HO276.out; subst eo13) | ((with_reducible refine gate_callee (f := 7) rfl ?_); refine gl_ (some 24) Tryd.func7 #[.slice Ao13 t274.length co13] rfl rfl rfl ?_; (with_reducible refine (impl_RuleText.calls k _ _ t274 t277 t278 _ ?side1 ?side2 A7.out (by exact LaidW.step HLw (hb_ HB))).mono ?_); (case side1 => exact Kd.C_o HO276); (case side2 => exact (Kd.R_reads' HO276.out).2.1); rintro e w14 ⟨rfl, hb⟩; refine ⟨_, rfl, ?_⟩; replace HO276 := Kd.R_b HO276 hb; replace HB := hbs_ HB hb))
 (try simp only [Act.put, List.setIfInBounds_toArray, List.set_cons_zero, List.set_cons_succ])
 go_cut [34] (fun v34 wc => ∃ (kq : Nat) (x34_7 : Bool), v34 = .bool x34_7 ∧ Aside0 (laws_FnExactRuleText.j0 kq l0 t274 x34_7 = some r) ∧ Aside0 (kq ≤ k) ∧ Aside0 (Kd.R k33 33 wc w.heap.size (fun _ => True) (.slice Ao13 t274.length co13) t274) ∧ Aside0 (Below w.heap.size w wc))
 case first =>
  have H := HC8.out
  clear HC8
  by_cases c15 : t277.toList = t272.toList
  ·rw [if_pos c15] at H
   have c15b0 : (t277.toList == t272.toList) = true := beq_iff_eq.mpr c15
   have c15b1 : (t277.toList != t272.toList) = false := bne_eq_false_iff_eq.mpr c15
   clear c15
   (first | rw [c15b0] | (simp only [i64_w, i32_w]; rw [c15b0]) | skip)
   have H' := Aside0.mk H
   clear H
   go_wp2
   go_meet
   case rel => exact ⟨_, ((t278 != t273)), (by first | rfl | (simp; done) | (simp [*]; done)), H', ⟨by first | omega | exact Nat.le_refl _⟩, ⟨Kd.R_p HO276⟩, ⟨hb_ HB⟩⟩
  rw [if_neg c15] at H
  have c15b0 : (t277.toList == t272.toList) = false := beq_eq_false_iff_ne.mpr c15
  have c15b1 : (t277.toList != t272.toList) = true := bne_iff_ne.mpr c15
  (first | rw [c15b0] | (simp only [i64_w, i32_w]; rw [c15b0]) | skip)
  have H' := Aside0.mk H
  clear H
  go_wp2
  go_meet
  case rel => exact ⟨_, (true), (by first | rfl | (simp; done) | (simp [*]; done)), H', ⟨by first | omega | exact Nat.le_refl _⟩, ⟨Kd.R_p HO276⟩, ⟨hb_ HB⟩⟩
 clear HC8
 obtain ⟨kq, x34_7, rfl, HA, HJ7, HO_6, HB⟩ := hcut
 cases kq with
 | zero => exact absurd HA.out (by simp [laws_FnExactRuleText.j0])
 | succ kj7 => ?_
 have H := HA.out
 clear HA
 simp only [laws_FnExactRuleText.j0] at H
 by_cases c16 : x34_7 = true
 ·subst c16
  rw [if_pos rfl] at H
  obtain rfl := Option.some.inj H
  go_wp2
  go_ret
  exact ad_ (hb_ HB)
 replace c16 := Bool.eq_false_iff.mpr c16
 subst c16
 rw [if_neg (show ¬ (false = true) by decide)] at H
 replace H := Option.bind_eq_some_iff.mp H
 obtain ⟨t279, A170, H⟩ := H
 try dsimp only at H
 have A17 := Aside0.mk A170
 clear A170
 replace H := Option.bind_eq_some_iff.mp H
 obtain ⟨t282, A180, H⟩ := H
 try dsimp only at H
 have A18 := Aside0.mk A180
 clear A180
 by_cases c19 : t282 = true
 ·subst c19
  rw [if_pos rfl] at H
  obtain rfl := Option.some.inj H
  go_wp2_with (first | ((with_reducible refine gate_callee (f := 6) rfl ?_); refine gl_ (some 37) Tryd.func6 #[.slice A0 l0.length c0] rfl rfl rfl ?_; (with_reducible refine (laws_toPartS.calls kj7 _ _ l0 t279 _ ?side1 ?side2 A17.out).mono ?_); (case side1 => exact Kd.C_w HR0 HB); (case side2 => exact HC0.out); rintro e w20 ⟨v280, rfl, ho0, hb⟩; refine ⟨_, rfl, ?_⟩; have HO281 := Kd.R_lo (Kd.R_nw ho0 HO_6) HB; replace HO_6 := Kd.R_e HO_6 ho0 hb; replace HB := hbs_ HB hb; obtain ⟨Ao21, co21, eo21⟩ := Kd.R_slice HO281.out; subst eo21) | ((with_reducible refine gate_callee (f := 8) rfl ?_); refine gl_ (some 38) Tryd.func8 #[.slice Ao13 t274.length co13, .slice Ao21 t279.length co21] rfl rfl rfl ?_; (with_reducible refine (laws_eqPartS.calls kj7 _ _ t274 _ _ t279 true _ ?side1 ?side2 ?side3 ?side4 A18.out).mono ?_); (case side1 => exact Kd.C_o HO_6); (case side2 => exact (Kd.R_reads' HO_6.out).2.1); (case side3 => exact Kd.C_o HO281); (case side4 => exact (Kd.R_reads' HO281.out).2.1); rintro e w22 ⟨rfl, hb⟩; refine ⟨_, rfl, ?_⟩; replace HO_6 := Kd.R_b HO_6 hb; replace HO281 := Kd.R_b HO281 hb; replace HB := hbs_ HB hb))
  go_ret
  exact ad_ (hb_ HB)
 replace c19 := Bool.eq_false_iff.mpr c19
 subst c19
 rw [if_neg (show ¬ (false = true) by decide)] at H
 obtain rfl := Option.some.inj H
 go_wp2_with (first | ((with_reducible refine gate_callee (f := 6) rfl ?_); refine gl_ (some 37) Tryd.func6 #[.slice A0 l0.length c0] rfl rfl rfl ?_; (with_reducible refine (laws_toPartS.calls kj7 _ _ l0 t279 _ ?side1 ?side2 A17.out).mono ?_); (case side1 => exact Kd.C_w HR0 HB); (case side2 => exact HC0.out); rintro e w23 ⟨v280, rfl, ho0, hb⟩; refine ⟨_, rfl, ?_⟩; have HO281 := Kd.R_lo (Kd.R_nw ho0 HO_6) HB; replace HO_6 := Kd.R_e HO_6 ho0 hb; replace HB := hbs_ HB hb; obtain ⟨Ao24, co24, eo24⟩ := Kd.R_slice HO281.out; subst eo24) | ((with_reducible refine gate_callee (f := 8) rfl ?_); refine gl_ (some 38) Tryd.func8 #[.slice Ao13 t274.length co13, .slice Ao24 t279.length co24] rfl rfl rfl ?_; (with_reducible refine (laws_eqPartS.calls kj7 _ _ t274 _ _ t279 false _ ?side1 ?side2 ?side3 ?side4 A18.out).mono ?_); (case side1 => exact Kd.C_o HO_6); (case side2 => exact (Kd.R_reads' HO_6.out).2.1); (case side3 => exact Kd.C_o HO281); (case side4 => exact (Kd.R_reads' HO281.out).2.1); rintro e w25 ⟨rfl, hb⟩; refine ⟨_, rfl, ?_⟩; replace HO_6 := Kd.R_b HO_6 hb; replace HO281 := Kd.R_b HO281 hb; replace HB := hbs_ HB hb))
 go_ret
 exact ad_ (hb_ HB)

end Go.Proofs.YtikdododhkljeaaDoor.PFnExactRuleText
