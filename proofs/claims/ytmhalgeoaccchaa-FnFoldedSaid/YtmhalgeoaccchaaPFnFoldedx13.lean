-- Laid for this claim by wip/tools/print2.sh, a changed copy of the kit's print (wip/tools/patch_print.py): not by print.sh.
import Derived.Test.YtmhalgeoaccchaaPFnFoldedx0
import Derived.Test.YtmhalgeoaccchaaPFnFoldedx2
import Derived.Test.YtmhalgeoaccchaaPFnFoldedx3
import Derived.Test.YtmhalgeoaccchaaPFnFoldedx8
import Derived.Test.YtmhalgeoaccchaaPFnFoldedx9
import Derived.Test.YtmhalgeoaccchaaPFnFoldedx10
import Derived.Test.YtmhalgeoaccchaaPFnFoldedx11
import Derived.Test.YtmhalgeoaccchaaPFnFoldedx12
namespace Go.Proofs.Ytmhalgeoaccchaa.PFnFolded
open Go.RowKit Go.Proofs.YtmhalgeoaccchaaW.PrintWords Go.Proofs.YtmhalgeoaccchaaW.PrintLast Go.Proofs.YtmhalgeoaccchaaW.PrintMore
attribute [local go_sem] max2_int min2_int max_two min_two max_three min_three max_four min_four   -- for this text's walks alone
set_option linter.unusedVariables false
set_option linter.unusedSimpArgs false

/-! ### spec_ruEval: function 20 -/
def spec_ruEval.f (k : Nat) (l0 : List (S52)) (l1 : List Int) : Option (Int × Bool) := (spec_ruTree.f k l0).bind fun bt453 => ((spec_ruValue.f k l0 bt453.1 (wrap64 ((l0.length : Int) - 1)) l1).bind fun bt457 => (if bt457.2 = true then (some (bt457.1, true)) else (some (0, false))))
set_option maxHeartbeats 8000000 in
set_option maxRecDepth 100000 in
theorem spec_ruEval.calls (k : Nat) (A0 : Option Addr) (c0 : Nat) (l0 : List (S52)) (A1 : Option Addr) (c1 : Nat) (l1 : List Int) (r1 : Int) (r2 : Bool) (w : World) (hr0 : Kd.C k52 w A0 l0.length l0) (hc0 : l0.length ≤ c0) (hr1 : Kd.C (Kd.int .i64) w A1 l1.length l1) (hc1 : l1.length ≤ c1) (h : spec_ruEval.f k l0 l1 = some (r1, r2)) :
  Calls Try.prog 20 #[.slice A0 l0.length c0, .slice A1 l1.length c1] w fun e w' => e = .returned (.tuple #[.int .i64 r1, .bool r2]) ∧ Below w.heap.size w w' := by
 have HR0 := Aside0.mk hr0
 have HC0 := Aside0.mk hc0
 clear hr0 hc0
 have HR1 := Aside0.mk hr1
 have HC1 := Aside0.mk hc1
 clear hr1 hc1
 have HB := Aside0.mk (Below.refl w.heap.size w)
 have H : ((spec_ruTree.f k l0).bind fun bt453 => ((spec_ruValue.f k l0 bt453.1 (wrap64 ((l0.length : Int) - 1)) l1).bind fun bt457 => (if bt457.2 = true then (some (bt457.1, true)) else (some (0, false))))) = some (r1, r2) := h
 clear h
 replace H := Option.bind_eq_some_iff.mp H
 obtain ⟨⟨t453, t454⟩, A30, H⟩ := H
 replace H : ((spec_ruValue.f k l0 t453 (wrap64 ((l0.length : Int) - 1)) l1).bind fun bt457 => (if bt457.2 = true then (some (bt457.1, true)) else (some (0, false)))) = some (r1, r2) := H
 have A3 := Aside0.mk A30
 clear A30
 replace H := Option.bind_eq_some_iff.mp H
 obtain ⟨⟨t457, t458⟩, A40, H⟩ := H
 replace H : (if t458 = true then (some (t457, true)) else (some (0, false))) = some (r1, r2) := H
 have A4 := Aside0.mk A40
 clear A40
 by_cases c5 : t458 = true
 ·subst c5
  have H1 : (some (t457, true)) = some (r1, r2) := by rw [if_pos rfl] at H; exact H
  clear H
  have H := H1
  clear H1
  simp only [Option.some.injEq, Prod.mk.injEq] at H
  obtain ⟨rfl, rfl⟩ := H
  go_enter Try.func20, Try.ntmps20
  go_wp2_with (first | ((with_reducible refine gate_callee (f := 22) rfl ?_); refine gl_ (some 12) Try.func22 #[.slice A0 l0.length c0] rfl rfl rfl ?_; (with_reducible refine (spec_ruTree.calls k _ _ l0 t453 t454 _ ?side1 ?side2 A3.out).mono ?_); (case side1 => repeat (first | exact HR0.out | (with_reducible refine Kd.C_alloc ?_ _) | (with_reducible refine Kd.C_drewN ?_ _) | (with_reducible refine Kd.C_drew ?_))); (case side2 => exact HC0.out); rintro e w6 ⟨v455, rfl, ho0, hb⟩; refine ⟨_, rfl, ?_⟩; have HO456 := Aside0.mk (Kd.S_lower ho0 (below_size (hb_ HB))); replace HB := hbs_ HB hb; (try clear hb); (try clear hb2); (try clear hk); (try clear hi); (try clear ho0); obtain ⟨Ao7, co7, eo7⟩ := Kd.S_slice HO456.out; subst eo7) | ((with_reducible refine gate_callee (f := 33) rfl ?_); refine gl_ (some 22) Try.func33 #[.slice A0 l0.length c0, .slice Ao7 t453.length co7, .int .i64 (wrap64 ((l0.length : Int) - 1)), .slice A1 l1.length c1] rfl rfl rfl ?_; (with_reducible refine (spec_ruValue.calls k _ _ l0 _ _ t453 (wrap64 ((l0.length : Int) - 1)) _ _ l1 t457 true _ ?side1 ?side2 ?side3 ?side4 ?side5 ?side6 A4.out).mono ?_); (case side1 => exact Kd.C_w HR0 HB); (case side2 => exact HC0.out); (case side3 => repeat (first | exact (Kd.S_reads' HO456.out).2.2 | (with_reducible refine Kd.C_alloc ?_ _) | (with_reducible refine Kd.C_drewN ?_ _) | (with_reducible refine Kd.C_drew ?_))); (case side4 => exact (Kd.S_reads' HO456.out).2.1); (case side5 => exact Kd.C_w HR1 HB); (case side6 => exact HC1.out); rintro e w8 ⟨rfl, hb⟩; refine ⟨_, rfl, ?_⟩; replace HO456 := Aside0.mk (Kd.S_below (by (with_reducible repeat (first | apply Kd.S_alloc | apply Kd.S_drewN | apply Kd.S_drew)); exact HO456.out) hb); replace HB := hbs_ HB hb; (try clear hb); (try clear hb2); (try clear hk); (try clear hi)))
  go_ret2
  exact ⟨by first | rfl | (simp [errW_none, errW_some] <;> rfl) | (simp [*, errW_none, errW_some] <;> rfl), hb_ HB⟩
 ·replace c5 := Bool.eq_false_iff.mpr c5
  subst c5
  have H1 : (some (0, false)) = some (r1, r2) := by rw [if_neg (show ¬ (false = true) by decide)] at H; exact H
  clear H
  have H := H1
  clear H1
  simp only [Option.some.injEq, Prod.mk.injEq] at H
  obtain ⟨rfl, rfl⟩ := H
  go_enter Try.func20, Try.ntmps20
  go_wp2_with (first | ((with_reducible refine gate_callee (f := 22) rfl ?_); refine gl_ (some 12) Try.func22 #[.slice A0 l0.length c0] rfl rfl rfl ?_; (with_reducible refine (spec_ruTree.calls k _ _ l0 t453 t454 _ ?side1 ?side2 A3.out).mono ?_); (case side1 => repeat (first | exact HR0.out | (with_reducible refine Kd.C_alloc ?_ _) | (with_reducible refine Kd.C_drewN ?_ _) | (with_reducible refine Kd.C_drew ?_))); (case side2 => exact HC0.out); rintro e w9 ⟨v455, rfl, ho0, hb⟩; refine ⟨_, rfl, ?_⟩; have HO456 := Aside0.mk (Kd.S_lower ho0 (below_size (hb_ HB))); replace HB := hbs_ HB hb; (try clear hb); (try clear hb2); (try clear hk); (try clear hi); (try clear ho0); obtain ⟨Ao10, co10, eo10⟩ := Kd.S_slice HO456.out; subst eo10) | ((with_reducible refine gate_callee (f := 33) rfl ?_); refine gl_ (some 22) Try.func33 #[.slice A0 l0.length c0, .slice Ao10 t453.length co10, .int .i64 (wrap64 ((l0.length : Int) - 1)), .slice A1 l1.length c1] rfl rfl rfl ?_; (with_reducible refine (spec_ruValue.calls k _ _ l0 _ _ t453 (wrap64 ((l0.length : Int) - 1)) _ _ l1 t457 false _ ?side1 ?side2 ?side3 ?side4 ?side5 ?side6 A4.out).mono ?_); (case side1 => exact Kd.C_w HR0 HB); (case side2 => exact HC0.out); (case side3 => repeat (first | exact (Kd.S_reads' HO456.out).2.2 | (with_reducible refine Kd.C_alloc ?_ _) | (with_reducible refine Kd.C_drewN ?_ _) | (with_reducible refine Kd.C_drew ?_))); (case side4 => exact (Kd.S_reads' HO456.out).2.1); (case side5 => exact Kd.C_w HR1 HB); (case side6 => exact HC1.out); rintro e w11 ⟨rfl, hb⟩; refine ⟨_, rfl, ?_⟩; replace HO456 := Aside0.mk (Kd.S_below (by (with_reducible repeat (first | apply Kd.S_alloc | apply Kd.S_drewN | apply Kd.S_drew)); exact HO456.out) hb); replace HB := hbs_ HB hb; (try clear hb); (try clear hb2); (try clear hk); (try clear hi)))
  go_ret2
  exact ⟨by first | rfl | (simp [errW_none, errW_some] <;> rfl) | (simp [*, errW_none, errW_some] <;> rfl), hb_ HB⟩

/-! ### spec_EvalRule: function 6 -/
def spec_EvalRule.f (k : Nat) (l0 : List (S52)) (l1 : List Int) : Option (Int × Bool) := (spec_ruGood.f k l0).bind fun t459 => (if t459 = true then (if (l1.length : Int) = 5 then ((spec_l1All.f k l1 0 10000000).bind fun t460 => (if t460 = true then ((spec_ruEval.f k l0 l1).bind fun bt461 => (some (bt461.1, bt461.2))) else (some (0, false)))) else (some (0, false))) else (some (0, false)))
set_option maxHeartbeats 8000000 in
set_option maxRecDepth 100000 in
theorem spec_EvalRule.calls (k : Nat) (A0 : Option Addr) (c0 : Nat) (l0 : List (S52)) (A1 : Option Addr) (c1 : Nat) (l1 : List Int) (r1 : Int) (r2 : Bool) (w : World) (hr0 : Kd.C k52 w A0 l0.length l0) (hc0 : l0.length ≤ c0) (hr1 : Kd.C (Kd.int .i64) w A1 l1.length l1) (hc1 : l1.length ≤ c1) (h : spec_EvalRule.f k l0 l1 = some (r1, r2)) :
  Calls Try.prog 6 #[.slice A0 l0.length c0, .slice A1 l1.length c1] w fun e w' => e = .returned (.tuple #[.int .i64 r1, .bool r2]) ∧ Below w.heap.size w w' := by
 have HR0 := Aside0.mk hr0
 have HC0 := Aside0.mk hc0
 clear hr0 hc0
 have HR1 := Aside0.mk hr1
 have HC1 := Aside0.mk hc1
 clear hr1 hc1
 have HB := Aside0.mk (Below.refl w.heap.size w)
 have H : ((spec_ruGood.f k l0).bind fun t459 => (if t459 = true then (if (l1.length : Int) = 5 then ((spec_l1All.f k l1 0 10000000).bind fun t460 => (if t460 = true then ((spec_ruEval.f k l0 l1).bind fun bt461 => (some (bt461.1, bt461.2))) else (some (0, false)))) else (some (0, false))) else (some (0, false)))) = some (r1, r2) := h
 clear h
 replace H := Option.bind_eq_some_iff.mp H
 obtain ⟨t459, A30, H⟩ := H
 replace H : (if t459 = true then (if (l1.length : Int) = 5 then ((spec_l1All.f k l1 0 10000000).bind fun t460 => (if t460 = true then ((spec_ruEval.f k l0 l1).bind fun bt461 => (some (bt461.1, bt461.2))) else (some (0, false)))) else (some (0, false))) else (some (0, false))) = some (r1, r2) := H
 have A3 := Aside0.mk A30
 clear A30
 by_cases c4 : t459 = true
 ·subst c4
  have H1 : (if (l1.length : Int) = 5 then ((spec_l1All.f k l1 0 10000000).bind fun t460 => (if t460 = true then ((spec_ruEval.f k l0 l1).bind fun bt461 => (some (bt461.1, bt461.2))) else (some (0, false)))) else (some (0, false))) = some (r1, r2) := by rw [if_pos rfl] at H; exact H
  clear H
  have H := H1
  clear H1
  by_cases c5 : (l1.length : Int) = 5
  ·rw [if_pos c5] at H
   have c5b0 : ((l1.length : Int) == 5) = true := beq_iff_eq.mpr c5
   have c5b1 : ((l1.length : Int) != 5) = false := bne_eq_false_iff_eq.mpr c5
   clear c5
   replace H := Option.bind_eq_some_iff.mp H
   obtain ⟨t460, A60, H⟩ := H
   replace H : (if t460 = true then ((spec_ruEval.f k l0 l1).bind fun bt461 => (some (bt461.1, bt461.2))) else (some (0, false))) = some (r1, r2) := H
   have A6 := Aside0.mk A60
   clear A60
   by_cases c7 : t460 = true
   ·subst c7
    have H1 : ((spec_ruEval.f k l0 l1).bind fun bt461 => (some (bt461.1, bt461.2))) = some (r1, r2) := by rw [if_pos rfl] at H; exact H
    clear H
    have H := H1
    clear H1
    replace H := Option.bind_eq_some_iff.mp H
    obtain ⟨⟨t461, t462⟩, A80, H⟩ := H
    replace H : (some (t461, t462)) = some (r1, r2) := H
    have A8 := Aside0.mk A80
    clear A80
    simp only [Option.some.injEq, Prod.mk.injEq] at H
    obtain ⟨rfl, rfl⟩ := H
    go_enter Try.func6, Try.ntmps6
    go_wp2_with (first | ((with_reducible refine gate_callee (f := 18) rfl ?_); refine gl_ (some 7) Try.func18 #[.slice A0 l0.length c0] rfl rfl rfl ?_; (with_reducible refine (spec_ruGood.calls k _ _ l0 true _ ?side1 ?side2 A3.out).mono ?_); (case side1 => repeat (first | exact HR0.out | (with_reducible refine Kd.C_alloc ?_ _) | (with_reducible refine Kd.C_drewN ?_ _) | (with_reducible refine Kd.C_drew ?_))); (case side2 => exact HC0.out); rintro e w9 ⟨rfl, hb⟩; refine ⟨_, rfl, ?_⟩; replace HB := hbs_ HB hb; (try clear hb); (try clear hb2); (try clear hk); (try clear hi)) | (go_at_call 19; (with_reducible refine (spec_l1All.calls k _ _ l1 0 10000000 true _ ?side1 ?side2 A6.out).mono ?_); (case side1 => exact Kd.C_w HR1 HB); (case side2 => exact HC1.out); rintro e w' ⟨rfl, ⟨nd, rfl⟩⟩) | ((with_reducible refine gate_callee (f := 20) rfl ?_); refine gl_ (some 21) Try.func20 #[.slice A0 l0.length c0, .slice A1 l1.length c1] rfl rfl rfl ?_; (with_reducible refine (spec_ruEval.calls k _ _ l0 _ _ l1 t461 t462 _ ?side1 ?side2 ?side3 ?side4 A8.out).mono ?_); (case side1 => exact Kd.C_below HR0.out (hb_ HB)); (case side2 => exact HC0.out); (case side3 => exact Kd.C_below HR1.out (hb_ HB)); (case side4 => exact HC1.out); rintro e w10 ⟨rfl, hb⟩; refine ⟨_, rfl, ?_⟩; replace HB := hbs_ HB hb; (try clear hb); (try clear hb2); (try clear hk); (try clear hi)))
    go_ret2
    exact ⟨by first | rfl | (simp [errW_none, errW_some] <;> rfl) | (simp [*, errW_none, errW_some] <;> rfl), hb_ HB⟩
   ·replace c7 := Bool.eq_false_iff.mpr c7
    subst c7
    have H1 : (some (0, false)) = some (r1, r2) := by rw [if_neg (show ¬ (false = true) by decide)] at H; exact H
    clear H
    have H := H1
    clear H1
    simp only [Option.some.injEq, Prod.mk.injEq] at H
    obtain ⟨rfl, rfl⟩ := H
    go_enter Try.func6, Try.ntmps6
    go_wp2_with (first | ((with_reducible refine gate_callee (f := 18) rfl ?_); refine gl_ (some 7) Try.func18 #[.slice A0 l0.length c0] rfl rfl rfl ?_; (with_reducible refine (spec_ruGood.calls k _ _ l0 true _ ?side1 ?side2 A3.out).mono ?_); (case side1 => repeat (first | exact HR0.out | (with_reducible refine Kd.C_alloc ?_ _) | (with_reducible refine Kd.C_drewN ?_ _) | (with_reducible refine Kd.C_drew ?_))); (case side2 => exact HC0.out); rintro e w11 ⟨rfl, hb⟩; refine ⟨_, rfl, ?_⟩; replace HB := hbs_ HB hb; (try clear hb); (try clear hb2); (try clear hk); (try clear hi)) | (go_at_call 19; (with_reducible refine (spec_l1All.calls k _ _ l1 0 10000000 false _ ?side1 ?side2 A6.out).mono ?_); (case side1 => exact Kd.C_w HR1 HB); (case side2 => exact HC1.out); rintro e w' ⟨rfl, ⟨nd, rfl⟩⟩))
    go_ret2
    exact ⟨by first | rfl | (simp [errW_none, errW_some] <;> rfl) | (simp [*, errW_none, errW_some] <;> rfl), hb_ HB⟩
  ·rw [if_neg c5] at H
   have c5b0 : ((l1.length : Int) == 5) = false := beq_eq_false_iff_ne.mpr c5
   have c5b1 : ((l1.length : Int) != 5) = true := bne_iff_ne.mpr c5
   simp only [Option.some.injEq, Prod.mk.injEq] at H
   obtain ⟨rfl, rfl⟩ := H
   go_enter Try.func6, Try.ntmps6
   go_wp2_with (first | ((with_reducible refine gate_callee (f := 18) rfl ?_); refine gl_ (some 7) Try.func18 #[.slice A0 l0.length c0] rfl rfl rfl ?_; (with_reducible refine (spec_ruGood.calls k _ _ l0 true _ ?side1 ?side2 A3.out).mono ?_); (case side1 => repeat (first | exact HR0.out | (with_reducible refine Kd.C_alloc ?_ _) | (with_reducible refine Kd.C_drewN ?_ _) | (with_reducible refine Kd.C_drew ?_))); (case side2 => exact HC0.out); rintro e w12 ⟨rfl, hb⟩; refine ⟨_, rfl, ?_⟩; replace HB := hbs_ HB hb; (try clear hb); (try clear hb2); (try clear hk); (try clear hi)))
   go_ret2
   exact ⟨by first | rfl | (simp [errW_none, errW_some] <;> rfl) | (simp [*, errW_none, errW_some] <;> rfl), hb_ HB⟩
 ·replace c4 := Bool.eq_false_iff.mpr c4
  subst c4
  have H1 : (some (0, false)) = some (r1, r2) := by rw [if_neg (show ¬ (false = true) by decide)] at H; exact H
  clear H
  have H := H1
  clear H1
  simp only [Option.some.injEq, Prod.mk.injEq] at H
  obtain ⟨rfl, rfl⟩ := H
  go_enter Try.func6, Try.ntmps6
  go_wp2_with (first | ((with_reducible refine gate_callee (f := 18) rfl ?_); refine gl_ (some 7) Try.func18 #[.slice A0 l0.length c0] rfl rfl rfl ?_; (with_reducible refine (spec_ruGood.calls k _ _ l0 false _ ?side1 ?side2 A3.out).mono ?_); (case side1 => repeat (first | exact HR0.out | (with_reducible refine Kd.C_alloc ?_ _) | (with_reducible refine Kd.C_drewN ?_ _) | (with_reducible refine Kd.C_drew ?_))); (case side2 => exact HC0.out); rintro e w13 ⟨rfl, hb⟩; refine ⟨_, rfl, ?_⟩; replace HB := hbs_ HB hb; (try clear hb); (try clear hb2); (try clear hk); (try clear hi)))
  go_ret2
  exact ⟨by first | rfl | (simp [errW_none, errW_some] <;> rfl) | (simp [*, errW_none, errW_some] <;> rfl), hb_ HB⟩

/-! ### impl_foldPart: function 21 -/
mutual
def impl_foldPart.l0 : Nat → List (S52) → Int → Bool → List (S52) → Int → Int → Option ((List (S52)))
 | 0, _, _, _, _, _, _ => none
 | k + 1, x0, x1, x6, x24, x25, x26 => if x26 < x25 then (if 0 ≤ x26 then (if x26 < (x24.length : Int) then (if x6 = true then (impl_foldPart.l0 k x0 x1 (((rd_T52 x24 x26).f0) != 1) x24 x25 (wrap64 (x26 + 1))) else (impl_foldPart.l0 k x0 x1 false x24 x25 (wrap64 (x26 + 1)))) else (none)) else (none)) else (if x6 = true then (if 5 ≤ 35184372088832 then ((impl_evalPart.f k x0 x1 (List.replicate 5 0)).bind fun bt473 => (if bt473.2 = true then (if bt473.1 ≥ 0 then (if bt473.1 ≤ 1000000 then (some (([(⟨0, bt473.1⟩ : S52)] : List (S52)))) else (impl_foldPart.j1 k x0 x1)) else (impl_foldPart.j1 k x0 x1)) else (impl_foldPart.j1 k x0 x1))) else (none)) else (impl_foldPart.j1 k x0 x1))
def impl_foldPart.j1 : Nat → List (S52) → Int → Option ((List (S52)))
 | 0, _, _ => none
 | k + 1, x0, x1 => (impl_partNeeds.f k x0 x1).bind fun t481 => (impl_foldPart.l1 k x0 x1 (([] : List (S52))) t481 (t481.length : Int) 0)
def impl_foldPart.l1 : Nat → List (S52) → Int → List (S52) → List Int → Int → Int → Option ((List (S52)))
 | 0, _, _, _, _, _, _ => none
 | k + 1, x0, x1, x11, x60, x61, x62 => if x62 < x61 then (if 0 ≤ x62 then (if x62 < (x60.length : Int) then ((impl_foldPart.f k x0 (rd x60 x62)).bind fun t485 => (if x11.length + t485.length < 8796093022208 then (impl_foldPart.l1 k x0 x1 (x11 ++ t485) x60 x61 (wrap64 (x62 + 1))) else (none))) else (none)) else (none)) else (if 0 ≤ x1 then (if x1 < (x0.length : Int) then (if x11.length < 8796093022208 then (some (x11 ++ [(⟨(rd_T52 x0 x1).f0, (rd_T52 x0 x1).f1⟩ : S52)])) else (none)) else (none)) else (none))
def impl_foldPart.f : Nat → List (S52) → Int → Option ((List (S52)))
 | 0, _, _ => none
 | k + 1, l0, a1 => (impl_partSize.f k l0 a1).bind fun t463 => (if 0 ≤ (wrap64 ((wrap64 (a1 + 1)) - t463)) then (if (wrap64 ((wrap64 (a1 + 1)) - t463)) ≤ (wrap64 (a1 + 1)) then (if (wrap64 (a1 + 1)) ≤ (l0.length : Int) then ((some ((l0.take ((wrap64 (a1 + 1)) : Int).toNat).drop ((wrap64 ((wrap64 (a1 + 1)) - t463)) : Int).toNat : List (S52))).bind fun y464 => (impl_foldPart.l0 k l0 a1 true y464 (y464.length : Int) 0)) else (none)) else (none)) else (none))
end
set_option maxHeartbeats 8000000 in
set_option maxRecDepth 100000 in
theorem impl_foldPart.calls (k : Nat) : ∀ (A0 : Option Addr) (c0 : Nat) (l0 : List (S52)) (a1 : Int) (r : List (S52)) (w : World) (hr0 : Kd.C k52 w A0 l0.length l0) (hc0 : l0.length ≤ c0) (h : impl_foldPart.f k l0 a1 = some r),
  Calls Try.prog 21 #[.slice A0 l0.length c0, .int .i64 a1] w fun e w' => ∃ v0_ : Value, e = .returned (v0_) ∧ Kd.R k52 52 w' w.heap.size (fun _ => True) v0_ r ∧ Below w.heap.size w w' := by
 induction k using Nat.strongRecOn with
 | _ k ih =>
 intro A0 c0 l0 a1 r w hr0 hc0 h
 cases k with
 | zero => exact absurd h (by simp [impl_foldPart.f])
 | succ k =>
 simp only [impl_foldPart.f] at h
 have hu52 := Try.underlying52
 have HR0 := Aside0.mk hr0
 have HC0 := Aside0.mk hc0
 clear hr0 hc0
 have HB := Aside0.mk (Below.refl w.heap.size w)
 have H : ((impl_partSize.f k l0 a1).bind fun t463 => (if 0 ≤ (wrap64 ((wrap64 (a1 + 1)) - t463)) then (if (wrap64 ((wrap64 (a1 + 1)) - t463)) ≤ (wrap64 (a1 + 1)) then (if (wrap64 (a1 + 1)) ≤ (l0.length : Int) then ((some ((l0.take ((wrap64 (a1 + 1)) : Int).toNat).drop ((wrap64 ((wrap64 (a1 + 1)) - t463)) : Int).toNat : List (S52))).bind fun y464 => (impl_foldPart.l0 k l0 a1 true y464 (y464.length : Int) 0)) else (none)) else (none)) else (none))) = some r := h
 clear h
 replace H := Option.bind_eq_some_iff.mp H
 obtain ⟨t463, A30, H⟩ := H
 replace H : (if 0 ≤ (wrap64 ((wrap64 (a1 + 1)) - t463)) then (if (wrap64 ((wrap64 (a1 + 1)) - t463)) ≤ (wrap64 (a1 + 1)) then (if (wrap64 (a1 + 1)) ≤ (l0.length : Int) then ((some ((l0.take ((wrap64 (a1 + 1)) : Int).toNat).drop ((wrap64 ((wrap64 (a1 + 1)) - t463)) : Int).toNat : List (S52))).bind fun y464 => (impl_foldPart.l0 k l0 a1 true y464 (y464.length : Int) 0)) else (none)) else (none)) else (none)) = some r := H
 have A3 := Aside0.mk A30
 clear A30
 obtain ⟨ji4, hji4⟩ : ∃ j_ : Int, (wrap64 ((wrap64 (a1 + 1)) - t463)) = j_ := ⟨_, rfl⟩
 replace H : (if 0 ≤ (ji4) then (if (ji4) ≤ (wrap64 (a1 + 1)) then (if (wrap64 (a1 + 1)) ≤ (l0.length : Int) then ((some ((l0.take ((wrap64 (a1 + 1)) : Int).toNat).drop ((ji4) : Int).toNat : List (S52))).bind fun y464 => (impl_foldPart.l0 k l0 a1 true y464 (y464.length : Int) 0)) else (none)) else (none)) else (none)) = some r := by first | (rw [hji4] at H; exact H) | (simp only [hji4] at H ⊢; exact H)
 (try rw [hji4] at A3)
 have hji4w : (IntKind.i64.wrap ((wrap64 (a1 + 1)) - t463)) = ji4 := (i64_w _).trans hji4
 by_cases c5 : 0 ≤ (ji4)
 ·rw [if_pos c5] at H
  have c5b0 := eq_true c5
  have c5b1 : decide (0 ≤ (ji4)) = true := decide_eq_true c5
  clear c5
  by_cases c6 : (ji4) ≤ (wrap64 (a1 + 1))
  ·rw [if_pos c6] at H
   have c6b0 := eq_true c6
   have c6b1 : decide ((ji4) ≤ (wrap64 (a1 + 1))) = true := decide_eq_true c6
   by_cases c7 : (wrap64 (a1 + 1)) ≤ (l0.length : Int)
   ·rw [if_pos c7] at H
    have c7b0 := eq_true c7
    have c7b1 : decide ((wrap64 (a1 + 1)) ≤ (l0.length : Int)) = true := decide_eq_true c7
    obtain ⟨y464, hy464⟩ : ∃ y_ : List (S52), y_ = ((l0.take ((wrap64 (a1 + 1)) : Int).toNat).drop ((ji4) : Int).toNat) := ⟨_, rfl⟩
    replace H : (impl_foldPart.l0 k l0 a1 true y464 (y464.length : Int) 0) = some r := by first | (rw [hy464]; with_reducible exact H) | (have H2_ := (Option.bind_some _ _).symm.trans H; rw [hy464]; with_reducible exact H2_) | (have H2_ := (Option.bind_some _ _).symm.trans H; with_reducible exact H2_) | with_reducible exact H | (rw [hy464]; exact H) | exact H
    have Ny464 := Aside0.mk hy464
    clear hy464
    have H' := Aside0.mk H
    clear H
    go_enter Try.func21, Try.ntmps21
    go_wp2_with (first | ((with_reducible refine gate_callee (f := 34) rfl ?_); refine gl_ (some 19) Try.func34 #[.slice A0 l0.length c0, .int .i64 a1] rfl rfl rfl ?_; (with_reducible refine (impl_partSize.calls k _ _ l0 a1 t463 _ ?side1 ?side2 A3.out).mono ?_); (case side1 => repeat (first | exact HR0.out | (with_reducible refine Kd.C_alloc ?_ _) | (with_reducible refine Kd.C_drewN ?_ _) | (with_reducible refine Kd.C_drew ?_))); (case side2 => exact HC0.out); rintro e w' ⟨rfl, ⟨nd, rfl⟩⟩; refine ⟨_, rfl, ?_⟩; have q8 : ((wrap64 (a1 + 1)) : Int) ≤ ((l0.length : Int) : Int) := of_decide_eq_true (by first | (with_reducible assumption) | assumption); obtain ⟨i08, hi08, _, hsz8, _⟩ := info_parts info52; have hroom8 : l0.length ≤ c0 := HC0.out; have hC8 : Kd.C k52 _ A0 l0.length l0 := HR0.out; have ql8 : ((ji4) : Int) ≤ ((wrap64 (a1 + 1)) : Int) := of_decide_eq_true (by first | (with_reducible assumption) | assumption); have q08 : (0 : Int) ≤ ((ji4) : Int) := of_decide_eq_true (by first | (with_reducible assumption) | assumption); have hcut8 := cut_mid (P := Try.prog) 23 52 .i64 .i64 Try.underlying23 hi08 2 hsz8 A0 l0.length c0 (ji4) (wrap64 (a1 + 1)) q08 ql8 q8 hroom8; have hr8 := Kd.C_mid (lo := ((ji4) : Int).toNat) (hi := ((wrap64 (a1 + 1)) : Int).toNat) (c := c0) hC8 (by omega) (by omega) hroom8; obtain ⟨A8, hA8⟩ : ∃ A1, A1 = (if c0 = ((ji4) : Int).toNat then A0 else (A0 : Option Addr).map (·.add (((ji4) : Int).toNat * 2))) := ⟨_, rfl⟩; obtain ⟨c8, hc8⟩ : ∃ c1, c1 = c0 - ((ji4) : Int).toNat := ⟨_, rfl⟩; have hy8 : y464.length = ((wrap64 (a1 + 1)) : Int).toNat - ((ji4) : Int).toNat := (by rw [Ny464.out, List.length_drop, List.length_take] <;> omega); rw [show ((l0).take ((wrap64 (a1 + 1)) : Int).toNat).drop ((ji4) : Int).toNat = y464 from Ny464.out.symm] at hr8; replace hr8 : Kd.C k52 _ A8 y464.length y464 := (by rw [hA8]; exact hr8); rw [← hy8, ← hA8, ← hc8] at hcut8; have HR467 := Aside0.mk hr8; have HC467 := Aside0.mk (show y464.length ≤ c8 from by rw [hy8, hc8]; exact Nat.sub_le_sub_right (Nat.le_trans (by omega) hroom8) _); clear hr8 hC8 hroom8 hi08 hsz8 hc8; have KY8 := Aside0.mk hy8; have KA8 := Aside0.mk hA8; clear hy8 hA8; replace q8 := eq_true q8))
    go_loopg [6, 26] k (fun kq v6 v26 w' => ∃ (x6_1 : Bool) (x26_1 : Int), v6 = .bool x6_1 ∧ v26 = .int .i64 x26_1 ∧ Aside0 (impl_foldPart.l0 kq l0 a1 x6_1 y464 (y464.length : Int) x26_1 = some r) ∧ Aside0 (kq ≤ k) ∧ Aside0 (Below w.heap.size w w'))
    case atStart => exact ⟨(true), (0), (by first | rfl | (simp; done) | (simp [*]; done)), (by first | rfl | (simp; done) | (simp [*]; done)), H', ⟨Nat.le_refl _⟩, ⟨hb_ HB⟩⟩
    case round =>
     clear H'
     (try clear c1); (try clear c2); (try clear p2); (try clear c3); (try clear c5); (try clear c5b0); (try clear c5b1); (try clear c6); (try clear c6b0); (try clear c6b1); (try clear p6); (try clear c7); (try clear c7b0); (try clear c7b1); (try clear c8); (try clear q8); (try clear q08); (try clear q8)
     obtain ⟨x6_1, x26_1, rfl, rfl, HA, HK1, HB⟩ := hrel
     cases gk with
     | zero => exact absurd HA.out (by simp [impl_foldPart.l0])
     | succ k1 =>
      have H := HA.out
      clear HA
      simp only [impl_foldPart.l0] at H
      by_cases c9 : x26_1 < (y464.length : Int)
      ·rw [if_pos c9] at H
       have c9b0 : decide (x26_1 < (y464.length : Int)) = true := decide_eq_true c9
       clear c9
       by_cases c10 : 0 ≤ x26_1
       ·rw [if_pos c10] at H
        have c10b0 : decide (0 ≤ x26_1) = true := decide_eq_true c10
        clear c10
        by_cases c11 : x26_1 < (y464.length : Int)
        ·rw [if_pos c11] at H
         have c11b0 : decide (x26_1 < (y464.length : Int)) = true := decide_eq_true c11
         clear c11
         by_cases c12 : x6_1 = true
         ·subst c12
          have H1 : (impl_foldPart.l0 k1 l0 a1 (((rd_T52 y464 x26_1).f0) != 1) y464 (y464.length : Int) (wrap64 (x26_1 + 1))) = some r := by rw [if_pos rfl] at H; exact H
          clear H
          have H := H1
          clear H1
          have H' := Aside0.mk H
          clear H
          have p468 : 0 ≤ (x26_1 : Int) := of_decide_eq_true (by first | (with_reducible assumption) | assumption)
          have q468 : x26_1 < (y464.length : Int) := of_decide_eq_true (by first | (with_reducible assumption) | assumption)
          obtain ⟨ad468, e468, hx468_0, hx468_1⟩ := at_T52 HR467.out x26_1 p468 q468
          cases e468
          replace hx468_0 := (HB.out.cell (World.block_lt_of_cell? w _ hx468_0)).trans hx468_0
          replace hx468_1 := (HB.out.cell (World.block_lt_of_cell? w _ hx468_1)).trans hx468_1
          replace p468 := eq_true p468
          replace q468 := eq_true q468
          go_wp2_with (first | ((with_reducible refine gate_dst (N := 8) rfl ?_); refine box_event ?hg (N := 8) ?hd (cs := #[.int .i64 0, .int .i64 0]) (t := 52) ?hr ?_; (case hd => rfl); (case hg => rfl); (case hr => first | (go_simp; done) | (go_simp; rfl)); intro gb469 hg w13 hbox hb; have BK469 := Aside0.mk (hbox); have GW469 := gs_ hg HB; have GE469 := gs_ hg HB; replace HB := hbs_ HB hb; clear hb hbox hg; obtain ⟨hcz14_0, hcz14_1, hfz14_0, hfz14_1⟩ := bx2 BK469))
          go_roundg k1
          case measure => have := HK1.out; omega
          case rel => exact ⟨((((rd_T52 y464 x26_1).f0) != 1)), (wrap64 (x26_1 + 1)), (by first | rfl | (simp; done) | (simp [*]; done)), (by first | rfl | (simp; done) | (simp [*]; done)), H', ⟨by have := HK1.out; omega⟩, ⟨hb_ HB⟩⟩
         ·replace c12 := Bool.eq_false_iff.mpr c12
          subst c12
          have H1 : (impl_foldPart.l0 k1 l0 a1 false y464 (y464.length : Int) (wrap64 (x26_1 + 1))) = some r := by rw [if_neg (show ¬ (false = true) by decide)] at H; exact H
          clear H
          have H := H1
          clear H1
          have H' := Aside0.mk H
          clear H
          have p468 : 0 ≤ (x26_1 : Int) := of_decide_eq_true (by first | (with_reducible assumption) | assumption)
          have q468 : x26_1 < (y464.length : Int) := of_decide_eq_true (by first | (with_reducible assumption) | assumption)
          obtain ⟨ad468, e468, hx468_0, hx468_1⟩ := at_T52 HR467.out x26_1 p468 q468
          cases e468
          replace hx468_0 := (HB.out.cell (World.block_lt_of_cell? w _ hx468_0)).trans hx468_0
          replace hx468_1 := (HB.out.cell (World.block_lt_of_cell? w _ hx468_1)).trans hx468_1
          replace p468 := eq_true p468
          replace q468 := eq_true q468
          go_wp2_with (first | ((with_reducible refine gate_dst (N := 8) rfl ?_); refine box_event ?hg (N := 8) ?hd (cs := #[.int .i64 0, .int .i64 0]) (t := 52) ?hr ?_; (case hd => rfl); (case hg => rfl); (case hr => first | (go_simp; done) | (go_simp; rfl)); intro gb469 hg w15 hbox hb; have BK469 := Aside0.mk (hbox); have GW469 := gs_ hg HB; have GE469 := gs_ hg HB; replace HB := hbs_ HB hb; clear hb hbox hg; obtain ⟨hcz16_0, hcz16_1, hfz16_0, hfz16_1⟩ := bx2 BK469))
          go_roundg k1
          case measure => have := HK1.out; omega
          case rel => exact ⟨(false), (wrap64 (x26_1 + 1)), (by first | rfl | (simp; done) | (simp [*]; done)), (by first | rfl | (simp; done) | (simp [*]; done)), H', ⟨by have := HK1.out; omega⟩, ⟨hb_ HB⟩⟩
        ·rw [if_neg c11] at H
         exact absurd H (by simp)
       ·rw [if_neg c10] at H
        exact absurd H (by simp)
      ·rw [if_neg c9] at H
       have c9b0 : decide (x26_1 < (y464.length : Int)) = false := decide_eq_false c9
       clear c9
       have HC17 := Aside0.mk H
       clear H
       go_upto_if 37 with (fail)
       go_cut [] (fun wc => ∃ (kq : Nat), Aside0 (impl_foldPart.j1 kq l0 a1 = some r) ∧ Aside0 (kq ≤ k1) ∧ Aside0 (Below w.heap.size w wc))
       case first =>
        have H := HC17.out
        clear HC17
        by_cases c18 : x6_1 = true
        ·subst c18
         have H1 : (if 5 ≤ 35184372088832 then ((impl_evalPart.f k1 l0 a1 (List.replicate 5 0)).bind fun bt473 => (if bt473.2 = true then (if bt473.1 ≥ 0 then (if bt473.1 ≤ 1000000 then (some (([(⟨0, bt473.1⟩ : S52)] : List (S52)))) else (impl_foldPart.j1 k1 l0 a1)) else (impl_foldPart.j1 k1 l0 a1)) else (impl_foldPart.j1 k1 l0 a1))) else (none)) = some r := by rw [if_pos rfl] at H; exact H
         clear H
         have H := H1
         clear H1
         by_cases c19 : 5 ≤ 35184372088832
         ·rw [if_pos c19] at H
          have c19b0 := eq_true c19
          have c19b1 : decide (5 ≤ 35184372088832) = true := decide_eq_true c19
          clear c19
          obtain ⟨y470, hy470⟩ : ∃ y_ : List Int, y_ = (List.replicate 5 0) := ⟨_, rfl⟩
          replace H : ((impl_evalPart.f k1 l0 a1 y470).bind fun bt473 => (if bt473.2 = true then (if bt473.1 ≥ 0 then (if bt473.1 ≤ 1000000 then (some (([(⟨0, bt473.1⟩ : S52)] : List (S52)))) else (impl_foldPart.j1 k1 l0 a1)) else (impl_foldPart.j1 k1 l0 a1)) else (impl_foldPart.j1 k1 l0 a1))) = some r := by first | (rw [hy470]; with_reducible exact H) | (have H2_ := (Option.bind_some _ _).symm.trans H; rw [hy470]; with_reducible exact H2_) | (have H2_ := (Option.bind_some _ _).symm.trans H; with_reducible exact H2_) | with_reducible exact H | (rw [hy470]; exact H) | exact H
          have Ny470 := Aside0.mk hy470
          clear hy470
          replace H := Option.bind_eq_some_iff.mp H
          obtain ⟨⟨t473, t474⟩, A200, H⟩ := H
          replace H : (if t474 = true then (if t473 ≥ 0 then (if t473 ≤ 1000000 then (some (([(⟨0, t473⟩ : S52)] : List (S52)))) else (impl_foldPart.j1 k1 l0 a1)) else (impl_foldPart.j1 k1 l0 a1)) else (impl_foldPart.j1 k1 l0 a1)) = some r := H
          have A20 := Aside0.mk A200
          clear A200
          by_cases c21 : t474 = true
          ·subst c21
           have H1 : (if t473 ≥ 0 then (if t473 ≤ 1000000 then (some (([(⟨0, t473⟩ : S52)] : List (S52)))) else (impl_foldPart.j1 k1 l0 a1)) else (impl_foldPart.j1 k1 l0 a1)) = some r := by rw [if_pos rfl] at H; exact H
           clear H
           have H := H1
           clear H1
           by_cases c22 : t473 ≥ 0
           ·rw [if_pos c22] at H
            have c22b0 : decide (0 ≤ t473) = true := decide_eq_true c22
            clear c22
            (first | rw [c22b0] | (simp only [i64_w, i32_w]; rw [c22b0]) | skip)
            by_cases c23 : t473 ≤ 1000000
            ·rw [if_pos c23] at H
             have c23b0 : decide (t473 ≤ 1000000) = true := decide_eq_true c23
             clear c23
             obtain ⟨y475, hy475⟩ : ∃ y_ : List (S52), y_ = (([(⟨0, t473⟩ : S52)] : List (S52))) := ⟨_, rfl⟩
             replace H : (some y475) = some r := by first | (rw [hy475]; with_reducible exact H) | (have H2_ := (Option.bind_some _ _).symm.trans H; rw [hy475]; with_reducible exact H2_) | (have H2_ := (Option.bind_some _ _).symm.trans H; with_reducible exact H2_) | with_reducible exact H | (rw [hy475]; exact H) | exact H
             have Ny475 := Aside0.mk hy475
             clear hy475
             obtain rfl := Option.some.inj H
             go_wp2_with (first | ((with_reducible refine gate_dst (N := 41) rfl ?_); refine Kd.R_make (Kd.int .i64) _ 3 rfl (N := 41) rfl 24 _ _ rfl 5 rfl rfl Try.underlying24 (.int .i64 0) 8 info3 rfl (by decide) (by omega) 0 (ok := fun _ => True) (okp := fun _ => True) rfl (fun _ hk => hk) trivial (by omega) (by omega) (Below.refl _ _) (Nat.le_refl _) ?_; intro v471 w24 ho25 hb hg_ hnew_; clear hg_ hnew_; (first | rw [← Ny470.out] at ho25 | (simp only [Int.reduceToNat] at ho25; rw [← Ny470.out] at ho25)); have HO472 := Kd.R_lo ho25 HB; replace HB := hbs_ HB hb; clear hb ho25; obtain ⟨Ao26, co26, eo26⟩ := Kd.R_slice HO472.out; subst eo26) | ((with_reducible refine gate_callee (f := 17) rfl ?_); refine gl_ (some 42) Try.func17 #[.slice A0 l0.length c0, .int .i64 a1, .slice Ao26 y470.length co26] rfl rfl rfl ?_; (with_reducible refine (impl_evalPart.calls k1 _ _ l0 a1 _ _ y470 t473 true _ ?side1 ?side2 ?side3 ?side4 A20.out).mono ?_); (case side1 => exact Kd.C_w HR0 HB); (case side2 => exact HC0.out); (case side3 => exact Kd.C_o HO472); (case side4 => exact (Kd.R_reads' HO472.out).2.1); rintro e w27 ⟨rfl, hb⟩; refine ⟨_, rfl, ?_⟩; replace HO472 := Kd.R_b HO472 hb; replace HB := hbs_ HB hb; (try clear hb); (try clear hb2); (try clear hk); (try clear hi); try clear HO472) | ((with_reducible refine gate_dst (N := 56) rfl ?_); refine Kd.R_lit k52 _ 52 ?hg (N := 56) ?hd (xs := ([(⟨0, t473⟩ : S52)] : List (S52))) (inner := [.int .i64 0, .int .i64 t473]) (ok := fun _ => True) (okp := fun _ => True) ?hr ?hp (fun _ hk => hk) trivial (Below.refl _ _) (Nat.le_refl _) (by simp) ?_; (case hd => rfl); (case hg => rfl); (case hr => first | (go_simp; done) | (go_simp; rfl)); (case hp => exact (Reps.c2 (show Kd.M k52 _ _ _ (⟨0, t473⟩ : S52) [.int .i64 0, .int .i64 t473] from (k52_mkM _ _ _ (⟨0, t473⟩ : S52) )) (Reps.none _ _))); intro v476 w28 ho29 hb hg_ hnew_; clear hg_ hnew_; (first | rw [← Ny475.out] at ho29 | (simp only [Int.reduceToNat] at ho29; rw [← Ny475.out] at ho29)); have HO477 := Kd.R_lo ho29 HB; replace HB := hbs_ HB hb; clear hb ho29))
             go_ret
             exact ⟨_, by first | rfl | (simp [errW_none, errW_some] <;> rfl) | (simp only [← hji4]; first | rfl | (simp [errW_none, errW_some] <;> rfl)) | (simp [*, errW_none, errW_some] <;> rfl), Kd.R_p HO477, hb_ HB⟩
            ·rw [if_neg c23] at H
             have c23b0 : decide (t473 ≤ 1000000) = false := decide_eq_false c23
             clear c23
             have H' := Aside0.mk H
             clear H
             go_wp2_with (first | ((with_reducible refine gate_dst (N := 41) rfl ?_); refine Kd.R_make (Kd.int .i64) _ 3 rfl (N := 41) rfl 24 _ _ rfl 5 rfl rfl Try.underlying24 (.int .i64 0) 8 info3 rfl (by decide) (by omega) 0 (ok := fun _ => True) (okp := fun _ => True) rfl (fun _ hk => hk) trivial (by omega) (by omega) (Below.refl _ _) (Nat.le_refl _) ?_; intro v471 w30 ho31 hb hg_ hnew_; clear hg_ hnew_; (first | rw [← Ny470.out] at ho31 | (simp only [Int.reduceToNat] at ho31; rw [← Ny470.out] at ho31)); have HO472 := Kd.R_lo ho31 HB; replace HB := hbs_ HB hb; clear hb ho31; obtain ⟨Ao32, co32, eo32⟩ := Kd.R_slice HO472.out; subst eo32) | ((with_reducible refine gate_callee (f := 17) rfl ?_); refine gl_ (some 42) Try.func17 #[.slice A0 l0.length c0, .int .i64 a1, .slice Ao32 y470.length co32] rfl rfl rfl ?_; (with_reducible refine (impl_evalPart.calls k1 _ _ l0 a1 _ _ y470 t473 true _ ?side1 ?side2 ?side3 ?side4 A20.out).mono ?_); (case side1 => exact Kd.C_w HR0 HB); (case side2 => exact HC0.out); (case side3 => exact Kd.C_o HO472); (case side4 => exact (Kd.R_reads' HO472.out).2.1); rintro e w33 ⟨rfl, hb⟩; refine ⟨_, rfl, ?_⟩; replace HO472 := Kd.R_b HO472 hb; replace HB := hbs_ HB hb; (try clear hb); (try clear hb2); (try clear hk); (try clear hi)))
             go_meet
             case rel => exact ⟨_, H', ⟨by have := HK1.out; first | omega | exact Nat.le_refl _⟩, ⟨hb_ HB⟩⟩
           ·rw [if_neg c22] at H
            have c22b0 : decide (0 ≤ t473) = false := decide_eq_false c22
            clear c22
            (first | rw [c22b0] | (simp only [i64_w, i32_w]; rw [c22b0]) | skip)
            have H' := Aside0.mk H
            clear H
            go_wp2_with (first | ((with_reducible refine gate_dst (N := 41) rfl ?_); refine Kd.R_make (Kd.int .i64) _ 3 rfl (N := 41) rfl 24 _ _ rfl 5 rfl rfl Try.underlying24 (.int .i64 0) 8 info3 rfl (by decide) (by omega) 0 (ok := fun _ => True) (okp := fun _ => True) rfl (fun _ hk => hk) trivial (by omega) (by omega) (Below.refl _ _) (Nat.le_refl _) ?_; intro v471 w34 ho35 hb hg_ hnew_; clear hg_ hnew_; (first | rw [← Ny470.out] at ho35 | (simp only [Int.reduceToNat] at ho35; rw [← Ny470.out] at ho35)); have HO472 := Kd.R_lo ho35 HB; replace HB := hbs_ HB hb; clear hb ho35; obtain ⟨Ao36, co36, eo36⟩ := Kd.R_slice HO472.out; subst eo36) | ((with_reducible refine gate_callee (f := 17) rfl ?_); refine gl_ (some 42) Try.func17 #[.slice A0 l0.length c0, .int .i64 a1, .slice Ao36 y470.length co36] rfl rfl rfl ?_; (with_reducible refine (impl_evalPart.calls k1 _ _ l0 a1 _ _ y470 t473 true _ ?side1 ?side2 ?side3 ?side4 A20.out).mono ?_); (case side1 => exact Kd.C_w HR0 HB); (case side2 => exact HC0.out); (case side3 => exact Kd.C_o HO472); (case side4 => exact (Kd.R_reads' HO472.out).2.1); rintro e w37 ⟨rfl, hb⟩; refine ⟨_, rfl, ?_⟩; replace HO472 := Kd.R_b HO472 hb; replace HB := hbs_ HB hb; (try clear hb); (try clear hb2); (try clear hk); (try clear hi)))
            go_meet
            case rel => exact ⟨_, H', ⟨by have := HK1.out; first | omega | exact Nat.le_refl _⟩, ⟨hb_ HB⟩⟩
          ·replace c21 := Bool.eq_false_iff.mpr c21
           subst c21
           have H1 : (impl_foldPart.j1 k1 l0 a1) = some r := by rw [if_neg (show ¬ (false = true) by decide)] at H; exact H
           clear H
           have H := H1
           clear H1
           have H' := Aside0.mk H
           clear H
           go_wp2_with (first | ((with_reducible refine gate_dst (N := 41) rfl ?_); refine Kd.R_make (Kd.int .i64) _ 3 rfl (N := 41) rfl 24 _ _ rfl 5 rfl rfl Try.underlying24 (.int .i64 0) 8 info3 rfl (by decide) (by omega) 0 (ok := fun _ => True) (okp := fun _ => True) rfl (fun _ hk => hk) trivial (by omega) (by omega) (Below.refl _ _) (Nat.le_refl _) ?_; intro v471 w38 ho39 hb hg_ hnew_; clear hg_ hnew_; (first | rw [← Ny470.out] at ho39 | (simp only [Int.reduceToNat] at ho39; rw [← Ny470.out] at ho39)); have HO472 := Kd.R_lo ho39 HB; replace HB := hbs_ HB hb; clear hb ho39; obtain ⟨Ao40, co40, eo40⟩ := Kd.R_slice HO472.out; subst eo40) | ((with_reducible refine gate_callee (f := 17) rfl ?_); refine gl_ (some 42) Try.func17 #[.slice A0 l0.length c0, .int .i64 a1, .slice Ao40 y470.length co40] rfl rfl rfl ?_; (with_reducible refine (impl_evalPart.calls k1 _ _ l0 a1 _ _ y470 t473 false _ ?side1 ?side2 ?side3 ?side4 A20.out).mono ?_); (case side1 => exact Kd.C_w HR0 HB); (case side2 => exact HC0.out); (case side3 => exact Kd.C_o HO472); (case side4 => exact (Kd.R_reads' HO472.out).2.1); rintro e w41 ⟨rfl, hb⟩; refine ⟨_, rfl, ?_⟩; replace HO472 := Kd.R_b HO472 hb; replace HB := hbs_ HB hb; (try clear hb); (try clear hb2); (try clear hk); (try clear hi)))
           go_meet
           case rel => exact ⟨_, H', ⟨by have := HK1.out; first | omega | exact Nat.le_refl _⟩, ⟨hb_ HB⟩⟩
         ·rw [if_neg c19] at H
          exact absurd H (by simp)
        ·replace c18 := Bool.eq_false_iff.mpr c18
         subst c18
         have H1 : (impl_foldPart.j1 k1 l0 a1) = some r := by rw [if_neg (show ¬ (false = true) by decide)] at H; exact H
         clear H
         have H := H1
         clear H1
         have H' := Aside0.mk H
         clear H
         go_wp2
         go_meet
         case rel => exact ⟨_, H', ⟨by have := HK1.out; first | omega | exact Nat.le_refl _⟩, ⟨hb_ HB⟩⟩
       case rest =>
        clear HC17
        (try clear c1); (try clear c2); (try clear p2); (try clear c3); (try clear p4); (try clear q4); (try clear hx4); (try clear c5); (try clear c5b0); (try clear c5b1); (try clear c6); (try clear c6b0); (try clear c6b1); (try clear p6); (try clear c7); (try clear c7b0); (try clear c7b1); (try clear c8); (try clear q8); (try clear c9); (try clear c9b0); (try clear c10); (try clear c10b0); (try clear c11); (try clear c11b0); (try clear c12); (try clear c17); (try clear c18); (try clear c19); (try clear c19b0); (try clear c19b1); (try clear c21); (try clear c22); (try clear c22b0); (try clear c23); (try clear c23b0); (try clear c34)
        obtain ⟨kq, HA, HJ16, HB⟩ := hcut
        cases kq with
        | zero => exact absurd HA.out (by simp [impl_foldPart.j1])
        | succ kj16 =>
         have H := HA.out
         clear HA
         simp only [impl_foldPart.j1] at H
         obtain ⟨y478, hy478⟩ : ∃ y_ : List (S52), y_ = (([] : List (S52))) := ⟨_, rfl⟩
         replace H : ((impl_partNeeds.f kj16 l0 a1).bind fun t481 => (impl_foldPart.l1 kj16 l0 a1 y478 t481 (t481.length : Int) 0)) = some r := by first | (rw [hy478]; with_reducible exact H) | (have H2_ := (Option.bind_some _ _).symm.trans H; rw [hy478]; with_reducible exact H2_) | (have H2_ := (Option.bind_some _ _).symm.trans H; with_reducible exact H2_) | with_reducible exact H | (rw [hy478]; exact H) | exact H
         have Ny478 := Aside0.mk hy478
         clear hy478
         replace H := Option.bind_eq_some_iff.mp H
         obtain ⟨t481, A420, H⟩ := H
         replace H : (impl_foldPart.l1 kj16 l0 a1 y478 t481 (t481.length : Int) 0) = some r := H
         have A42 := Aside0.mk A420
         clear A420
         have H' := Aside0.mk H
         clear H
         go_wp2_with (first | ((with_reducible refine gate_dst (N := 57) rfl ?_); refine Kd.R_lit k52 _ 52 ?hg (N := 57) ?hd (xs := ([] : List (S52))) (inner := []) (ok := fun _ => True) (okp := fun _ => True) ?hr ?hp (fun _ hk => hk) trivial (Below.refl _ _) (Nat.le_refl _) (by simp) ?_; (case hd => rfl); (case hg => rfl); (case hr => first | (go_simp; done) | (go_simp; rfl)); (case hp => exact (Reps.none _ _)); intro v479 w43 ho44 hb hg_ hnew_; clear hg_ hnew_; (first | rw [← Ny478.out] at ho44 | (simp only [Int.reduceToNat] at ho44; rw [← Ny478.out] at ho44)); have HO480 := Kd.R_lo ho44 HB; replace HB := hbs_ HB hb; clear hb ho44) | ((with_reducible refine gate_callee (f := 29) rfl ?_); refine gl_ (some 60) Try.func29 #[.slice A0 l0.length c0, .int .i64 a1] rfl rfl rfl ?_; (with_reducible refine (impl_partNeeds.calls kj16 _ _ l0 a1 t481 _ ?side1 ?side2 A42.out).mono ?_); (case side1 => exact Kd.C_w HR0 HB); (case side2 => exact HC0.out); rintro e w45 ⟨v482, rfl, ho0, hb⟩; refine ⟨_, rfl, ?_⟩; have HO483 := Kd.R_lo ho0 HB; replace HO480 := Kd.R_b HO480 hb; replace HB := hbs_ HB hb; (try clear hb); (try clear hb2); (try clear hk); (try clear hi); (try clear ho0); obtain ⟨Ao46, co46, eo46⟩ := Kd.R_slice HO483.out; subst eo46))
         go_loopg [11, 62] kj16 (fun kq v11 v62 w' => ∃ (x11_3 : List (S52)) (x62_3 : Int), v62 = .int .i64 x62_3 ∧ Aside0 (impl_foldPart.l1 kq l0 a1 x11_3 t481 (t481.length : Int) x62_3 = some r) ∧ Aside0 (kq ≤ kj16) ∧ Aside0 (Kd.R k52 52 w' w.heap.size (fun _ => True) v11 x11_3) ∧ Aside0 (Kd.R (Kd.int .i64) 3 w' w.heap.size (fun _ => True) (.slice Ao46 t481.length co46) t481) ∧ Aside0 (Below w.heap.size w w'))
         case atStart => exact ⟨(y478), (0), (by first | rfl | (simp; done) | (simp [*]; done)), H', ⟨Nat.le_refl _⟩, ⟨Kd.R_p HO480⟩, ⟨Kd.R_p HO483⟩, ⟨hb_ HB⟩⟩
         case round =>
          clear H'
          (try clear c1); (try clear c2); (try clear p2); (try clear c3); (try clear p4); (try clear q4); (try clear hx4); (try clear c5); (try clear c5b0); (try clear c5b1); (try clear c6); (try clear c6b0); (try clear c6b1); (try clear p6); (try clear c7); (try clear c7b0); (try clear c7b1); (try clear c8); (try clear q8); (try clear c9); (try clear c9b0); (try clear c10); (try clear c10b0); (try clear c11); (try clear c11b0); (try clear c12); (try clear c17); (try clear c18); (try clear c19); (try clear c19b0); (try clear c19b1); (try clear c21); (try clear c22); (try clear c22b0); (try clear c23); (try clear c23b0); (try clear c29); (try clear c34); (try clear p46); (try clear q46); (try clear hx46)
          obtain ⟨x11_3, x62_3, rfl, HA, HK3, HO_11, HO_60, HB⟩ := hrel
          cases gk with
          | zero => exact absurd HA.out (by simp [impl_foldPart.l1])
          | succ k3 =>
           have H := HA.out
           clear HA
           simp only [impl_foldPart.l1] at H
           by_cases c47 : x62_3 < (t481.length : Int)
           ·rw [if_pos c47] at H
            have c47b0 : decide (x62_3 < (t481.length : Int)) = true := decide_eq_true c47
            clear c47
            by_cases c48 : 0 ≤ x62_3
            ·rw [if_pos c48] at H
             have c48b0 : decide (0 ≤ x62_3) = true := decide_eq_true c48
             clear c48
             by_cases c49 : x62_3 < (t481.length : Int)
             ·rw [if_pos c49] at H
              have c49b0 : decide (x62_3 < (t481.length : Int)) = true := decide_eq_true c49
              clear c49
              replace H := Option.bind_eq_some_iff.mp H
              obtain ⟨t485, A500, H⟩ := H
              replace H : (if x11_3.length + t485.length < 8796093022208 then (impl_foldPart.l1 k3 l0 a1 (x11_3 ++ t485) t481 (t481.length : Int) (wrap64 (x62_3 + 1))) else (none)) = some r := H
              have A50 := Aside0.mk A500
              clear A500
              by_cases c51 : x11_3.length + t485.length < 8796093022208
              ·rw [if_pos c51] at H
               have LMc51 := Aside0.mk c51
               clear c51
               obtain ⟨y488, hy488⟩ : ∃ y_ : List (S52), y_ = (x11_3 ++ t485) := ⟨_, rfl⟩
               replace H : (impl_foldPart.l1 k3 l0 a1 y488 t481 (t481.length : Int) (wrap64 (x62_3 + 1))) = some r := by first | (rw [hy488]; with_reducible exact H) | (have H2_ := (Option.bind_some _ _).symm.trans H; rw [hy488]; with_reducible exact H2_) | (have H2_ := (Option.bind_some _ _).symm.trans H; with_reducible exact H2_) | with_reducible exact H | (rw [hy488]; exact H) | exact H
               have Ny488 := Aside0.mk hy488
               clear hy488
               have H' := Aside0.mk H
               clear H
               have p484 : 0 ≤ (x62_3 : Int) := of_decide_eq_true (by first | (with_reducible assumption) | assumption)
               have q484 : x62_3 < (t481.length : Int) := of_decide_eq_true (by first | (with_reducible assumption) | assumption)
               obtain ⟨ad484, e484, hx484_0⟩ := Kd.at_int (Kd.R_reads' HO_60.out).2.2 x62_3 p484 q484
               cases e484
               replace p484 := eq_true p484
               replace q484 := eq_true q484
               go_wp2_with (first | ((with_reducible refine gate_callee (f := 21) rfl ?_); refine gl_ (some 69) Try.func21 #[.slice A0 l0.length c0, .int .i64 (rd t481 x62_3)] rfl rfl rfl ?_; (with_reducible refine (ih k3 (by have := HK1.out; have := HJ16.out; have := HK3.out; omega) _ _ l0 (rd t481 x62_3) t485 _ ?side1 ?side2 A50.out).mono ?_); (case side1 => exact Kd.C_w HR0 HB); (case side2 => exact HC0.out); rintro e w52 ⟨v486, rfl, ho0, hb⟩; refine ⟨_, rfl, ?_⟩; have HO487 := Kd.R_lo (Kd.R_nw ho0 HO_11) HB; replace HO_11 := Kd.R_e HO_11 ho0 hb; replace HO_60 := Kd.R_b HO_60 hb; replace HB := hbs_ HB hb; (try clear hb); (try clear hb2); (try clear hk); (try clear hi); (try clear ho0); obtain ⟨Ao54, co54, eo54⟩ := Kd.R_slice HO487.out; subst eo54) | ((with_reducible refine gate_builtin (b := .append) (xs := #[.tmp 66, .tmp 69]) rfl ?_); at_builtin; refine Kd.R_append_rows k52 (w0 := w) w.heap.size rfl (.tmp 66) (.tmp 69) 23 52 (.agg #[(.int .i64 0), (.int .i64 0)]) 16 rfl Try.underlying23 info52 rfl (by decide) (by omega) u11 x11_3 t485 _ _ _ (fun k_ => some k_ ≠ (.slice Ao54 t485.length co54 : Value).ownBlock) (fun _ => False) rfl rfl ?aO ?aR (fun _ _ h => h) (fun _ h => h.elim) ?aF ?aB ?aS ?aL ?_; (case aR => exact Kd.C_o HO487); (case aB => exact (hb_ HB)); (case aF => exact (fun k_ hk => Kd.fresh' (Kd.R_lt (Kd.R_p HO487)) k_ hk)); (case aO => exact (Kd.R_pp (Kd.R_mono HO_11.out (fun _ hk => hk.2)))); (case aS => exact (below_size (hb_ HB))); (case aL => have := LMc51.out; omega); intro v489 w53 ho hb hg hat; rw [← Ny488.out] at ho; have HO490 := Aside0.mk (ho); replace HO_60 := Aside0.mk (Kd.R_over' (Kd.R_p HO_60) (Kd.R_typed (Kd.R_p HO_11)) (by decide) hg); replace HO487 := Aside0.mk (Kd.R_after (ok := (fun _ => True)) (Kd.R_p HO487) hg hat); replace HB := Aside0.mk (hb); clear HO_11; clear ho hb hg hat))
               go_roundg k3
               case measure => have := HK1.out; have := HJ16.out; have := HK3.out; omega
               case rel => exact ⟨(y488), (wrap64 (x62_3 + 1)), (by first | rfl | (simp; done) | (simp [*]; done)), H', ⟨by have := HK1.out; have := HJ16.out; have := HK3.out; omega⟩, ⟨Kd.R_pp (Kd.R_mono HO490.out (fun _ hk => trivial))⟩, ⟨Kd.R_p HO_60⟩, ⟨hb_ HB⟩⟩
              ·rw [if_neg c51] at H
               exact absurd H (by simp)
             ·rw [if_neg c49] at H
              exact absurd H (by simp)
            ·rw [if_neg c48] at H
             exact absurd H (by simp)
           ·rw [if_neg c47] at H
            have c47b0 : decide (x62_3 < (t481.length : Int)) = false := decide_eq_false c47
            clear c47
            by_cases c55 : 0 ≤ a1
            ·rw [if_pos c55] at H
             have c55b0 : decide (0 ≤ a1) = true := decide_eq_true c55
             clear c55
             by_cases c56 : a1 < (l0.length : Int)
             ·rw [if_pos c56] at H
              have c56b0 : decide (a1 < (l0.length : Int)) = true := decide_eq_true c56
              clear c56
              by_cases c57 : x11_3.length < 8796093022208
              ·rw [if_pos c57] at H
               have LMc57 := Aside0.mk c57
               clear c57
               obtain ⟨y492, hy492⟩ : ∃ y_ : List (S52), y_ = (x11_3 ++ [(⟨(rd_T52 l0 a1).f0, (rd_T52 l0 a1).f1⟩ : S52)]) := ⟨_, rfl⟩
               replace H : (some y492) = some r := by first | (rw [hy492]; with_reducible exact H) | (have H2_ := (Option.bind_some _ _).symm.trans H; rw [hy492]; with_reducible exact H2_) | (have H2_ := (Option.bind_some _ _).symm.trans H; with_reducible exact H2_) | with_reducible exact H | (rw [hy492]; exact H) | exact H
               have Ny492 := Aside0.mk hy492
               clear hy492
               obtain rfl := Option.some.inj H
               have p491 : 0 ≤ (a1 : Int) := of_decide_eq_true (by first | (with_reducible assumption) | assumption)
               have q491 : a1 < (l0.length : Int) := of_decide_eq_true (by first | (with_reducible assumption) | assumption)
               obtain ⟨ad491, e491, hx491_0, hx491_1⟩ := at_T52 HR0.out a1 p491 q491
               cases e491
               replace hx491_0 := (HB.out.cell (World.block_lt_of_cell? w _ hx491_0)).trans hx491_0
               replace hx491_1 := (HB.out.cell (World.block_lt_of_cell? w _ hx491_1)).trans hx491_1
               replace p491 := eq_true p491
               replace q491 := eq_true q491
               go_wp2_with (first | ((with_reducible refine gate_builtin (b := .append) (xs := #[.tmp 72, .tmp 77]) rfl ?_); at_builtin; refine Kd.R_append k52 (w0 := w) w.heap.size rfl (.tmp 72) (.tmp 77) 23 52 (.agg #[(.int .i64 0), (.int .i64 0)]) 16 rfl Try.underlying23 info52 rfl (by decide) (by omega) u11 x11_3 (⟨(rd_T52 l0 a1).f0, (rd_T52 l0 a1).f1⟩ : S52) [.int .i64 ((rd_T52 l0 a1).f0), .int .i64 ((rd_T52 l0 a1).f1)] (fun _ => True) (fun _ => False) rfl rfl ?aP (fun _ hk => hk.elim) ?aF ?aO ?aB ?aS ?aL ?_; (case aP => exact k52_mkM _ _ _ (⟨(rd_T52 l0 a1).f0, (rd_T52 l0 a1).f1⟩ : S52)); (case aB => exact (hb_ HB)); (case aF => exact (fun _ _ => trivial)); (case aO => exact (Kd.R_p HO_11)); (case aS => exact (below_size (hb_ HB))); (case aL => have := LMc57.out; omega); intro v493 w58 ho hb hg hat; rw [← Ny492.out] at ho; have HO494 := Aside0.mk (ho); replace HO_60 := Aside0.mk (Kd.R_over' (Kd.R_p HO_60) (Kd.R_typed (Kd.R_p HO_11)) (by decide) hg); replace HB := Aside0.mk (hb); clear HO_11; clear ho hb hg hat))
               go_ret
               exact ⟨_, by first | rfl | (simp [errW_none, errW_some] <;> rfl) | (simp only [← hji4]; first | rfl | (simp [errW_none, errW_some] <;> rfl)) | (simp [*, errW_none, errW_some] <;> rfl), Kd.R_p HO494, hb_ HB⟩
              ·rw [if_neg c57] at H
               exact absurd H (by simp)
             ·rw [if_neg c56] at H
              exact absurd H (by simp)
            ·rw [if_neg c55] at H
             exact absurd H (by simp)
   ·rw [if_neg c7] at H
    exact absurd H (by simp)
  ·rw [if_neg c6] at H
   exact absurd H (by simp)
 ·rw [if_neg c5] at H
  exact absurd H (by simp)

/-! ### impl_FoldRule: function 7 -/
def impl_FoldRule.f (k : Nat) (l0 : List (S52)) : Option ((List (S52)) × Bool) := (impl_isRule.f k l0).bind fun t495 => (if t495 = true then ((impl_foldPart.f k l0 (wrap64 ((l0.length : Int) - 1))).bind fun t496 => (some (t496, true))) else (some (([] : List (S52)), false)))
set_option maxHeartbeats 8000000 in
set_option maxRecDepth 100000 in
theorem impl_FoldRule.calls (k : Nat) (A0 : Option Addr) (c0 : Nat) (l0 : List (S52)) (r1 : List (S52)) (r2 : Bool) (w : World) (hr0 : Kd.C k52 w A0 l0.length l0) (hc0 : l0.length ≤ c0) (h : impl_FoldRule.f k l0 = some (r1, r2)) :
  Calls Try.prog 7 #[.slice A0 l0.length c0] w fun e w' => ∃ v0_ : Value, e = .returned (.tuple #[v0_, .bool r2]) ∧ Kd.R k52 52 w' w.heap.size (fun _ => True) v0_ r1 ∧ Below w.heap.size w w' := by
 have HR0 := Aside0.mk hr0
 have HC0 := Aside0.mk hc0
 clear hr0 hc0
 have HB := Aside0.mk (Below.refl w.heap.size w)
 have H : ((impl_isRule.f k l0).bind fun t495 => (if t495 = true then ((impl_foldPart.f k l0 (wrap64 ((l0.length : Int) - 1))).bind fun t496 => (some (t496, true))) else (some (([] : List (S52)), false)))) = some (r1, r2) := h
 clear h
 replace H := Option.bind_eq_some_iff.mp H
 obtain ⟨t495, A20, H⟩ := H
 replace H : (if t495 = true then ((impl_foldPart.f k l0 (wrap64 ((l0.length : Int) - 1))).bind fun t496 => (some (t496, true))) else (some (([] : List (S52)), false))) = some (r1, r2) := H
 have A2 := Aside0.mk A20
 clear A20
 by_cases c3 : t495 = true
 ·subst c3
  have H1 : ((impl_foldPart.f k l0 (wrap64 ((l0.length : Int) - 1))).bind fun t496 => (some (t496, true))) = some (r1, r2) := by rw [if_pos rfl] at H; exact H
  clear H
  have H := H1
  clear H1
  replace H := Option.bind_eq_some_iff.mp H
  obtain ⟨t496, A40, H⟩ := H
  replace H : (some (t496, true)) = some (r1, r2) := H
  have A4 := Aside0.mk A40
  clear A40
  simp only [Option.some.injEq, Prod.mk.injEq] at H
  obtain ⟨rfl, rfl⟩ := H
  go_enter Try.func7, Try.ntmps7
  go_wp2_with (first | ((with_reducible refine gate_callee (f := 16) rfl ?_); refine gl_ (some 5) Try.func16 #[.slice A0 l0.length c0] rfl rfl rfl ?_; (with_reducible refine (impl_isRule.calls k _ _ l0 true _ ?side1 ?side2 A2.out).mono ?_); (case side1 => repeat (first | exact HR0.out | (with_reducible refine Kd.C_alloc ?_ _) | (with_reducible refine Kd.C_drewN ?_ _) | (with_reducible refine Kd.C_drew ?_))); (case side2 => exact HC0.out); rintro e w5 ⟨rfl, hb⟩; refine ⟨_, rfl, ?_⟩; replace HB := hbs_ HB hb; (try clear hb); (try clear hb2); (try clear hk); (try clear hi)) | ((with_reducible refine gate_callee (f := 21) rfl ?_); refine gl_ (some 11) Try.func21 #[.slice A0 l0.length c0, .int .i64 (wrap64 ((l0.length : Int) - 1))] rfl rfl rfl ?_; (with_reducible refine (impl_foldPart.calls k _ _ l0 (wrap64 ((l0.length : Int) - 1)) t496 _ ?side1 ?side2 A4.out).mono ?_); (case side1 => exact Kd.C_w HR0 HB); (case side2 => exact HC0.out); rintro e w6 ⟨v497, rfl, ho0, hb⟩; refine ⟨_, rfl, ?_⟩; have HO498 := Kd.R_lo ho0 HB; replace HB := hbs_ HB hb; (try clear hb); (try clear hb2); (try clear hk); (try clear hi); (try clear ho0)))
  go_ret2
  exact ⟨_, by first | rfl | (simp [errW_none, errW_some] <;> rfl) | (simp [*, errW_none, errW_some] <;> rfl), Kd.R_p HO498, hb_ HB⟩
 ·replace c3 := Bool.eq_false_iff.mpr c3
  subst c3
  have H1 : (some (([] : List (S52)), false)) = some (r1, r2) := by rw [if_neg (show ¬ (false = true) by decide)] at H; exact H
  clear H
  have H := H1
  clear H1
  simp only [Option.some.injEq, Prod.mk.injEq] at H
  obtain ⟨rfl, rfl⟩ := H
  go_enter Try.func7, Try.ntmps7
  go_wp2_with (first | ((with_reducible refine gate_callee (f := 16) rfl ?_); refine gl_ (some 5) Try.func16 #[.slice A0 l0.length c0] rfl rfl rfl ?_; (with_reducible refine (impl_isRule.calls k _ _ l0 false _ ?side1 ?side2 A2.out).mono ?_); (case side1 => repeat (first | exact HR0.out | (with_reducible refine Kd.C_alloc ?_ _) | (with_reducible refine Kd.C_drewN ?_ _) | (with_reducible refine Kd.C_drew ?_))); (case side2 => exact HC0.out); rintro e w7 ⟨rfl, hb⟩; refine ⟨_, rfl, ?_⟩; replace HB := hbs_ HB hb; (try clear hb); (try clear hb2); (try clear hk); (try clear hi)))
  go_ret2
  exact ⟨_, by first | rfl | (simp [errW_none, errW_some] <;> rfl) | (simp [*, errW_none, errW_some] <;> rfl), by first | exact Kd.R_nil _ _ _ _ _ | exact Kd.N_nil _ _ _ _ _ | exact Kd.V_nil _ _ _ _ _ | exact Kd.Q_nil _ _ _ _ _ | exact Kd.S_nil _ _ _ _ _, hb_ HB⟩

end Go.Proofs.Ytmhalgeoaccchaa.PFnFolded
