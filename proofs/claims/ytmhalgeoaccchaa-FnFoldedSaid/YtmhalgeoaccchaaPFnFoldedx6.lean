-- Laid for this claim by wip/tools/print2.sh, a changed copy of the kit's print (wip/tools/patch_print.py): not by print.sh.
import Derived.Test.YtmhalgeoaccchaaPFnFoldedx0
import Derived.Test.YtmhalgeoaccchaaPFnFoldedx2
import Derived.Test.YtmhalgeoaccchaaPFnFoldedx5
namespace Go.Proofs.Ytmhalgeoaccchaa.PFnFolded
open Go.RowKit Go.Proofs.YtmhalgeoaccchaaW.PrintWords Go.Proofs.YtmhalgeoaccchaaW.PrintLast Go.Proofs.YtmhalgeoaccchaaW.PrintMore
attribute [local go_sem] max2_int min2_int max_two min_two max_three min_three max_four min_four   -- for this text's walks alone
set_option linter.unusedVariables false
set_option linter.unusedSimpArgs false

/-! ### spec_l1Cur_anyRule: function 14 -/
mutual
def spec_l1Cur_anyRule.l0 : Nat → List (S52) → Int → List Int → Int → Int → Option ((List (S52)) × Int × Int)
 | 0, _, _, _, _, _ => none
 | k + 1, x3, x5, x1000, x1001, x1002 => if x5 > 0 then (if x3.length + x3.length < 8796093022208 then ((some (x3 ++ x3 : List (S52))).bind fun y275 => (if y275.length < 8796093022208 then (spec_l1Cur_anyRule.l0 k (y275 ++ [(⟨2, 0⟩ : S52)]) (wrap64 (x5 - 1)) x1000 x1001 x1002) else (none))) else (none)) else ((spec_l1Cur_pick.f x1000 x1001 x1002 2).bind fun bt281 => (spec_l1Cur_anyRule.l1 k x3 (wrap64 (39 + (wrap64 (2 * bt281.1)))) x1000 bt281.2.1 bt281.2.2))
def spec_l1Cur_anyRule.l1 : Nat → List (S52) → Int → List Int → Int → Int → Option ((List (S52)) × Int × Int)
 | 0, _, _, _, _, _ => none
 | k + 1, x3, x6, x1000, x1001, x1002 => if (x3.length : Int) < x6 then ((some (([(⟨0, 1⟩ : S52), (⟨3, 0⟩ : S52)] : List (S52)) : List (S52))).bind fun y284 => (if x3.length + y284.length < 8796093022208 then (spec_l1Cur_anyRule.l1 k (x3 ++ y284) x6 x1000 x1001 x1002) else (none))) else (some (x3, x1001, x1002))
def spec_l1Cur_anyRule.l2 : Nat → List (S52) → Int → List Int → Int → Int → Option ((List (S52)) × Int × Int)
 | 0, _, _, _, _, _ => none
 | k + 1, x3, x7, x1000, x1001, x1002 => if x7 > 0 then ((some (([(⟨0, 2⟩ : S52), (⟨2, 0⟩ : S52)] : List (S52)) : List (S52))).bind fun y296 => (if x3.length + y296.length < 8796093022208 then (spec_l1Cur_anyRule.l2 k (x3 ++ y296) (wrap64 (x7 - 1)) x1000 x1001 x1002) else (none))) else (some (x3, x1001, x1002))
def spec_l1Cur_anyRule.l3 : Nat → List (S52) → Int → List Int → Int → Int → Option ((List (S52)) × Int × Int)
 | 0, _, _, _, _, _ => none
 | k + 1, x3, x8, x1000, x1001, x1002 => if x8 > 0 then ((some (([(⟨0, 0⟩ : S52), (⟨0, 0⟩ : S52), (⟨0, 0⟩ : S52), (⟨6, 0⟩ : S52)] : List (S52)) : List (S52))).bind fun y308 => (if x3.length + y308.length < 8796093022208 then (spec_l1Cur_anyRule.l3 k (x3 ++ y308) (wrap64 (x8 - 1)) x1000 x1001 x1002) else (none))) else (spec_l1Cur_anyRule.l4 k x3 x1000 x1001 x1002)
def spec_l1Cur_anyRule.l4 : Nat → List (S52) → List Int → Int → Int → Option ((List (S52)) × Int × Int)
 | 0, _, _, _, _ => none
 | k + 1, x3, x1000, x1001, x1002 => if (x3.length : Int) < 39 then ((some (([(⟨0, 0⟩ : S52), (⟨2, 0⟩ : S52)] : List (S52)) : List (S52))).bind fun y314 => (if x3.length + y314.length < 8796093022208 then (spec_l1Cur_anyRule.l4 k (x3 ++ y314) x1000 x1001 x1002) else (none))) else (some (x3, x1001, x1002))
end
def spec_l1Cur_anyRule.f (k : Nat) (s0_0 : List Int) (s0_1 : Int) (s0_2 : Int) : Option ((List (S52)) × Int × Int) := (spec_l1Cur_rule.f k s0_0 s0_1 s0_2).bind fun bt244 => ((spec_l1Cur_pick.f s0_0 bt244.2.1 bt244.2.2 (bt244.1.length : Int)).bind fun bt249 => ((spec_l1Cur_pick.f s0_0 bt249.2.1 bt249.2.2 30).bind fun bt252 => (if bt252.1 = 0 then ((spec_l1Cur_pick.f s0_0 bt252.2.1 bt252.2.2 11).bind fun bt255 => (if 0 ≤ bt249.1 then (if bt249.1 < (bt244.1.length : Int) then (some ((bt244.1.set (bt249.1 : Int).toNat (⟨wrap64 (bt255.1 - 1), (rd_T52 bt244.1 bt249.1).f1⟩ : S52)), bt255.2.1, bt255.2.2)) else (none)) else (none))) else (if bt252.1 = 1 then ((spec_l1Cur_among.f s0_0 bt252.2.1 bt252.2.2 (([(-1), 0, 1, 4, 5, 1000000, 1000001] : List Int))).bind fun bt262 => (if 0 ≤ bt249.1 then (if bt249.1 < (bt244.1.length : Int) then (some ((bt244.1.set (bt249.1 : Int).toNat (⟨(rd_T52 bt244.1 bt249.1).f0, bt262.1⟩ : S52)), bt262.2.1, bt262.2.2)) else (none)) else (none))) else (if bt252.1 = 2 then (if 0 ≤ bt249.1 then (if bt249.1 ≤ (bt244.1.length : Int) then (some ((bt244.1.take (bt249.1 : Int).toNat), bt252.2.1, bt252.2.2)) else (none)) else (none)) else (if bt252.1 = 3 then (if bt244.1.length < 8796093022208 then (some ((bt244.1 ++ [(⟨0, 1⟩ : S52)]), bt252.2.1, bt252.2.2)) else (none)) else (if bt252.1 = 4 then (spec_l1Cur_anyRule.l0 k (([(⟨0, 1⟩ : S52)] : List (S52))) 4 s0_0 bt252.2.1 bt252.2.2) else (if bt252.1 = 5 then ((spec_l1Cur_pick.f s0_0 bt252.2.1 bt252.2.2 2).bind fun bt293 => (spec_l1Cur_anyRule.l2 k (([(⟨0, 1⟩ : S52)] : List (S52))) (wrap64 (11 + bt293.1)) s0_0 bt293.2.1 bt293.2.2)) else (if bt252.1 = 6 then ((spec_l1Cur_pick.f s0_0 bt252.2.1 bt252.2.2 2).bind fun bt305 => (spec_l1Cur_anyRule.l3 k (([(⟨0, 0⟩ : S52), (⟨0, 0⟩ : S52), (⟨0, 0⟩ : S52), (⟨0, 0⟩ : S52), (⟨7, 0⟩ : S52)] : List (S52))) (wrap64 (8 + bt305.1)) s0_0 bt305.2.1 bt305.2.2)) else (some (bt244.1, bt252.2.1, bt252.2.2)))))))))))
set_option maxHeartbeats 8000000 in
set_option maxRecDepth 100000 in
theorem spec_l1Cur_anyRule.calls (k : Nat) (g : Nat) (s0_0 : List Int) (s0_1 : Int) (s0_2 : Int) (r1 : List (S52)) (r2 : Int) (r3 : Int) (w0 w : World) (hI : IsS40 w0 w g s0_0 s0_1 s0_2) (hB : Below w0.heap.size w0 w) (h : spec_l1Cur_anyRule.f k s0_0 s0_1 s0_2 = some (r1, r2, r3)) :
  Calls Try.prog 14 #[.pointer (some ⟨g, 0, none⟩)] w fun e w' => ∃ v0_ : Value, e = .returned (v0_) ∧ Kd.R k52 52 w' w.heap.size (fun _ => True) v0_ r1 ∧ IsS40 w0 w' g s0_0 r2 r3 ∧ Below w0.heap.size w0 w' ∧ KeepBut w w' g none := by
 have hu52 := Try.underlying52
 have HI0 := Aside0.mk hI
 have HK := Aside0.mk (KeepBut.refl w g none)
 have HL := Aside0.mk hB.size
 clear hI
 have HW0 := Aside0.mk hB.size
 have HB := Aside0.mk hB
 clear hB
 have H : ((spec_l1Cur_rule.f k s0_0 s0_1 s0_2).bind fun bt244 => ((spec_l1Cur_pick.f s0_0 bt244.2.1 bt244.2.2 (bt244.1.length : Int)).bind fun bt249 => ((spec_l1Cur_pick.f s0_0 bt249.2.1 bt249.2.2 30).bind fun bt252 => (if bt252.1 = 0 then ((spec_l1Cur_pick.f s0_0 bt252.2.1 bt252.2.2 11).bind fun bt255 => (if 0 ≤ bt249.1 then (if bt249.1 < (bt244.1.length : Int) then (some ((bt244.1.set (bt249.1 : Int).toNat (⟨wrap64 (bt255.1 - 1), (rd_T52 bt244.1 bt249.1).f1⟩ : S52)), bt255.2.1, bt255.2.2)) else (none)) else (none))) else (if bt252.1 = 1 then ((spec_l1Cur_among.f s0_0 bt252.2.1 bt252.2.2 (([(-1), 0, 1, 4, 5, 1000000, 1000001] : List Int))).bind fun bt262 => (if 0 ≤ bt249.1 then (if bt249.1 < (bt244.1.length : Int) then (some ((bt244.1.set (bt249.1 : Int).toNat (⟨(rd_T52 bt244.1 bt249.1).f0, bt262.1⟩ : S52)), bt262.2.1, bt262.2.2)) else (none)) else (none))) else (if bt252.1 = 2 then (if 0 ≤ bt249.1 then (if bt249.1 ≤ (bt244.1.length : Int) then (some ((bt244.1.take (bt249.1 : Int).toNat), bt252.2.1, bt252.2.2)) else (none)) else (none)) else (if bt252.1 = 3 then (if bt244.1.length < 8796093022208 then (some ((bt244.1 ++ [(⟨0, 1⟩ : S52)]), bt252.2.1, bt252.2.2)) else (none)) else (if bt252.1 = 4 then (spec_l1Cur_anyRule.l0 k (([(⟨0, 1⟩ : S52)] : List (S52))) 4 s0_0 bt252.2.1 bt252.2.2) else (if bt252.1 = 5 then ((spec_l1Cur_pick.f s0_0 bt252.2.1 bt252.2.2 2).bind fun bt293 => (spec_l1Cur_anyRule.l2 k (([(⟨0, 1⟩ : S52)] : List (S52))) (wrap64 (11 + bt293.1)) s0_0 bt293.2.1 bt293.2.2)) else (if bt252.1 = 6 then ((spec_l1Cur_pick.f s0_0 bt252.2.1 bt252.2.2 2).bind fun bt305 => (spec_l1Cur_anyRule.l3 k (([(⟨0, 0⟩ : S52), (⟨0, 0⟩ : S52), (⟨0, 0⟩ : S52), (⟨0, 0⟩ : S52), (⟨7, 0⟩ : S52)] : List (S52))) (wrap64 (8 + bt305.1)) s0_0 bt305.2.1 bt305.2.2)) else (some (bt244.1, bt252.2.1, bt252.2.2)))))))))))) = some (r1, r2, r3) := h
 clear h
 replace H := Option.bind_eq_some_iff.mp H
 obtain ⟨⟨t244, t247, t248⟩, A20, H⟩ := H
 replace H : ((spec_l1Cur_pick.f s0_0 t247 t248 (t244.length : Int)).bind fun bt249 => ((spec_l1Cur_pick.f s0_0 bt249.2.1 bt249.2.2 30).bind fun bt252 => (if bt252.1 = 0 then ((spec_l1Cur_pick.f s0_0 bt252.2.1 bt252.2.2 11).bind fun bt255 => (if 0 ≤ bt249.1 then (if bt249.1 < (t244.length : Int) then (some ((t244.set (bt249.1 : Int).toNat (⟨wrap64 (bt255.1 - 1), (rd_T52 t244 bt249.1).f1⟩ : S52)), bt255.2.1, bt255.2.2)) else (none)) else (none))) else (if bt252.1 = 1 then ((spec_l1Cur_among.f s0_0 bt252.2.1 bt252.2.2 (([(-1), 0, 1, 4, 5, 1000000, 1000001] : List Int))).bind fun bt262 => (if 0 ≤ bt249.1 then (if bt249.1 < (t244.length : Int) then (some ((t244.set (bt249.1 : Int).toNat (⟨(rd_T52 t244 bt249.1).f0, bt262.1⟩ : S52)), bt262.2.1, bt262.2.2)) else (none)) else (none))) else (if bt252.1 = 2 then (if 0 ≤ bt249.1 then (if bt249.1 ≤ (t244.length : Int) then (some ((t244.take (bt249.1 : Int).toNat), bt252.2.1, bt252.2.2)) else (none)) else (none)) else (if bt252.1 = 3 then (if t244.length < 8796093022208 then (some ((t244 ++ [(⟨0, 1⟩ : S52)]), bt252.2.1, bt252.2.2)) else (none)) else (if bt252.1 = 4 then (spec_l1Cur_anyRule.l0 k (([(⟨0, 1⟩ : S52)] : List (S52))) 4 s0_0 bt252.2.1 bt252.2.2) else (if bt252.1 = 5 then ((spec_l1Cur_pick.f s0_0 bt252.2.1 bt252.2.2 2).bind fun bt293 => (spec_l1Cur_anyRule.l2 k (([(⟨0, 1⟩ : S52)] : List (S52))) (wrap64 (11 + bt293.1)) s0_0 bt293.2.1 bt293.2.2)) else (if bt252.1 = 6 then ((spec_l1Cur_pick.f s0_0 bt252.2.1 bt252.2.2 2).bind fun bt305 => (spec_l1Cur_anyRule.l3 k (([(⟨0, 0⟩ : S52), (⟨0, 0⟩ : S52), (⟨0, 0⟩ : S52), (⟨0, 0⟩ : S52), (⟨7, 0⟩ : S52)] : List (S52))) (wrap64 (8 + bt305.1)) s0_0 bt305.2.1 bt305.2.2)) else (some (t244, bt252.2.1, bt252.2.2))))))))))) = some (r1, r2, r3) := H
 have A2 := Aside0.mk A20
 clear A20
 replace H := Option.bind_eq_some_iff.mp H
 obtain ⟨⟨t249, t250, t251⟩, A30, H⟩ := H
 replace H : ((spec_l1Cur_pick.f s0_0 t250 t251 30).bind fun bt252 => (if bt252.1 = 0 then ((spec_l1Cur_pick.f s0_0 bt252.2.1 bt252.2.2 11).bind fun bt255 => (if 0 ≤ t249 then (if t249 < (t244.length : Int) then (some ((t244.set (t249 : Int).toNat (⟨wrap64 (bt255.1 - 1), (rd_T52 t244 t249).f1⟩ : S52)), bt255.2.1, bt255.2.2)) else (none)) else (none))) else (if bt252.1 = 1 then ((spec_l1Cur_among.f s0_0 bt252.2.1 bt252.2.2 (([(-1), 0, 1, 4, 5, 1000000, 1000001] : List Int))).bind fun bt262 => (if 0 ≤ t249 then (if t249 < (t244.length : Int) then (some ((t244.set (t249 : Int).toNat (⟨(rd_T52 t244 t249).f0, bt262.1⟩ : S52)), bt262.2.1, bt262.2.2)) else (none)) else (none))) else (if bt252.1 = 2 then (if 0 ≤ t249 then (if t249 ≤ (t244.length : Int) then (some ((t244.take (t249 : Int).toNat), bt252.2.1, bt252.2.2)) else (none)) else (none)) else (if bt252.1 = 3 then (if t244.length < 8796093022208 then (some ((t244 ++ [(⟨0, 1⟩ : S52)]), bt252.2.1, bt252.2.2)) else (none)) else (if bt252.1 = 4 then (spec_l1Cur_anyRule.l0 k (([(⟨0, 1⟩ : S52)] : List (S52))) 4 s0_0 bt252.2.1 bt252.2.2) else (if bt252.1 = 5 then ((spec_l1Cur_pick.f s0_0 bt252.2.1 bt252.2.2 2).bind fun bt293 => (spec_l1Cur_anyRule.l2 k (([(⟨0, 1⟩ : S52)] : List (S52))) (wrap64 (11 + bt293.1)) s0_0 bt293.2.1 bt293.2.2)) else (if bt252.1 = 6 then ((spec_l1Cur_pick.f s0_0 bt252.2.1 bt252.2.2 2).bind fun bt305 => (spec_l1Cur_anyRule.l3 k (([(⟨0, 0⟩ : S52), (⟨0, 0⟩ : S52), (⟨0, 0⟩ : S52), (⟨0, 0⟩ : S52), (⟨7, 0⟩ : S52)] : List (S52))) (wrap64 (8 + bt305.1)) s0_0 bt305.2.1 bt305.2.2)) else (some (t244, bt252.2.1, bt252.2.2)))))))))) = some (r1, r2, r3) := H
 have A3 := Aside0.mk A30
 clear A30
 replace H := Option.bind_eq_some_iff.mp H
 obtain ⟨⟨t252, t253, t254⟩, A40, H⟩ := H
 replace H : (if t252 = 0 then ((spec_l1Cur_pick.f s0_0 t253 t254 11).bind fun bt255 => (if 0 ≤ t249 then (if t249 < (t244.length : Int) then (some ((t244.set (t249 : Int).toNat (⟨wrap64 (bt255.1 - 1), (rd_T52 t244 t249).f1⟩ : S52)), bt255.2.1, bt255.2.2)) else (none)) else (none))) else (if t252 = 1 then ((spec_l1Cur_among.f s0_0 t253 t254 (([(-1), 0, 1, 4, 5, 1000000, 1000001] : List Int))).bind fun bt262 => (if 0 ≤ t249 then (if t249 < (t244.length : Int) then (some ((t244.set (t249 : Int).toNat (⟨(rd_T52 t244 t249).f0, bt262.1⟩ : S52)), bt262.2.1, bt262.2.2)) else (none)) else (none))) else (if t252 = 2 then (if 0 ≤ t249 then (if t249 ≤ (t244.length : Int) then (some ((t244.take (t249 : Int).toNat), t253, t254)) else (none)) else (none)) else (if t252 = 3 then (if t244.length < 8796093022208 then (some ((t244 ++ [(⟨0, 1⟩ : S52)]), t253, t254)) else (none)) else (if t252 = 4 then (spec_l1Cur_anyRule.l0 k (([(⟨0, 1⟩ : S52)] : List (S52))) 4 s0_0 t253 t254) else (if t252 = 5 then ((spec_l1Cur_pick.f s0_0 t253 t254 2).bind fun bt293 => (spec_l1Cur_anyRule.l2 k (([(⟨0, 1⟩ : S52)] : List (S52))) (wrap64 (11 + bt293.1)) s0_0 bt293.2.1 bt293.2.2)) else (if t252 = 6 then ((spec_l1Cur_pick.f s0_0 t253 t254 2).bind fun bt305 => (spec_l1Cur_anyRule.l3 k (([(⟨0, 0⟩ : S52), (⟨0, 0⟩ : S52), (⟨0, 0⟩ : S52), (⟨0, 0⟩ : S52), (⟨7, 0⟩ : S52)] : List (S52))) (wrap64 (8 + bt305.1)) s0_0 bt305.2.1 bt305.2.2)) else (some (t244, t253, t254))))))))) = some (r1, r2, r3) := H
 have A4 := Aside0.mk A40
 clear A40
 by_cases c5 : t252 = 0
 ·rw [if_pos c5] at H
  have c5b0 : (t252 == 0) = true := beq_iff_eq.mpr c5
  have c5b1 : (t252 != 0) = false := bne_eq_false_iff_eq.mpr c5
  clear c5
  replace H := Option.bind_eq_some_iff.mp H
  obtain ⟨⟨t255, t256, t257⟩, A60, H⟩ := H
  replace H : (if 0 ≤ t249 then (if t249 < (t244.length : Int) then (some ((t244.set (t249 : Int).toNat (⟨wrap64 (t255 - 1), (rd_T52 t244 t249).f1⟩ : S52)), t256, t257)) else (none)) else (none)) = some (r1, r2, r3) := H
  have A6 := Aside0.mk A60
  clear A60
  by_cases c7 : 0 ≤ t249
  ·rw [if_pos c7] at H
   have c7b0 : decide (0 ≤ t249) = true := decide_eq_true c7
   clear c7
   by_cases c8 : t249 < (t244.length : Int)
   ·rw [if_pos c8] at H
    have c8b0 : decide (t249 < (t244.length : Int)) = true := decide_eq_true c8
    clear c8
    obtain ⟨y258, hy258⟩ : ∃ y_ : List (S52), y_ = (t244.set (t249 : Int).toNat (⟨wrap64 (t255 - 1), (rd_T52 t244 t249).f1⟩ : S52)) := ⟨_, rfl⟩
    replace H : (some (y258, t256, t257)) = some (r1, r2, r3) := by first | (rw [hy258]; with_reducible exact H) | (have H2_ := (Option.bind_some _ _).symm.trans H; rw [hy258]; with_reducible exact H2_) | (have H2_ := (Option.bind_some _ _).symm.trans H; with_reducible exact H2_) | with_reducible exact H | (rw [hy258]; exact H) | exact H
    have Ny258 := Aside0.mk hy258
    clear hy258
    simp only [Option.some.injEq, Prod.mk.injEq] at H
    obtain ⟨rfl, rfl, rfl⟩ := H
    go_enter Try.func14, Try.ntmps14
    go_wp2_with (first | ((with_reducible refine gate_callee (f := 25) rfl ?_); refine gl_ (some 10) Try.func25 #[.pointer (some ⟨g, 0, none⟩)] rfl rfl rfl ?_; (with_reducible refine (spec_l1Cur_rule.calls k g s0_0 s0_1 s0_2 t244 t247 t248 w0 _ ?side1 ?side2 A2.out).mono ?_); (case side1 => exact IsS40.q HI0); (case side2 => exact hbI_ HB (IsS40.ge HI0.out)); rintro e w10 ⟨v245, rfl, ho0, hi, hb, hk⟩; refine ⟨_, rfl, ?_⟩; have HO246 := Aside0.mk (Kd.R_lower ho0 (keep_size (hk_ HK))); replace HK := Aside0.mk (KeepBut.trans (hk_ HK) hk (.inl rfl)); replace HB := Aside0.mk (hb); replace HI0 := Aside0.mk (hi); (try clear hb); (try clear hb2); (try clear hk); (try clear hi); (try clear ho0); obtain ⟨Ao11, co11, eo11⟩ := Kd.R_slice HO246.out; subst eo11) | ((with_reducible refine gate_callee (f := 24) rfl ?_); refine gl_ (some 14) Try.func24 #[.pointer (some ⟨g, 0, none⟩), .int .i64 (t244.length : Int)] rfl rfl rfl ?_; (with_reducible refine (spec_l1Cur_pick.calls g s0_0 t247 t248 (t244.length : Int) t249 t250 t251 w0 _ ?side1 ?side2 A3.out).mono ?_); (case side1 => exact IsS40.q HI0); (case side2 => exact hbI_ HB (IsS40.ge HI0.out)); rintro e w12 ⟨rfl, hi, hb, hk⟩; refine ⟨_, rfl, ?_⟩; have n0_ := IsS40.rk HI0 HO246 hk; have n1_ := Aside0.mk (KeepBut.trans (hk_ HK) hk (.inl rfl)); have n2_ := Aside0.mk (hb); have n3_ := Aside0.mk (hi); clear HO246 HK HB HI0; have HO246 := n0_; have HK := n1_; have HB := n2_; have HI0 := n3_; clear n0_ n1_ n2_ n3_; (try clear hb); (try clear hb2); (try clear hk); (try clear hi)) | ((with_reducible refine gate_callee (f := 24) rfl ?_); refine gl_ (some 16) Try.func24 #[.pointer (some ⟨g, 0, none⟩), .int .i64 30] rfl rfl rfl ?_; (with_reducible refine (spec_l1Cur_pick.calls g s0_0 t250 t251 30 t252 t253 t254 w0 _ ?side1 ?side2 A4.out).mono ?_); (case side1 => exact IsS40.q HI0); (case side2 => exact hbI_ HB (IsS40.ge HI0.out)); rintro e w13 ⟨rfl, hi, hb, hk⟩; refine ⟨_, rfl, ?_⟩; have n0_ := IsS40.rk HI0 HO246 hk; have n1_ := Aside0.mk (KeepBut.trans (hk_ HK) hk (.inl rfl)); have n2_ := Aside0.mk (hb); have n3_ := Aside0.mk (hi); clear HO246 HK HB HI0; have HO246 := n0_; have HK := n1_; have HB := n2_; have HI0 := n3_; clear n0_ n1_ n2_ n3_; (try clear hb); (try clear hb2); (try clear hk); (try clear hi)) | ((with_reducible refine gate_callee (f := 24) rfl ?_); refine gl_ (some 22) Try.func24 #[.pointer (some ⟨g, 0, none⟩), .int .i64 11] rfl rfl rfl ?_; (with_reducible refine (spec_l1Cur_pick.calls g s0_0 t253 t254 11 t255 t256 t257 w0 _ ?side1 ?side2 A6.out).mono ?_); (case side1 => exact IsS40.q HI0); (case side2 => exact hbI_ HB (IsS40.ge HI0.out)); rintro e w14 ⟨rfl, hi, hb, hk⟩; refine ⟨_, rfl, ?_⟩; have n0_ := IsS40.rk HI0 HO246 hk; have n1_ := Aside0.mk (KeepBut.trans (hk_ HK) hk (.inl rfl)); have n2_ := Aside0.mk (hb); have n3_ := Aside0.mk (hi); clear HO246 HK HB HI0; have HO246 := n0_; have HK := n1_; have HB := n2_; have HI0 := n3_; clear n0_ n1_ n2_ n3_; (try clear hb); (try clear hb2); (try clear hk); (try clear hi); have p9 : 0 ≤ (t249 : Int) := of_decide_eq_true (by first | (with_reducible assumption) | assumption); have q9 : (t249 : Int) < ((t244.length : Int) : Int) := of_decide_eq_true (by first | (with_reducible assumption) | assumption); obtain ⟨go9, co9, eo9, gb9, gl9, cl9, HG9⟩ := Kd.R_form HO246.out (by omega); (first | cases eo9 | (injection eo9 with ea_ en_ ec_; (first | subst ea_ | (injection ea_ with ea_; subst ea_)); subst ec_; clear en_)); have GB9 := Aside0.mk gb9; have GG9 := Aside0.mk HG9; clear gb9 gl9 HG9; obtain ⟨ce9, hcl9, hM9, hcc9, hfr9⟩ := Kd.R_elem HO246.out z52 (t249 : Int) p9 q9; obtain rfl := k52_openM hM9; have hx9_0 : w14.cell? ⟨go9, (t249 : Int).toNat * 2, none⟩ = some (.int .i64 ((rd_T52 t244 t249).f0)) := hcc9 0 _ rfl; have hx9_1 : w14.cell? ⟨go9, (t249 : Int).toNat * 2 + 1, none⟩ = some (.int .i64 ((rd_T52 t244 t249).f1)) := hcc9 1 _ rfl; have hf9_0 : w14.frozen? ⟨go9, (t249 : Int).toNat * 2, none⟩ = false := hfr9 0; have hf9_1 : w14.frozen? ⟨go9, (t249 : Int).toNat * 2 + 1, none⟩ = false := hfr9 1; clear hcl9 hcc9 hfr9 hM9; replace p9 := eq_true p9; replace q9 := eq_true q9; have HX15 := Aside0.mk (show Kd.R k52 52 w14 w.heap.size (fun _ => True) (.slice (some ⟨go9, 0, none⟩) t244.length co11) t244 from (Kd.R_p HO246)); obtain ⟨ce15, hcl15, hM15, hcc15, hfr15⟩ := Kd.R_elem HX15.out z52 (t249 : Int) (of_decide_eq_true (by first | (with_reducible assumption) | assumption)) (by have h_ : (t249 : Int) < ((t244.length : Int) : Int) := of_decide_eq_true (by first | (with_reducible assumption) | assumption); first | exact h_ | (have e_ := (Kd.R_reads' HO246.out).1; omega) | simpa using h_); obtain rfl := k52_openM hM15; have HP15 := Kd.R_seg HX15.out (t249 : Int) (of_decide_eq_true (by first | (with_reducible assumption) | assumption)) (by have h_ : (t249 : Int) < ((t244.length : Int) : Int) := of_decide_eq_true (by first | (with_reducible assumption) | assumption); first | exact h_ | (have e_ := (Kd.R_reads' HO246.out).1; omega) | simpa using h_) (seg := [.int .i64 (wrap64 (t255 - 1))]) (j := 0) hcl15 hcc15 (show 1 ≤ 2 from by decide) (x' := (⟨wrap64 (t255 - 1), (rd_T52 t244 t249).f1⟩ : S52)) (k52_mkM _ _ _ (⟨wrap64 (t255 - 1), (rd_T52 t244 t249).f1⟩ : S52) ) (fun _ hk => hk); have hx15_0 := hcc15 0 _ rfl; (try simp only [show (k52).sz = 2 from rfl, Nat.mul_one, Nat.add_zero] at hx15_0); have hf15_0 := hfr15 0; (try simp only [show (k52).sz = 2 from rfl, Nat.mul_one, Nat.add_zero] at hf15_0); clear hcl15 hcc15 hfr15 hM15) | ((with_reducible refine gate_store (t := 3) (p := 25) rfl ?_); refine store_event (t := 3) (p := 25) (v := ?vo_w16) (w1 := (w14.setCell ⟨go9, (t249 : Int).toNat * 2, none⟩ (.int .i64 (wrap64 (t255 - 1))))) ?hg ?ho ?hn ?hr ?_; (case ho => rfl); (case hg => rfl); (case hn => rfl); (case hr => first | (go_simp; done) | (go_simp; rfl)); intro w16 hw; have hg : w14.grownBy w16 (some go9) := (by rw [hw]; exact HP15.2); have hp_ : Kd.R k52 52 w16 w.heap.size (fun _ => True) (.slice (some ⟨go9, 0, none⟩) t244.length co11) y258 := (by rw [hw, Ny258.out]; exact HP15.1); clear HP15; replace HI0 := Aside0.mk (IsS40.grown (IsS40.q HI0) hg (IsS40.own_ne HI0.out HO246.out (by decide))); replace HB := Aside0.mk ((by rw [hw]; exact below_set (HB.out) (Nat.le_trans HL.out GB9.out) : Below w0.heap.size w0 w16)); replace HK := Aside0.mk (KeepBut.trans (hk_ HK) (KeepBut.of_grown hg g) (Kd.R_base2 HO246.out)); replace HO246 := Aside0.mk (hp_); clear hg hw hp_))
    go_ret
    exact ⟨_, by first | rfl | (simp [errW_none, errW_some] <;> rfl) | (simp [*, errW_none, errW_some] <;> rfl), Kd.R_p HO246, IsS40.q HI0, hbI_ HB (IsS40.ge HI0.out), hk_ HK⟩
   ·rw [if_neg c8] at H
    exact absurd H (by simp)
  ·rw [if_neg c7] at H
   exact absurd H (by simp)
 ·rw [if_neg c5] at H
  have c5b0 : (t252 == 0) = false := beq_eq_false_iff_ne.mpr c5
  have c5b1 : (t252 != 0) = true := bne_iff_ne.mpr c5
  by_cases c17 : t252 = 1
  ·rw [if_pos c17] at H
   have c17b0 : (t252 == 1) = true := beq_iff_eq.mpr c17
   have c17b1 : (t252 != 1) = false := bne_eq_false_iff_eq.mpr c17
   clear c17
   obtain ⟨y259, hy259⟩ : ∃ y_ : List Int, y_ = (([(-1), 0, 1, 4, 5, 1000000, 1000001] : List Int)) := ⟨_, rfl⟩
   replace H : ((spec_l1Cur_among.f s0_0 t253 t254 y259).bind fun bt262 => (if 0 ≤ t249 then (if t249 < (t244.length : Int) then (some ((t244.set (t249 : Int).toNat (⟨(rd_T52 t244 t249).f0, bt262.1⟩ : S52)), bt262.2.1, bt262.2.2)) else (none)) else (none))) = some (r1, r2, r3) := by first | (rw [hy259]; with_reducible exact H) | (have H2_ := (Option.bind_some _ _).symm.trans H; rw [hy259]; with_reducible exact H2_) | (have H2_ := (Option.bind_some _ _).symm.trans H; with_reducible exact H2_) | with_reducible exact H | (rw [hy259]; exact H) | exact H
   have Ny259 := Aside0.mk hy259
   clear hy259
   replace H := Option.bind_eq_some_iff.mp H
   obtain ⟨⟨t262, t263, t264⟩, A180, H⟩ := H
   replace H : (if 0 ≤ t249 then (if t249 < (t244.length : Int) then (some ((t244.set (t249 : Int).toNat (⟨(rd_T52 t244 t249).f0, t262⟩ : S52)), t263, t264)) else (none)) else (none)) = some (r1, r2, r3) := H
   have A18 := Aside0.mk A180
   clear A180
   by_cases c19 : 0 ≤ t249
   ·rw [if_pos c19] at H
    have c19b0 : decide (0 ≤ t249) = true := decide_eq_true c19
    clear c19
    by_cases c20 : t249 < (t244.length : Int)
    ·rw [if_pos c20] at H
     have c20b0 : decide (t249 < (t244.length : Int)) = true := decide_eq_true c20
     clear c20
     obtain ⟨y265, hy265⟩ : ∃ y_ : List (S52), y_ = (t244.set (t249 : Int).toNat (⟨(rd_T52 t244 t249).f0, t262⟩ : S52)) := ⟨_, rfl⟩
     replace H : (some (y265, t263, t264)) = some (r1, r2, r3) := by first | (rw [hy265]; with_reducible exact H) | (have H2_ := (Option.bind_some _ _).symm.trans H; rw [hy265]; with_reducible exact H2_) | (have H2_ := (Option.bind_some _ _).symm.trans H; with_reducible exact H2_) | with_reducible exact H | (rw [hy265]; exact H) | exact H
     have Ny265 := Aside0.mk hy265
     clear hy265
     simp only [Option.some.injEq, Prod.mk.injEq] at H
     obtain ⟨rfl, rfl, rfl⟩ := H
     go_enter Try.func14, Try.ntmps14
     go_wp2_with (first | ((with_reducible refine gate_callee (f := 25) rfl ?_); refine gl_ (some 10) Try.func25 #[.pointer (some ⟨g, 0, none⟩)] rfl rfl rfl ?_; (with_reducible refine (spec_l1Cur_rule.calls k g s0_0 s0_1 s0_2 t244 t247 t248 w0 _ ?side1 ?side2 A2.out).mono ?_); (case side1 => exact IsS40.q HI0); (case side2 => exact hbI_ HB (IsS40.ge HI0.out)); rintro e w22 ⟨v245, rfl, ho0, hi, hb, hk⟩; refine ⟨_, rfl, ?_⟩; have HO246 := Aside0.mk (Kd.R_lower ho0 (keep_size (hk_ HK))); replace HK := Aside0.mk (KeepBut.trans (hk_ HK) hk (.inl rfl)); replace HB := Aside0.mk (hb); replace HI0 := Aside0.mk (hi); (try clear hb); (try clear hb2); (try clear hk); (try clear hi); (try clear ho0); obtain ⟨Ao23, co23, eo23⟩ := Kd.R_slice HO246.out; subst eo23) | ((with_reducible refine gate_callee (f := 24) rfl ?_); refine gl_ (some 14) Try.func24 #[.pointer (some ⟨g, 0, none⟩), .int .i64 (t244.length : Int)] rfl rfl rfl ?_; (with_reducible refine (spec_l1Cur_pick.calls g s0_0 t247 t248 (t244.length : Int) t249 t250 t251 w0 _ ?side1 ?side2 A3.out).mono ?_); (case side1 => exact IsS40.q HI0); (case side2 => exact hbI_ HB (IsS40.ge HI0.out)); rintro e w24 ⟨rfl, hi, hb, hk⟩; refine ⟨_, rfl, ?_⟩; have n0_ := IsS40.rk HI0 HO246 hk; have n1_ := Aside0.mk (KeepBut.trans (hk_ HK) hk (.inl rfl)); have n2_ := Aside0.mk (hb); have n3_ := Aside0.mk (hi); clear HO246 HK HB HI0; have HO246 := n0_; have HK := n1_; have HB := n2_; have HI0 := n3_; clear n0_ n1_ n2_ n3_; (try clear hb); (try clear hb2); (try clear hk); (try clear hi)) | ((with_reducible refine gate_callee (f := 24) rfl ?_); refine gl_ (some 16) Try.func24 #[.pointer (some ⟨g, 0, none⟩), .int .i64 30] rfl rfl rfl ?_; (with_reducible refine (spec_l1Cur_pick.calls g s0_0 t250 t251 30 t252 t253 t254 w0 _ ?side1 ?side2 A4.out).mono ?_); (case side1 => exact IsS40.q HI0); (case side2 => exact hbI_ HB (IsS40.ge HI0.out)); rintro e w25 ⟨rfl, hi, hb, hk⟩; refine ⟨_, rfl, ?_⟩; have n0_ := IsS40.rk HI0 HO246 hk; have n1_ := Aside0.mk (KeepBut.trans (hk_ HK) hk (.inl rfl)); have n2_ := Aside0.mk (hb); have n3_ := Aside0.mk (hi); clear HO246 HK HB HI0; have HO246 := n0_; have HK := n1_; have HB := n2_; have HI0 := n3_; clear n0_ n1_ n2_ n3_; (try clear hb); (try clear hb2); (try clear hk); (try clear hi)) | ((with_reducible refine gate_dst (N := 31) rfl ?_); refine Kd.R_lit (Kd.int .i64) _ 3 ?hg (N := 31) ?hd (xs := ([(-1), 0, 1, 4, 5, 1000000, 1000001] : List Int)) (inner := [.int .i64 (-1), .int .i64 0, .int .i64 1, .int .i64 4, .int .i64 5, .int .i64 1000000, .int .i64 1000001]) (ok := fun _ => True) (okp := fun _ => True) ?hr ?hp (fun _ hk => hk) trivial (Below.refl _ _) (Nat.le_refl _) (by simp) ?_; (case hd => rfl); (case hg => rfl); (case hr => first | (go_simp; done) | (go_simp; rfl)); (case hp => exact (Reps.one (show Kd.M (Kd.int .i64) _ _ _ (-1) [.int .i64 (-1)] from rfl) (Reps.one (show Kd.M (Kd.int .i64) _ _ _ 0 [.int .i64 0] from rfl) (Reps.one (show Kd.M (Kd.int .i64) _ _ _ 1 [.int .i64 1] from rfl) (Reps.one (show Kd.M (Kd.int .i64) _ _ _ 4 [.int .i64 4] from rfl) (Reps.one (show Kd.M (Kd.int .i64) _ _ _ 5 [.int .i64 5] from rfl) (Reps.one (show Kd.M (Kd.int .i64) _ _ _ 1000000 [.int .i64 1000000] from rfl) (Reps.one (show Kd.M (Kd.int .i64) _ _ _ 1000001 [.int .i64 1000001] from rfl) (Reps.none _ _))))))))); intro v260 w26 ho27 hb hg_ hnew_; clear hg_ hnew_; (first | rw [← Ny259.out] at ho27 | (simp only [Int.reduceToNat] at ho27; rw [← Ny259.out] at ho27)); have HO261 := Aside0.mk (Kd.R_lower ho27 (keep_size (hk_ HK))); replace HO246 := Kd.R_b HO246 hb; replace HK := hkb_ HK hb; replace HB := Aside0.mk (below_step (hbI_ HB (IsS40.ge HI0.out)) hb); replace HI0 := IsS40.b HI0 hb; clear hb ho27; obtain ⟨Ao28, co28, eo28⟩ := Kd.R_slice HO261.out; subst eo28) | ((with_reducible refine gate_callee (f := 27) rfl ?_); refine gl_ (some 32) Try.func27 #[.pointer (some ⟨g, 0, none⟩), .slice Ao28 y259.length co28] rfl rfl rfl ?_; (with_reducible refine (spec_l1Cur_among.calls g s0_0 t253 t254 _ _ y259 t262 t263 t264 w0 _ ?side1 ?side2 ?side3 ?side4 ?side5 A18.out).mono ?_); (case side1 => exact IsS40.q HI0); (case side2 => exact hbI_ HB (IsS40.ge HI0.out)); (case side3 => exact Kd.C_o HO261); (case side4 => exact (Kd.R_reads' HO261.out).2.1); (case side5 => exact far_slice (IsS40.own_ne HI0.out HO261.out (by decide))); rintro e w29 ⟨rfl, hi, hb, hk⟩; refine ⟨_, rfl, ?_⟩; have n0_ := IsS40.rk HI0 HO246 hk; have n1_ := IsS40.rk HI0 HO261 hk; have n2_ := Aside0.mk (KeepBut.trans (hk_ HK) hk (.inl rfl)); have n3_ := Aside0.mk (hb); have n4_ := Aside0.mk (hi); clear HO246 HO261 HK HB HI0; have HO246 := n0_; have HO261 := n1_; have HK := n2_; have HB := n3_; have HI0 := n4_; clear n0_ n1_ n2_ n3_ n4_; (try clear hb); (try clear hb2); (try clear hk); (try clear hi); have p21 : 0 ≤ (t249 : Int) := of_decide_eq_true (by first | (with_reducible assumption) | assumption); have q21 : (t249 : Int) < ((t244.length : Int) : Int) := of_decide_eq_true (by first | (with_reducible assumption) | assumption); obtain ⟨go21, co21, eo21, gb21, gl21, cl21, HG21⟩ := Kd.R_form HO246.out (by omega); (first | cases eo21 | (injection eo21 with ea_ en_ ec_; (first | subst ea_ | (injection ea_ with ea_; subst ea_)); subst ec_; clear en_)); have GB21 := Aside0.mk gb21; have GG21 := Aside0.mk HG21; clear gb21 gl21 HG21; obtain ⟨ce21, hcl21, hM21, hcc21, hfr21⟩ := Kd.R_elem HO246.out z52 (t249 : Int) p21 q21; obtain rfl := k52_openM hM21; have hx21_0 : w29.cell? ⟨go21, (t249 : Int).toNat * 2, none⟩ = some (.int .i64 ((rd_T52 t244 t249).f0)) := hcc21 0 _ rfl; have hx21_1 : w29.cell? ⟨go21, (t249 : Int).toNat * 2 + 1, none⟩ = some (.int .i64 ((rd_T52 t244 t249).f1)) := hcc21 1 _ rfl; have hf21_0 : w29.frozen? ⟨go21, (t249 : Int).toNat * 2, none⟩ = false := hfr21 0; have hf21_1 : w29.frozen? ⟨go21, (t249 : Int).toNat * 2 + 1, none⟩ = false := hfr21 1; clear hcl21 hcc21 hfr21 hM21; replace p21 := eq_true p21; replace q21 := eq_true q21; try clear HO261; have HX30 := Aside0.mk (show Kd.R k52 52 w29 w.heap.size (fun _ => True) (.slice (some ⟨go21, 0, none⟩) t244.length co23) t244 from (Kd.R_p HO246)); obtain ⟨ce30, hcl30, hM30, hcc30, hfr30⟩ := Kd.R_elem HX30.out z52 (t249 : Int) (of_decide_eq_true (by first | (with_reducible assumption) | assumption)) (by have h_ : (t249 : Int) < ((t244.length : Int) : Int) := of_decide_eq_true (by first | (with_reducible assumption) | assumption); first | exact h_ | (have e_ := (Kd.R_reads' HO246.out).1; omega) | simpa using h_); obtain rfl := k52_openM hM30; have HP30 := Kd.R_seg HX30.out (t249 : Int) (of_decide_eq_true (by first | (with_reducible assumption) | assumption)) (by have h_ : (t249 : Int) < ((t244.length : Int) : Int) := of_decide_eq_true (by first | (with_reducible assumption) | assumption); first | exact h_ | (have e_ := (Kd.R_reads' HO246.out).1; omega) | simpa using h_) (seg := [.int .i64 t262]) (j := 1) hcl30 hcc30 (show 2 ≤ 2 from by decide) (x' := (⟨(rd_T52 t244 t249).f0, t262⟩ : S52)) (k52_mkM _ _ _ (⟨(rd_T52 t244 t249).f0, t262⟩ : S52) ) (fun _ hk => hk); have hx30_1 := hcc30 1 _ rfl; (try simp only [show (k52).sz = 2 from rfl, Nat.mul_one, Nat.add_zero] at hx30_1); have hf30_1 := hfr30 1; (try simp only [show (k52).sz = 2 from rfl, Nat.mul_one, Nat.add_zero] at hf30_1); clear hcl30 hcc30 hfr30 hM30) | ((with_reducible refine gate_store (t := 3) (p := 34) rfl ?_); refine store_event (t := 3) (p := 34) (v := ?vo_w31) (w1 := (w29.setCell ⟨go21, (t249 : Int).toNat * 2 + 1, none⟩ (.int .i64 t262))) ?hg ?ho ?hn ?hr ?_; (case ho => rfl); (case hg => rfl); (case hn => rfl); (case hr => first | (go_simp; done) | (go_simp; rfl)); intro w31 hw; have hg : w29.grownBy w31 (some go21) := (by rw [hw]; exact HP30.2); have hp_ : Kd.R k52 52 w31 w.heap.size (fun _ => True) (.slice (some ⟨go21, 0, none⟩) t244.length co23) y265 := (by rw [hw, Ny265.out]; exact HP30.1); clear HP30; replace HI0 := Aside0.mk (IsS40.grown (IsS40.q HI0) hg (IsS40.own_ne HI0.out HO246.out (by decide))); replace HB := Aside0.mk ((by rw [hw]; exact below_set (HB.out) (Nat.le_trans HL.out GB21.out) : Below w0.heap.size w0 w31)); replace HK := Aside0.mk (KeepBut.trans (hk_ HK) (KeepBut.of_grown hg g) (Kd.R_base2 HO246.out)); replace HO246 := Aside0.mk (hp_); clear hg hw hp_))
     go_ret
     exact ⟨_, by first | rfl | (simp [errW_none, errW_some] <;> rfl) | (simp [*, errW_none, errW_some] <;> rfl), Kd.R_p HO246, IsS40.q HI0, hbI_ HB (IsS40.ge HI0.out), hk_ HK⟩
    ·rw [if_neg c20] at H
     exact absurd H (by simp)
   ·rw [if_neg c19] at H
    exact absurd H (by simp)
  ·rw [if_neg c17] at H
   have c17b0 : (t252 == 1) = false := beq_eq_false_iff_ne.mpr c17
   have c17b1 : (t252 != 1) = true := bne_iff_ne.mpr c17
   by_cases c32 : t252 = 2
   ·rw [if_pos c32] at H
    have c32b0 : (t252 == 2) = true := beq_iff_eq.mpr c32
    have c32b1 : (t252 != 2) = false := bne_eq_false_iff_eq.mpr c32
    clear c32
    by_cases c33 : 0 ≤ t249
    ·rw [if_pos c33] at H
     have c33b0 := eq_true c33
     have c33b1 : decide (0 ≤ t249) = true := decide_eq_true c33
     clear c33
     by_cases c34 : t249 ≤ (t244.length : Int)
     ·rw [if_pos c34] at H
      have c34b0 := eq_true c34
      have c34b1 : decide (t249 ≤ (t244.length : Int)) = true := decide_eq_true c34
      clear c34
      obtain ⟨y266, hy266⟩ : ∃ y_ : List (S52), y_ = (t244.take (t249 : Int).toNat) := ⟨_, rfl⟩
      replace H : (some (y266, t253, t254)) = some (r1, r2, r3) := by first | (rw [hy266]; with_reducible exact H) | (have H2_ := (Option.bind_some _ _).symm.trans H; rw [hy266]; with_reducible exact H2_) | (have H2_ := (Option.bind_some _ _).symm.trans H; with_reducible exact H2_) | with_reducible exact H | (rw [hy266]; exact H) | exact H
      have Ny266 := Aside0.mk hy266
      clear hy266
      simp only [Option.some.injEq, Prod.mk.injEq] at H
      obtain ⟨rfl, rfl, rfl⟩ := H
      go_enter Try.func14, Try.ntmps14
      go_wp2_with (first | ((with_reducible refine gate_callee (f := 25) rfl ?_); refine gl_ (some 10) Try.func25 #[.pointer (some ⟨g, 0, none⟩)] rfl rfl rfl ?_; (with_reducible refine (spec_l1Cur_rule.calls k g s0_0 s0_1 s0_2 t244 t247 t248 w0 _ ?side1 ?side2 A2.out).mono ?_); (case side1 => exact IsS40.q HI0); (case side2 => exact hbI_ HB (IsS40.ge HI0.out)); rintro e w35 ⟨v245, rfl, ho0, hi, hb, hk⟩; refine ⟨_, rfl, ?_⟩; have HO246 := Aside0.mk (Kd.R_lower ho0 (keep_size (hk_ HK))); replace HK := Aside0.mk (KeepBut.trans (hk_ HK) hk (.inl rfl)); replace HB := Aside0.mk (hb); replace HI0 := Aside0.mk (hi); (try clear hb); (try clear hb2); (try clear hk); (try clear hi); (try clear ho0); obtain ⟨Ao36, co36, eo36⟩ := Kd.R_slice HO246.out; subst eo36) | ((with_reducible refine gate_callee (f := 24) rfl ?_); refine gl_ (some 14) Try.func24 #[.pointer (some ⟨g, 0, none⟩), .int .i64 (t244.length : Int)] rfl rfl rfl ?_; (with_reducible refine (spec_l1Cur_pick.calls g s0_0 t247 t248 (t244.length : Int) t249 t250 t251 w0 _ ?side1 ?side2 A3.out).mono ?_); (case side1 => exact IsS40.q HI0); (case side2 => exact hbI_ HB (IsS40.ge HI0.out)); rintro e w37 ⟨rfl, hi, hb, hk⟩; refine ⟨_, rfl, ?_⟩; have n0_ := IsS40.rk HI0 HO246 hk; have n1_ := Aside0.mk (KeepBut.trans (hk_ HK) hk (.inl rfl)); have n2_ := Aside0.mk (hb); have n3_ := Aside0.mk (hi); clear HO246 HK HB HI0; have HO246 := n0_; have HK := n1_; have HB := n2_; have HI0 := n3_; clear n0_ n1_ n2_ n3_; (try clear hb); (try clear hb2); (try clear hk); (try clear hi)) | ((with_reducible refine gate_callee (f := 24) rfl ?_); refine gl_ (some 16) Try.func24 #[.pointer (some ⟨g, 0, none⟩), .int .i64 30] rfl rfl rfl ?_; (with_reducible refine (spec_l1Cur_pick.calls g s0_0 t250 t251 30 t252 t253 t254 w0 _ ?side1 ?side2 A4.out).mono ?_); (case side1 => exact IsS40.q HI0); (case side2 => exact hbI_ HB (IsS40.ge HI0.out)); rintro e w38 ⟨rfl, hi, hb, hk⟩; refine ⟨_, rfl, ?_⟩; have n0_ := IsS40.rk HI0 HO246 hk; have n1_ := Aside0.mk (KeepBut.trans (hk_ HK) hk (.inl rfl)); have n2_ := Aside0.mk (hb); have n3_ := Aside0.mk (hi); clear HO246 HK HB HI0; have HO246 := n0_; have HK := n1_; have HB := n2_; have HI0 := n3_; clear n0_ n1_ n2_ n3_; (try clear hb); (try clear hb2); (try clear hk); (try clear hi); have q39 : (t249 : Int) ≤ ((t244.length : Int) : Int) := of_decide_eq_true (by first | (with_reducible assumption) | assumption); obtain ⟨i039, hi039, _, hsz39, _⟩ := info_parts info52; have hcut39 := cut_to (P := Try.prog) 23 52 .i64 Try.underlying23 hi039 Ao36 t244.length co36 t249 (of_decide_eq_true (by first | (with_reducible assumption) | assumption)) q39 (Kd.R_reads' HO246.out).2.1; have hr39 := Kd.R_take (m := (t249 : Int).toNat) HO246.out (by omega); have hy39 : y266.length = (t249 : Int).toNat := (by rw [Ny266.out, List.length_take]; omega); rw [← Ny266.out] at hr39; rw [← hy39] at hr39 hcut39; clear hy39 hi039 hsz39 HO246; have HO268 := Aside0.mk hr39; clear hr39; replace q39 := eq_true q39))
      go_ret
      exact ⟨_, by first | rfl | (simp [errW_none, errW_some] <;> rfl) | (simp [*, errW_none, errW_some] <;> rfl), Kd.R_p HO268, IsS40.q HI0, hbI_ HB (IsS40.ge HI0.out), hk_ HK⟩
     ·rw [if_neg c34] at H
      exact absurd H (by simp)
    ·rw [if_neg c33] at H
     exact absurd H (by simp)
   ·rw [if_neg c32] at H
    have c32b0 : (t252 == 2) = false := beq_eq_false_iff_ne.mpr c32
    have c32b1 : (t252 != 2) = true := bne_iff_ne.mpr c32
    by_cases c40 : t252 = 3
    ·rw [if_pos c40] at H
     have c40b0 : (t252 == 3) = true := beq_iff_eq.mpr c40
     have c40b1 : (t252 != 3) = false := bne_eq_false_iff_eq.mpr c40
     clear c40
     by_cases c41 : t244.length < 8796093022208
     ·rw [if_pos c41] at H
      have LMc41 := Aside0.mk c41
      clear c41
      obtain ⟨y269, hy269⟩ : ∃ y_ : List (S52), y_ = (t244 ++ [(⟨0, 1⟩ : S52)]) := ⟨_, rfl⟩
      replace H : (some (y269, t253, t254)) = some (r1, r2, r3) := by first | (rw [hy269]; with_reducible exact H) | (have H2_ := (Option.bind_some _ _).symm.trans H; rw [hy269]; with_reducible exact H2_) | (have H2_ := (Option.bind_some _ _).symm.trans H; with_reducible exact H2_) | with_reducible exact H | (rw [hy269]; exact H) | exact H
      have Ny269 := Aside0.mk hy269
      clear hy269
      simp only [Option.some.injEq, Prod.mk.injEq] at H
      obtain ⟨rfl, rfl, rfl⟩ := H
      go_enter Try.func14, Try.ntmps14
      go_wp2_with (first | ((with_reducible refine gate_callee (f := 25) rfl ?_); refine gl_ (some 10) Try.func25 #[.pointer (some ⟨g, 0, none⟩)] rfl rfl rfl ?_; (with_reducible refine (spec_l1Cur_rule.calls k g s0_0 s0_1 s0_2 t244 t247 t248 w0 _ ?side1 ?side2 A2.out).mono ?_); (case side1 => exact IsS40.q HI0); (case side2 => exact hbI_ HB (IsS40.ge HI0.out)); rintro e w42 ⟨v245, rfl, ho0, hi, hb, hk⟩; refine ⟨_, rfl, ?_⟩; have HO246 := Aside0.mk (Kd.R_lower ho0 (keep_size (hk_ HK))); replace HK := Aside0.mk (KeepBut.trans (hk_ HK) hk (.inl rfl)); replace HB := Aside0.mk (hb); replace HI0 := Aside0.mk (hi); (try clear hb); (try clear hb2); (try clear hk); (try clear hi); (try clear ho0); obtain ⟨Ao43, co43, eo43⟩ := Kd.R_slice HO246.out; subst eo43) | ((with_reducible refine gate_callee (f := 24) rfl ?_); refine gl_ (some 14) Try.func24 #[.pointer (some ⟨g, 0, none⟩), .int .i64 (t244.length : Int)] rfl rfl rfl ?_; (with_reducible refine (spec_l1Cur_pick.calls g s0_0 t247 t248 (t244.length : Int) t249 t250 t251 w0 _ ?side1 ?side2 A3.out).mono ?_); (case side1 => exact IsS40.q HI0); (case side2 => exact hbI_ HB (IsS40.ge HI0.out)); rintro e w44 ⟨rfl, hi, hb, hk⟩; refine ⟨_, rfl, ?_⟩; have n0_ := IsS40.rk HI0 HO246 hk; have n1_ := Aside0.mk (KeepBut.trans (hk_ HK) hk (.inl rfl)); have n2_ := Aside0.mk (hb); have n3_ := Aside0.mk (hi); clear HO246 HK HB HI0; have HO246 := n0_; have HK := n1_; have HB := n2_; have HI0 := n3_; clear n0_ n1_ n2_ n3_; (try clear hb); (try clear hb2); (try clear hk); (try clear hi)) | ((with_reducible refine gate_callee (f := 24) rfl ?_); refine gl_ (some 16) Try.func24 #[.pointer (some ⟨g, 0, none⟩), .int .i64 30] rfl rfl rfl ?_; (with_reducible refine (spec_l1Cur_pick.calls g s0_0 t250 t251 30 t252 t253 t254 w0 _ ?side1 ?side2 A4.out).mono ?_); (case side1 => exact IsS40.q HI0); (case side2 => exact hbI_ HB (IsS40.ge HI0.out)); rintro e w45 ⟨rfl, hi, hb, hk⟩; refine ⟨_, rfl, ?_⟩; have n0_ := IsS40.rk HI0 HO246 hk; have n1_ := Aside0.mk (KeepBut.trans (hk_ HK) hk (.inl rfl)); have n2_ := Aside0.mk (hb); have n3_ := Aside0.mk (hi); clear HO246 HK HB HI0; have HO246 := n0_; have HK := n1_; have HB := n2_; have HI0 := n3_; clear n0_ n1_ n2_ n3_; (try clear hb); (try clear hb2); (try clear hk); (try clear hi)) | ((with_reducible refine gate_builtin (b := .append) (xs := #[.tmp 42, .tmp 44]) rfl ?_); at_builtin; refine Kd.R_append k52 w.heap.size rfl (.tmp 42) (.tmp 44) 23 52 (.agg #[(.int .i64 0), (.int .i64 0)]) 16 rfl Try.underlying23 info52 rfl (by decide) (by omega) (.slice Ao43 t244.length co43) t244 (⟨0, 1⟩ : S52) [.int .i64 0, .int .i64 1] (fun _ => True) (fun _ => False) rfl rfl ?aP (fun _ hk => hk.elim) ?aF ?aO (Below.refl _ _) ?aS ?aL ?_; (case aP => exact k52_mkM _ _ _ (⟨0, 1⟩ : S52)); (case aF => exact (fun _ _ => trivial)); (case aO => exact (Kd.R_p HO246)); (case aS => exact (keep_size (hk_ HK))); (case aL => have := LMc41.out; omega); intro v270 w46 ho hb hg hat; rw [← Ny269.out] at ho; have HO271 := Aside0.mk (ho); replace HB := Aside0.mk (below_weaken (hbI_ HB (IsS40.ge HI0.out)) HL.out hb); replace HK := Aside0.mk (KeepBut.trans (hk_ HK) (KeepBut.of_grown hg g) (Kd.R_base2 HO246.out)); replace HI0 := Aside0.mk (IsS40.grown (IsS40.q HI0) hg (IsS40.own_ne HI0.out HO246.out (by decide))); clear HO246; clear ho hb hg hat))
      go_ret
      exact ⟨_, by first | rfl | (simp [errW_none, errW_some] <;> rfl) | (simp [*, errW_none, errW_some] <;> rfl), Kd.R_p HO271, IsS40.q HI0, hbI_ HB (IsS40.ge HI0.out), hk_ HK⟩
     ·rw [if_neg c41] at H
      exact absurd H (by simp)
    ·rw [if_neg c40] at H
     have c40b0 : (t252 == 3) = false := beq_eq_false_iff_ne.mpr c40
     have c40b1 : (t252 != 3) = true := bne_iff_ne.mpr c40
     by_cases c47 : t252 = 4
     ·rw [if_pos c47] at H
      have c47b0 : (t252 == 4) = true := beq_iff_eq.mpr c47
      have c47b1 : (t252 != 4) = false := bne_eq_false_iff_eq.mpr c47
      clear c47
      obtain ⟨y272, hy272⟩ : ∃ y_ : List (S52), y_ = (([(⟨0, 1⟩ : S52)] : List (S52))) := ⟨_, rfl⟩
      replace H : (spec_l1Cur_anyRule.l0 k y272 4 s0_0 t253 t254) = some (r1, r2, r3) := by first | (rw [hy272]; with_reducible exact H) | (have H2_ := (Option.bind_some _ _).symm.trans H; rw [hy272]; with_reducible exact H2_) | (have H2_ := (Option.bind_some _ _).symm.trans H; with_reducible exact H2_) | with_reducible exact H | (rw [hy272]; exact H) | exact H
      have Ny272 := Aside0.mk hy272
      clear hy272
      have H' := Aside0.mk H
      clear H
      go_enter Try.func14, Try.ntmps14
      go_wp2_with (first | ((with_reducible refine gate_callee (f := 25) rfl ?_); refine gl_ (some 10) Try.func25 #[.pointer (some ⟨g, 0, none⟩)] rfl rfl rfl ?_; (with_reducible refine (spec_l1Cur_rule.calls k g s0_0 s0_1 s0_2 t244 t247 t248 w0 _ ?side1 ?side2 A2.out).mono ?_); (case side1 => exact IsS40.q HI0); (case side2 => exact hbI_ HB (IsS40.ge HI0.out)); rintro e w48 ⟨v245, rfl, ho0, hi, hb, hk⟩; refine ⟨_, rfl, ?_⟩; have HO246 := Aside0.mk (Kd.R_lower ho0 (keep_size (hk_ HK))); replace HK := Aside0.mk (KeepBut.trans (hk_ HK) hk (.inl rfl)); replace HB := Aside0.mk (hb); replace HI0 := Aside0.mk (hi); (try clear hb); (try clear hb2); (try clear hk); (try clear hi); (try clear ho0); obtain ⟨Ao49, co49, eo49⟩ := Kd.R_slice HO246.out; subst eo49; try clear HO246) | ((with_reducible refine gate_callee (f := 24) rfl ?_); refine gl_ (some 14) Try.func24 #[.pointer (some ⟨g, 0, none⟩), .int .i64 (t244.length : Int)] rfl rfl rfl ?_; (with_reducible refine (spec_l1Cur_pick.calls g s0_0 t247 t248 (t244.length : Int) t249 t250 t251 w0 _ ?side1 ?side2 A3.out).mono ?_); (case side1 => exact IsS40.q HI0); (case side2 => exact hbI_ HB (IsS40.ge HI0.out)); rintro e w50 ⟨rfl, hi, hb, hk⟩; refine ⟨_, rfl, ?_⟩; replace HK := Aside0.mk (KeepBut.trans (hk_ HK) hk (.inl rfl)); replace HB := Aside0.mk (hb); replace HI0 := Aside0.mk (hi); (try clear hb); (try clear hb2); (try clear hk); (try clear hi)) | ((with_reducible refine gate_callee (f := 24) rfl ?_); refine gl_ (some 16) Try.func24 #[.pointer (some ⟨g, 0, none⟩), .int .i64 30] rfl rfl rfl ?_; (with_reducible refine (spec_l1Cur_pick.calls g s0_0 t250 t251 30 t252 t253 t254 w0 _ ?side1 ?side2 A4.out).mono ?_); (case side1 => exact IsS40.q HI0); (case side2 => exact hbI_ HB (IsS40.ge HI0.out)); rintro e w51 ⟨rfl, hi, hb, hk⟩; refine ⟨_, rfl, ?_⟩; replace HK := Aside0.mk (KeepBut.trans (hk_ HK) hk (.inl rfl)); replace HB := Aside0.mk (hb); replace HI0 := Aside0.mk (hi); (try clear hb); (try clear hb2); (try clear hk); (try clear hi)) | ((with_reducible refine gate_dst (N := 49) rfl ?_); refine Kd.R_lit k52 _ 52 ?hg (N := 49) ?hd (xs := ([(⟨0, 1⟩ : S52)] : List (S52))) (inner := [.int .i64 0, .int .i64 1]) (ok := fun _ => True) (okp := fun _ => True) ?hr ?hp (fun _ hk => hk) trivial (Below.refl _ _) (Nat.le_refl _) (by simp) ?_; (case hd => rfl); (case hg => rfl); (case hr => first | (go_simp; done) | (go_simp; rfl)); (case hp => exact (Reps.c2 (show Kd.M k52 _ _ _ (⟨0, 1⟩ : S52) [.int .i64 0, .int .i64 1] from (k52_mkM _ _ _ (⟨0, 1⟩ : S52) )) (Reps.none _ _))); intro v273 w52 ho53 hb hg_ hnew_; clear hg_ hnew_; (first | rw [← Ny272.out] at ho53 | (simp only [Int.reduceToNat] at ho53; rw [← Ny272.out] at ho53)); have HO274 := Aside0.mk (Kd.R_lower ho53 (keep_size (hk_ HK))); replace HK := hkb_ HK hb; replace HB := Aside0.mk (below_step (hbI_ HB (IsS40.ge HI0.out)) hb); replace HI0 := IsS40.b HI0 hb; clear hb ho53))
      go_loopg [3, 5] k (fun kq v3 v5 w' => ∃ (x3_1 : List (S52)) (x5_1 : Int), v5 = .int .i64 x5_1 ∧ Aside0 (spec_l1Cur_anyRule.l0 kq x3_1 x5_1 s0_0 t253 t254 = some (r1, r2, r3)) ∧ Aside0 (kq ≤ k) ∧ Aside0 (Kd.R k52 52 w' w.heap.size (fun _ => True) v3 x3_1) ∧ Aside0 (IsS40 w0 w' g s0_0 t253 t254) ∧ Aside0 (KeepBut w w' g none) ∧ Aside0 (Below w0.heap.size w0 w'))
      case atStart => exact ⟨(y272), (4), (by first | rfl | (simp; done) | (simp [*]; done)), H', ⟨Nat.le_refl _⟩, ⟨Kd.R_p HO274⟩, ⟨IsS40.q HI0⟩, ⟨hk_ HK⟩, ⟨hbI_ HB (IsS40.ge HI0.out)⟩⟩
      case round =>
       clear H'
       (try clear c1); (try clear hx1); (try clear hf1); (try clear c2); (try clear p2); (try clear q2); (try clear hx2); (try clear hf2); (try clear c3); (try clear q3); (try clear hx3); (try clear hf3); (try clear c4); (try clear c5); (try clear c5b0); (try clear c5b1); (try clear p6); (try clear c7); (try clear c7b0); (try clear c8); (try clear c8b0); (try clear c9); (try clear p9); (try clear q9); (try clear hx9); (try clear hf9); (try clear c14); (try clear c15); (try clear hx15); (try clear hf15); (try clear c17); (try clear c17b0); (try clear c17b1); (try clear c19); (try clear c19b0); (try clear c20); (try clear c20b0); (try clear c21); (try clear p21); (try clear q21); (try clear hx21); (try clear hf21); (try clear c24); (try clear c25); (try clear c27); (try clear c30); (try clear hx30); (try clear hf30); (try clear c32); (try clear c32b0); (try clear c32b1); (try clear c33); (try clear c33b0); (try clear c33b1); (try clear c34); (try clear c34b0); (try clear c34b1); (try clear q39); (try clear c40); (try clear c40b0); (try clear c40b1); (try clear c41); (try clear c47); (try clear c47b0); (try clear c47b1)
       obtain ⟨x3_1, x5_1, rfl, HA, HK1, HO_3, HI0, HK, HB⟩ := hrel
       cases gk with
       | zero => exact absurd HA.out (by simp [spec_l1Cur_anyRule.l0])
       | succ k1 =>
        have H := HA.out
        clear HA
        simp only [spec_l1Cur_anyRule.l0] at H
        by_cases c54 : x5_1 > 0
        ·rw [if_pos c54] at H
         have c54b0 : decide (0 < x5_1) = true := decide_eq_true c54
         clear c54
         by_cases c55 : x3_1.length + x3_1.length < 8796093022208
         ·rw [if_pos c55] at H
          have LMc55 := Aside0.mk c55
          clear c55
          obtain ⟨y275, hy275⟩ : ∃ y_ : List (S52), y_ = (x3_1 ++ x3_1) := ⟨_, rfl⟩
          replace H : (if y275.length < 8796093022208 then (spec_l1Cur_anyRule.l0 k1 (y275 ++ [(⟨2, 0⟩ : S52)]) (wrap64 (x5_1 - 1)) s0_0 t253 t254) else (none)) = some (r1, r2, r3) := by first | (rw [hy275]; with_reducible exact H) | (have H2_ := (Option.bind_some _ _).symm.trans H; rw [hy275]; with_reducible exact H2_) | (have H2_ := (Option.bind_some _ _).symm.trans H; with_reducible exact H2_) | with_reducible exact H | (rw [hy275]; exact H) | exact H
          have Ny275 := Aside0.mk hy275
          clear hy275
          by_cases c56 : y275.length < 8796093022208
          ·rw [if_pos c56] at H
           have LMc56 := Aside0.mk c56
           clear c56
           obtain ⟨y278, hy278⟩ : ∃ y_ : List (S52), y_ = (y275 ++ [(⟨2, 0⟩ : S52)]) := ⟨_, rfl⟩
           replace H : (spec_l1Cur_anyRule.l0 k1 y278 (wrap64 (x5_1 - 1)) s0_0 t253 t254) = some (r1, r2, r3) := by first | (rw [hy278]; with_reducible exact H) | (have H2_ := (Option.bind_some _ _).symm.trans H; rw [hy278]; with_reducible exact H2_) | (have H2_ := (Option.bind_some _ _).symm.trans H; with_reducible exact H2_) | with_reducible exact H | (rw [hy278]; exact H) | exact H
           have Ny278 := Aside0.mk hy278
           clear hy278
           have H' := Aside0.mk H
           clear H
           obtain ⟨Ao58, co58, eo58⟩ := Kd.R_slice HO_3.out
           subst eo58
           go_wp2_with (first | ((with_reducible refine gate_builtin (b := .append) (xs := #[.tmp 54, .tmp 55]) rfl ?_); at_builtin; refine Kd.R_append_rows k52 w.heap.size rfl (.tmp 54) (.tmp 55) 23 52 (.agg #[(.int .i64 0), (.int .i64 0)]) 16 rfl Try.underlying23 info52 rfl (by decide) (by omega) (.slice Ao58 x3_1.length co58) x3_1 x3_1 _ _ _ (fun _ => True) (fun _ => False) rfl rfl ?aO ?aR (fun _ _ h => h) (fun _ h => h.elim) ?aF (Below.refl _ _) ?aS ?aL ?_; (case aR => exact Kd.C_o HO_3); (case aF => exact (fun _ _ => trivial)); (case aO => exact (Kd.R_p HO_3)); (case aS => exact (keep_size (hk_ HK))); (case aL => have := LMc55.out; omega); intro v276 w57 ho hb hg hat; rw [← Ny275.out] at ho; have HO277 := Aside0.mk (ho); replace HB := Aside0.mk (below_weaken (hbI_ HB (IsS40.ge HI0.out)) HL.out hb); replace HK := Aside0.mk (KeepBut.trans (hk_ HK) (KeepBut.of_grown hg g) (Kd.R_base2 HO_3.out)); replace HI0 := Aside0.mk (IsS40.grown (IsS40.q HI0) hg (IsS40.own_ne HI0.out HO_3.out (by decide))); clear HO_3; clear ho hb hg hat) | ((with_reducible refine gate_builtin (b := .append) (xs := #[.tmp 57, .tmp 59]) rfl ?_); at_builtin; refine Kd.R_append k52 w.heap.size rfl (.tmp 57) (.tmp 59) 23 52 (.agg #[(.int .i64 0), (.int .i64 0)]) 16 rfl Try.underlying23 info52 rfl (by decide) (by omega) v276 y275 (⟨2, 0⟩ : S52) [.int .i64 2, .int .i64 0] (fun _ => True) (fun _ => False) rfl rfl ?aP (fun _ hk => hk.elim) ?aF ?aO (Below.refl _ _) ?aS ?aL ?_; (case aP => exact k52_mkM _ _ _ (⟨2, 0⟩ : S52)); (case aF => exact (fun _ _ => trivial)); (case aO => exact (Kd.R_p HO277)); (case aS => exact (keep_size (hk_ HK))); (case aL => have := LMc56.out; omega); intro v279 w59 ho hb hg hat; rw [← Ny278.out] at ho; have HO280 := Aside0.mk (ho); replace HB := Aside0.mk (below_weaken (hbI_ HB (IsS40.ge HI0.out)) HL.out hb); replace HK := Aside0.mk (KeepBut.trans (hk_ HK) (KeepBut.of_grown hg g) (Kd.R_base2 HO277.out)); replace HI0 := Aside0.mk (IsS40.grown (IsS40.q HI0) hg (IsS40.own_ne HI0.out HO277.out (by decide))); clear HO277; clear ho hb hg hat))
           go_roundg k1
           case measure => have := HK1.out; omega
           case rel => exact ⟨(y278), (wrap64 (x5_1 - 1)), (by first | rfl | (simp; done) | (simp [*]; done)), H', ⟨by have := HK1.out; omega⟩, ⟨Kd.R_p HO280⟩, ⟨IsS40.q HI0⟩, ⟨hk_ HK⟩, ⟨hbI_ HB (IsS40.ge HI0.out)⟩⟩
          ·rw [if_neg c56] at H
           exact absurd H (by simp)
         ·rw [if_neg c55] at H
          exact absurd H (by simp)
        ·rw [if_neg c54] at H
         have c54b0 : decide (0 < x5_1) = false := decide_eq_false c54
         clear c54
         replace H := Option.bind_eq_some_iff.mp H
         obtain ⟨⟨t281, t282, t283⟩, A600, H⟩ := H
         replace H : (spec_l1Cur_anyRule.l1 k1 x3_1 (wrap64 (39 + (wrap64 (2 * t281)))) s0_0 t282 t283) = some (r1, r2, r3) := H
         have A60 := Aside0.mk A600
         clear A600
         have H' := Aside0.mk H
         clear H
         go_wp2_with (first | ((with_reducible refine gate_callee (f := 24) rfl ?_); refine gl_ (some 62) Try.func24 #[.pointer (some ⟨g, 0, none⟩), .int .i64 2] rfl rfl rfl ?_; (with_reducible refine (spec_l1Cur_pick.calls g s0_0 t253 t254 2 t281 t282 t283 w0 _ ?side1 ?side2 A60.out).mono ?_); (case side1 => exact IsS40.q HI0); (case side2 => exact hbI_ HB (IsS40.ge HI0.out)); rintro e w61 ⟨rfl, hi, hb, hk⟩; refine ⟨_, rfl, ?_⟩; have n0_ := IsS40.rk HI0 HO_3 hk; have n1_ := Aside0.mk (KeepBut.trans (hk_ HK) hk (.inl rfl)); have n2_ := Aside0.mk (hb); have n3_ := Aside0.mk (hi); clear HO_3 HK HB HI0; have HO_3 := n0_; have HK := n1_; have HB := n2_; have HI0 := n3_; clear n0_ n1_ n2_ n3_; (try clear hb); (try clear hb2); (try clear hk); (try clear hi)))
         go_loopg [3] k1 (fun kq v3 w' => ∃ (x3_2 : List (S52)), Aside0 (spec_l1Cur_anyRule.l1 kq x3_2 (wrap64 (39 + (wrap64 (2 * t281)))) s0_0 t282 t283 = some (r1, r2, r3)) ∧ Aside0 (kq ≤ k1) ∧ Aside0 (Kd.R k52 52 w' w.heap.size (fun _ => True) v3 x3_2) ∧ Aside0 (IsS40 w0 w' g s0_0 t282 t283) ∧ Aside0 (KeepBut w w' g none) ∧ Aside0 (Below w0.heap.size w0 w'))
         case atStart => exact ⟨(x3_1), H', ⟨Nat.le_refl _⟩, ⟨Kd.R_p HO_3⟩, ⟨IsS40.q HI0⟩, ⟨hk_ HK⟩, ⟨hbI_ HB (IsS40.ge HI0.out)⟩⟩
         case round =>
          clear H'
          (try clear c1); (try clear hx1); (try clear hf1); (try clear c2); (try clear p2); (try clear q2); (try clear hx2); (try clear hf2); (try clear c3); (try clear q3); (try clear hx3); (try clear hf3); (try clear c4); (try clear c5); (try clear c5b0); (try clear c5b1); (try clear p6); (try clear c7); (try clear c7b0); (try clear c8); (try clear c8b0); (try clear c9); (try clear p9); (try clear q9); (try clear hx9); (try clear hf9); (try clear c14); (try clear c15); (try clear hx15); (try clear hf15); (try clear c17); (try clear c17b0); (try clear c17b1); (try clear c19); (try clear c19b0); (try clear c20); (try clear c20b0); (try clear c21); (try clear p21); (try clear q21); (try clear hx21); (try clear hf21); (try clear c24); (try clear c25); (try clear c27); (try clear c30); (try clear hx30); (try clear hf30); (try clear c32); (try clear c32b0); (try clear c32b1); (try clear c33); (try clear c33b0); (try clear c33b1); (try clear c34); (try clear c34b0); (try clear c34b1); (try clear q39); (try clear c40); (try clear c40b0); (try clear c40b1); (try clear c41); (try clear c47); (try clear c47b0); (try clear c47b1); (try clear c54); (try clear c54b0); (try clear c55); (try clear c56)
          obtain ⟨x3_2, HA, HK2, HO_3, HI0, HK, HB⟩ := hrel
          cases gk with
          | zero => exact absurd HA.out (by simp [spec_l1Cur_anyRule.l1])
          | succ k2 =>
           have H := HA.out
           clear HA
           simp only [spec_l1Cur_anyRule.l1] at H
           by_cases c62 : (x3_2.length : Int) < (wrap64 (39 + (wrap64 (2 * t281))))
           ·rw [if_pos c62] at H
            have c62b0 : decide ((x3_2.length : Int) < (wrap64 (39 + (wrap64 (2 * t281))))) = true := decide_eq_true c62
            clear c62
            obtain ⟨y284, hy284⟩ : ∃ y_ : List (S52), y_ = (([(⟨0, 1⟩ : S52), (⟨3, 0⟩ : S52)] : List (S52))) := ⟨_, rfl⟩
            replace H : (if x3_2.length + y284.length < 8796093022208 then (spec_l1Cur_anyRule.l1 k2 (x3_2 ++ y284) (wrap64 (39 + (wrap64 (2 * t281)))) s0_0 t282 t283) else (none)) = some (r1, r2, r3) := by first | (rw [hy284]; with_reducible exact H) | (have H2_ := (Option.bind_some _ _).symm.trans H; rw [hy284]; with_reducible exact H2_) | (have H2_ := (Option.bind_some _ _).symm.trans H; with_reducible exact H2_) | with_reducible exact H | (rw [hy284]; exact H) | exact H
            have Ny284 := Aside0.mk hy284
            clear hy284
            by_cases c63 : x3_2.length + y284.length < 8796093022208
            ·rw [if_pos c63] at H
             have LMc63 := Aside0.mk c63
             clear c63
             obtain ⟨y287, hy287⟩ : ∃ y_ : List (S52), y_ = (x3_2 ++ y284) := ⟨_, rfl⟩
             replace H : (spec_l1Cur_anyRule.l1 k2 y287 (wrap64 (39 + (wrap64 (2 * t281)))) s0_0 t282 t283) = some (r1, r2, r3) := by first | (rw [hy287]; with_reducible exact H) | (have H2_ := (Option.bind_some _ _).symm.trans H; rw [hy287]; with_reducible exact H2_) | (have H2_ := (Option.bind_some _ _).symm.trans H; with_reducible exact H2_) | with_reducible exact H | (rw [hy287]; exact H) | exact H
             have Ny287 := Aside0.mk hy287
             clear hy287
             have H' := Aside0.mk H
             clear H
             obtain ⟨Ao64, co64, eo64⟩ := Kd.R_slice HO_3.out
             subst eo64
             go_wp2_with (first | ((with_reducible refine gate_dst (N := 72) rfl ?_); refine Kd.R_lit k52 _ 52 ?hg (N := 72) ?hd (xs := ([(⟨0, 1⟩ : S52), (⟨3, 0⟩ : S52)] : List (S52))) (inner := [.int .i64 0, .int .i64 1, .int .i64 3, .int .i64 0]) (ok := fun _ => True) (okp := fun _ => True) ?hr ?hp (fun _ hk => hk) trivial (Below.refl _ _) (Nat.le_refl _) (by simp) ?_; (case hd => rfl); (case hg => rfl); (case hr => first | (go_simp; done) | (go_simp; rfl)); (case hp => exact (Reps.c2 (show Kd.M k52 _ _ _ (⟨0, 1⟩ : S52) [.int .i64 0, .int .i64 1] from (k52_mkM _ _ _ (⟨0, 1⟩ : S52) )) (Reps.c2 (show Kd.M k52 _ _ _ (⟨3, 0⟩ : S52) [.int .i64 3, .int .i64 0] from (k52_mkM _ _ _ (⟨3, 0⟩ : S52) )) (Reps.none _ _)))); intro v285 w65 ho66 hb hg_ hnew_; clear hg_ hnew_; (first | rw [← Ny284.out] at ho66 | (simp only [Int.reduceToNat] at ho66; rw [← Ny284.out] at ho66)); have HO286 := Aside0.mk (Kd.R_lower (Kd.R_nw ho66 HO_3) (keep_size (hk_ HK))); replace HO_3 := Kd.R_e HO_3 ho66 hb; replace HK := hkb_ HK hb; replace HB := Aside0.mk (below_step (hbI_ HB (IsS40.ge HI0.out)) hb); replace HI0 := IsS40.b HI0 hb; clear hb ho66; obtain ⟨Ao68, co68, eo68⟩ := Kd.R_slice HO286.out; subst eo68) | ((with_reducible refine gate_builtin (b := .append) (xs := #[.tmp 69, .tmp 72]) rfl ?_); at_builtin; refine Kd.R_append_rows k52 w.heap.size rfl (.tmp 69) (.tmp 72) 23 52 (.agg #[(.int .i64 0), (.int .i64 0)]) 16 rfl Try.underlying23 info52 rfl (by decide) (by omega) (.slice Ao64 x3_2.length co64) x3_2 y284 _ _ _ (fun k_ => some k_ ≠ (.slice Ao68 y284.length co68 : Value).ownBlock) (fun _ => False) rfl rfl ?aO ?aR (fun _ _ h => h) (fun _ h => h.elim) ?aF (Below.refl _ _) ?aS ?aL ?_; (case aR => exact Kd.C_o HO286); (case aF => exact (fun k_ hk => Kd.fresh' (Kd.R_lt (Kd.R_p HO286)) k_ hk)); (case aO => exact (Kd.R_pp (Kd.R_mono HO_3.out (fun _ hk => hk.2)))); (case aS => exact (keep_size (hk_ HK))); (case aL => have := LMc63.out; omega); intro v288 w67 ho hb hg hat; rw [← Ny287.out] at ho; have HO289 := Aside0.mk (ho); replace HO286 := Aside0.mk (Kd.R_after (ok := (fun _ => True)) (Kd.R_p HO286) hg hat); replace HB := Aside0.mk (below_weaken (hbI_ HB (IsS40.ge HI0.out)) HL.out hb); replace HK := Aside0.mk (KeepBut.trans (hk_ HK) (KeepBut.of_grown hg g) (Kd.R_base2 HO_3.out)); replace HI0 := Aside0.mk (IsS40.grown (IsS40.q HI0) hg (IsS40.own_ne HI0.out HO_3.out (by decide))); clear HO_3; clear ho hb hg hat))
             go_roundg k2
             case measure => have := HK1.out; have := HK2.out; omega
             case rel => exact ⟨(y287), H', ⟨by have := HK1.out; have := HK2.out; omega⟩, ⟨Kd.R_pp (Kd.R_mono HO289.out (fun _ hk => trivial))⟩, ⟨IsS40.q HI0⟩, ⟨hk_ HK⟩, ⟨hbI_ HB (IsS40.ge HI0.out)⟩⟩
            ·rw [if_neg c63] at H
             exact absurd H (by simp)
           ·rw [if_neg c62] at H
            have c62b0 : decide ((x3_2.length : Int) < (wrap64 (39 + (wrap64 (2 * t281))))) = false := decide_eq_false c62
            clear c62
            simp only [Option.some.injEq, Prod.mk.injEq] at H
            obtain ⟨rfl, rfl, rfl⟩ := H
            obtain ⟨Ao69, co69, eo69⟩ := Kd.R_slice HO_3.out
            subst eo69
            go_wp2
            go_ret
            exact ⟨_, by first | rfl | (simp [errW_none, errW_some] <;> rfl) | (simp [*, errW_none, errW_some] <;> rfl), Kd.R_p HO_3, IsS40.q HI0, hbI_ HB (IsS40.ge HI0.out), hk_ HK⟩
     ·rw [if_neg c47] at H
      have c47b0 : (t252 == 4) = false := beq_eq_false_iff_ne.mpr c47
      have c47b1 : (t252 != 4) = true := bne_iff_ne.mpr c47
      by_cases c70 : t252 = 5
      ·rw [if_pos c70] at H
       have c70b0 : (t252 == 5) = true := beq_iff_eq.mpr c70
       have c70b1 : (t252 != 5) = false := bne_eq_false_iff_eq.mpr c70
       clear c70
       obtain ⟨y290, hy290⟩ : ∃ y_ : List (S52), y_ = (([(⟨0, 1⟩ : S52)] : List (S52))) := ⟨_, rfl⟩
       replace H : ((spec_l1Cur_pick.f s0_0 t253 t254 2).bind fun bt293 => (spec_l1Cur_anyRule.l2 k y290 (wrap64 (11 + bt293.1)) s0_0 bt293.2.1 bt293.2.2)) = some (r1, r2, r3) := by first | (rw [hy290]; with_reducible exact H) | (have H2_ := (Option.bind_some _ _).symm.trans H; rw [hy290]; with_reducible exact H2_) | (have H2_ := (Option.bind_some _ _).symm.trans H; with_reducible exact H2_) | with_reducible exact H | (rw [hy290]; exact H) | exact H
       have Ny290 := Aside0.mk hy290
       clear hy290
       replace H := Option.bind_eq_some_iff.mp H
       obtain ⟨⟨t293, t294, t295⟩, A710, H⟩ := H
       replace H : (spec_l1Cur_anyRule.l2 k y290 (wrap64 (11 + t293)) s0_0 t294 t295) = some (r1, r2, r3) := H
       have A71 := Aside0.mk A710
       clear A710
       have H' := Aside0.mk H
       clear H
       go_enter Try.func14, Try.ntmps14
       go_wp2_with (first | ((with_reducible refine gate_callee (f := 25) rfl ?_); refine gl_ (some 10) Try.func25 #[.pointer (some ⟨g, 0, none⟩)] rfl rfl rfl ?_; (with_reducible refine (spec_l1Cur_rule.calls k g s0_0 s0_1 s0_2 t244 t247 t248 w0 _ ?side1 ?side2 A2.out).mono ?_); (case side1 => exact IsS40.q HI0); (case side2 => exact hbI_ HB (IsS40.ge HI0.out)); rintro e w72 ⟨v245, rfl, ho0, hi, hb, hk⟩; refine ⟨_, rfl, ?_⟩; have HO246 := Aside0.mk (Kd.R_lower ho0 (keep_size (hk_ HK))); replace HK := Aside0.mk (KeepBut.trans (hk_ HK) hk (.inl rfl)); replace HB := Aside0.mk (hb); replace HI0 := Aside0.mk (hi); (try clear hb); (try clear hb2); (try clear hk); (try clear hi); (try clear ho0); obtain ⟨Ao73, co73, eo73⟩ := Kd.R_slice HO246.out; subst eo73; try clear HO246) | ((with_reducible refine gate_callee (f := 24) rfl ?_); refine gl_ (some 14) Try.func24 #[.pointer (some ⟨g, 0, none⟩), .int .i64 (t244.length : Int)] rfl rfl rfl ?_; (with_reducible refine (spec_l1Cur_pick.calls g s0_0 t247 t248 (t244.length : Int) t249 t250 t251 w0 _ ?side1 ?side2 A3.out).mono ?_); (case side1 => exact IsS40.q HI0); (case side2 => exact hbI_ HB (IsS40.ge HI0.out)); rintro e w74 ⟨rfl, hi, hb, hk⟩; refine ⟨_, rfl, ?_⟩; replace HK := Aside0.mk (KeepBut.trans (hk_ HK) hk (.inl rfl)); replace HB := Aside0.mk (hb); replace HI0 := Aside0.mk (hi); (try clear hb); (try clear hb2); (try clear hk); (try clear hi)) | ((with_reducible refine gate_callee (f := 24) rfl ?_); refine gl_ (some 16) Try.func24 #[.pointer (some ⟨g, 0, none⟩), .int .i64 30] rfl rfl rfl ?_; (with_reducible refine (spec_l1Cur_pick.calls g s0_0 t250 t251 30 t252 t253 t254 w0 _ ?side1 ?side2 A4.out).mono ?_); (case side1 => exact IsS40.q HI0); (case side2 => exact hbI_ HB (IsS40.ge HI0.out)); rintro e w75 ⟨rfl, hi, hb, hk⟩; refine ⟨_, rfl, ?_⟩; replace HK := Aside0.mk (KeepBut.trans (hk_ HK) hk (.inl rfl)); replace HB := Aside0.mk (hb); replace HI0 := Aside0.mk (hi); (try clear hb); (try clear hb2); (try clear hk); (try clear hi)) | ((with_reducible refine gate_dst (N := 77) rfl ?_); refine Kd.R_lit k52 _ 52 ?hg (N := 77) ?hd (xs := ([(⟨0, 1⟩ : S52)] : List (S52))) (inner := [.int .i64 0, .int .i64 1]) (ok := fun _ => True) (okp := fun _ => True) ?hr ?hp (fun _ hk => hk) trivial (Below.refl _ _) (Nat.le_refl _) (by simp) ?_; (case hd => rfl); (case hg => rfl); (case hr => first | (go_simp; done) | (go_simp; rfl)); (case hp => exact (Reps.c2 (show Kd.M k52 _ _ _ (⟨0, 1⟩ : S52) [.int .i64 0, .int .i64 1] from (k52_mkM _ _ _ (⟨0, 1⟩ : S52) )) (Reps.none _ _))); intro v291 w76 ho77 hb hg_ hnew_; clear hg_ hnew_; (first | rw [← Ny290.out] at ho77 | (simp only [Int.reduceToNat] at ho77; rw [← Ny290.out] at ho77)); have HO292 := Aside0.mk (Kd.R_lower ho77 (keep_size (hk_ HK))); replace HK := hkb_ HK hb; replace HB := Aside0.mk (below_step (hbI_ HB (IsS40.ge HI0.out)) hb); replace HI0 := IsS40.b HI0 hb; clear hb ho77) | ((with_reducible refine gate_callee (f := 24) rfl ?_); refine gl_ (some 79) Try.func24 #[.pointer (some ⟨g, 0, none⟩), .int .i64 2] rfl rfl rfl ?_; (with_reducible refine (spec_l1Cur_pick.calls g s0_0 t253 t254 2 t293 t294 t295 w0 _ ?side1 ?side2 A71.out).mono ?_); (case side1 => exact IsS40.q HI0); (case side2 => exact hbI_ HB (IsS40.ge HI0.out)); rintro e w78 ⟨rfl, hi, hb, hk⟩; refine ⟨_, rfl, ?_⟩; have n0_ := IsS40.rk HI0 HO292 hk; have n1_ := Aside0.mk (KeepBut.trans (hk_ HK) hk (.inl rfl)); have n2_ := Aside0.mk (hb); have n3_ := Aside0.mk (hi); clear HO292 HK HB HI0; have HO292 := n0_; have HK := n1_; have HB := n2_; have HI0 := n3_; clear n0_ n1_ n2_ n3_; (try clear hb); (try clear hb2); (try clear hk); (try clear hi)))
       go_loopg [3, 7] k (fun kq v3 v7 w' => ∃ (x3_1 : List (S52)) (x7_1 : Int), v7 = .int .i64 x7_1 ∧ Aside0 (spec_l1Cur_anyRule.l2 kq x3_1 x7_1 s0_0 t294 t295 = some (r1, r2, r3)) ∧ Aside0 (kq ≤ k) ∧ Aside0 (Kd.R k52 52 w' w.heap.size (fun _ => True) v3 x3_1) ∧ Aside0 (IsS40 w0 w' g s0_0 t294 t295) ∧ Aside0 (KeepBut w w' g none) ∧ Aside0 (Below w0.heap.size w0 w'))
       case atStart => exact ⟨(y290), (wrap64 (11 + t293)), (by first | rfl | (simp; done) | (simp [*]; done)), H', ⟨Nat.le_refl _⟩, ⟨Kd.R_p HO292⟩, ⟨IsS40.q HI0⟩, ⟨hk_ HK⟩, ⟨hbI_ HB (IsS40.ge HI0.out)⟩⟩
       case round =>
        clear H'
        (try clear c1); (try clear hx1); (try clear hf1); (try clear c2); (try clear p2); (try clear q2); (try clear hx2); (try clear hf2); (try clear c3); (try clear q3); (try clear hx3); (try clear hf3); (try clear c4); (try clear c5); (try clear c5b0); (try clear c5b1); (try clear c6); (try clear p6); (try clear c7); (try clear c7b0); (try clear c8); (try clear c8b0); (try clear c9); (try clear p9); (try clear q9); (try clear hx9); (try clear hf9); (try clear c14); (try clear c15); (try clear hx15); (try clear hf15); (try clear c17); (try clear c17b0); (try clear c17b1); (try clear c19); (try clear c19b0); (try clear c20); (try clear c20b0); (try clear c21); (try clear p21); (try clear q21); (try clear hx21); (try clear hf21); (try clear c24); (try clear c25); (try clear c27); (try clear c30); (try clear hx30); (try clear hf30); (try clear c32); (try clear c32b0); (try clear c32b1); (try clear c33); (try clear c33b0); (try clear c33b1); (try clear c34); (try clear c34b0); (try clear c34b1); (try clear q39); (try clear c40); (try clear c40b0); (try clear c40b1); (try clear c41); (try clear c47); (try clear c47b0); (try clear c47b1); (try clear c54); (try clear c54b0); (try clear c55); (try clear c56); (try clear c62); (try clear c62b0); (try clear c63); (try clear p64); (try clear c70); (try clear c70b0); (try clear c70b1)
        obtain ⟨x3_1, x7_1, rfl, HA, HK1, HO_3, HI0, HK, HB⟩ := hrel
        cases gk with
        | zero => exact absurd HA.out (by simp [spec_l1Cur_anyRule.l2])
        | succ k1 =>
         have H := HA.out
         clear HA
         simp only [spec_l1Cur_anyRule.l2] at H
         by_cases c79 : x7_1 > 0
         ·rw [if_pos c79] at H
          have c79b0 : decide (0 < x7_1) = true := decide_eq_true c79
          clear c79
          obtain ⟨y296, hy296⟩ : ∃ y_ : List (S52), y_ = (([(⟨0, 2⟩ : S52), (⟨2, 0⟩ : S52)] : List (S52))) := ⟨_, rfl⟩
          replace H : (if x3_1.length + y296.length < 8796093022208 then (spec_l1Cur_anyRule.l2 k1 (x3_1 ++ y296) (wrap64 (x7_1 - 1)) s0_0 t294 t295) else (none)) = some (r1, r2, r3) := by first | (rw [hy296]; with_reducible exact H) | (have H2_ := (Option.bind_some _ _).symm.trans H; rw [hy296]; with_reducible exact H2_) | (have H2_ := (Option.bind_some _ _).symm.trans H; with_reducible exact H2_) | with_reducible exact H | (rw [hy296]; exact H) | exact H
          have Ny296 := Aside0.mk hy296
          clear hy296
          by_cases c80 : x3_1.length + y296.length < 8796093022208
          ·rw [if_pos c80] at H
           have LMc80 := Aside0.mk c80
           clear c80
           obtain ⟨y299, hy299⟩ : ∃ y_ : List (S52), y_ = (x3_1 ++ y296) := ⟨_, rfl⟩
           replace H : (spec_l1Cur_anyRule.l2 k1 y299 (wrap64 (x7_1 - 1)) s0_0 t294 t295) = some (r1, r2, r3) := by first | (rw [hy299]; with_reducible exact H) | (have H2_ := (Option.bind_some _ _).symm.trans H; rw [hy299]; with_reducible exact H2_) | (have H2_ := (Option.bind_some _ _).symm.trans H; with_reducible exact H2_) | with_reducible exact H | (rw [hy299]; exact H) | exact H
           have Ny299 := Aside0.mk hy299
           clear hy299
           have H' := Aside0.mk H
           clear H
           go_wp2_with (first | ((with_reducible refine gate_dst (N := 88) rfl ?_); refine Kd.R_lit k52 _ 52 ?hg (N := 88) ?hd (xs := ([(⟨0, 2⟩ : S52), (⟨2, 0⟩ : S52)] : List (S52))) (inner := [.int .i64 0, .int .i64 2, .int .i64 2, .int .i64 0]) (ok := fun _ => True) (okp := fun _ => True) ?hr ?hp (fun _ hk => hk) trivial (Below.refl _ _) (Nat.le_refl _) (by simp) ?_; (case hd => rfl); (case hg => rfl); (case hr => first | (go_simp; done) | (go_simp; rfl)); (case hp => exact (Reps.c2 (show Kd.M k52 _ _ _ (⟨0, 2⟩ : S52) [.int .i64 0, .int .i64 2] from (k52_mkM _ _ _ (⟨0, 2⟩ : S52) )) (Reps.c2 (show Kd.M k52 _ _ _ (⟨2, 0⟩ : S52) [.int .i64 2, .int .i64 0] from (k52_mkM _ _ _ (⟨2, 0⟩ : S52) )) (Reps.none _ _)))); intro v297 w81 ho82 hb hg_ hnew_; clear hg_ hnew_; (first | rw [← Ny296.out] at ho82 | (simp only [Int.reduceToNat] at ho82; rw [← Ny296.out] at ho82)); have HO298 := Aside0.mk (Kd.R_lower (Kd.R_nw ho82 HO_3) (keep_size (hk_ HK))); replace HO_3 := Kd.R_e HO_3 ho82 hb; replace HK := hkb_ HK hb; replace HB := Aside0.mk (below_step (hbI_ HB (IsS40.ge HI0.out)) hb); replace HI0 := IsS40.b HI0 hb; clear hb ho82; obtain ⟨Ao84, co84, eo84⟩ := Kd.R_slice HO298.out; subst eo84) | ((with_reducible refine gate_builtin (b := .append) (xs := #[.tmp 85, .tmp 88]) rfl ?_); at_builtin; refine Kd.R_append_rows k52 w.heap.size rfl (.tmp 85) (.tmp 88) 23 52 (.agg #[(.int .i64 0), (.int .i64 0)]) 16 rfl Try.underlying23 info52 rfl (by decide) (by omega) u3 x3_1 y296 _ _ _ (fun k_ => some k_ ≠ (.slice Ao84 y296.length co84 : Value).ownBlock) (fun _ => False) rfl rfl ?aO ?aR (fun _ _ h => h) (fun _ h => h.elim) ?aF (Below.refl _ _) ?aS ?aL ?_; (case aR => exact Kd.C_o HO298); (case aF => exact (fun k_ hk => Kd.fresh' (Kd.R_lt (Kd.R_p HO298)) k_ hk)); (case aO => exact (Kd.R_pp (Kd.R_mono HO_3.out (fun _ hk => hk.2)))); (case aS => exact (keep_size (hk_ HK))); (case aL => have := LMc80.out; omega); intro v300 w83 ho hb hg hat; rw [← Ny299.out] at ho; have HO301 := Aside0.mk (ho); replace HO298 := Aside0.mk (Kd.R_after (ok := (fun _ => True)) (Kd.R_p HO298) hg hat); replace HB := Aside0.mk (below_weaken (hbI_ HB (IsS40.ge HI0.out)) HL.out hb); replace HK := Aside0.mk (KeepBut.trans (hk_ HK) (KeepBut.of_grown hg g) (Kd.R_base2 HO_3.out)); replace HI0 := Aside0.mk (IsS40.grown (IsS40.q HI0) hg (IsS40.own_ne HI0.out HO_3.out (by decide))); clear HO_3; clear ho hb hg hat))
           go_roundg k1
           case measure => have := HK1.out; omega
           case rel => exact ⟨(y299), (wrap64 (x7_1 - 1)), (by first | rfl | (simp; done) | (simp [*]; done)), H', ⟨by have := HK1.out; omega⟩, ⟨Kd.R_pp (Kd.R_mono HO301.out (fun _ hk => trivial))⟩, ⟨IsS40.q HI0⟩, ⟨hk_ HK⟩, ⟨hbI_ HB (IsS40.ge HI0.out)⟩⟩
          ·rw [if_neg c80] at H
           exact absurd H (by simp)
         ·rw [if_neg c79] at H
          have c79b0 : decide (0 < x7_1) = false := decide_eq_false c79
          clear c79
          simp only [Option.some.injEq, Prod.mk.injEq] at H
          obtain ⟨rfl, rfl, rfl⟩ := H
          go_wp2
          go_ret
          exact ⟨_, by first | rfl | (simp [errW_none, errW_some] <;> rfl) | (simp [*, errW_none, errW_some] <;> rfl), Kd.R_p HO_3, IsS40.q HI0, hbI_ HB (IsS40.ge HI0.out), hk_ HK⟩
      ·rw [if_neg c70] at H
       have c70b0 : (t252 == 5) = false := beq_eq_false_iff_ne.mpr c70
       have c70b1 : (t252 != 5) = true := bne_iff_ne.mpr c70
       by_cases c85 : t252 = 6
       ·rw [if_pos c85] at H
        have c85b0 : (t252 == 6) = true := beq_iff_eq.mpr c85
        have c85b1 : (t252 != 6) = false := bne_eq_false_iff_eq.mpr c85
        clear c85
        obtain ⟨y302, hy302⟩ : ∃ y_ : List (S52), y_ = (([(⟨0, 0⟩ : S52), (⟨0, 0⟩ : S52), (⟨0, 0⟩ : S52), (⟨0, 0⟩ : S52), (⟨7, 0⟩ : S52)] : List (S52))) := ⟨_, rfl⟩
        replace H : ((spec_l1Cur_pick.f s0_0 t253 t254 2).bind fun bt305 => (spec_l1Cur_anyRule.l3 k y302 (wrap64 (8 + bt305.1)) s0_0 bt305.2.1 bt305.2.2)) = some (r1, r2, r3) := by first | (rw [hy302]; with_reducible exact H) | (have H2_ := (Option.bind_some _ _).symm.trans H; rw [hy302]; with_reducible exact H2_) | (have H2_ := (Option.bind_some _ _).symm.trans H; with_reducible exact H2_) | with_reducible exact H | (rw [hy302]; exact H) | exact H
        have Ny302 := Aside0.mk hy302
        clear hy302
        replace H := Option.bind_eq_some_iff.mp H
        obtain ⟨⟨t305, t306, t307⟩, A860, H⟩ := H
        replace H : (spec_l1Cur_anyRule.l3 k y302 (wrap64 (8 + t305)) s0_0 t306 t307) = some (r1, r2, r3) := H
        have A86 := Aside0.mk A860
        clear A860
        have H' := Aside0.mk H
        clear H
        go_enter Try.func14, Try.ntmps14
        go_wp2_with (first | ((with_reducible refine gate_callee (f := 25) rfl ?_); refine gl_ (some 10) Try.func25 #[.pointer (some ⟨g, 0, none⟩)] rfl rfl rfl ?_; (with_reducible refine (spec_l1Cur_rule.calls k g s0_0 s0_1 s0_2 t244 t247 t248 w0 _ ?side1 ?side2 A2.out).mono ?_); (case side1 => exact IsS40.q HI0); (case side2 => exact hbI_ HB (IsS40.ge HI0.out)); rintro e w87 ⟨v245, rfl, ho0, hi, hb, hk⟩; refine ⟨_, rfl, ?_⟩; have HO246 := Aside0.mk (Kd.R_lower ho0 (keep_size (hk_ HK))); replace HK := Aside0.mk (KeepBut.trans (hk_ HK) hk (.inl rfl)); replace HB := Aside0.mk (hb); replace HI0 := Aside0.mk (hi); (try clear hb); (try clear hb2); (try clear hk); (try clear hi); (try clear ho0); obtain ⟨Ao88, co88, eo88⟩ := Kd.R_slice HO246.out; subst eo88; try clear HO246) | ((with_reducible refine gate_callee (f := 24) rfl ?_); refine gl_ (some 14) Try.func24 #[.pointer (some ⟨g, 0, none⟩), .int .i64 (t244.length : Int)] rfl rfl rfl ?_; (with_reducible refine (spec_l1Cur_pick.calls g s0_0 t247 t248 (t244.length : Int) t249 t250 t251 w0 _ ?side1 ?side2 A3.out).mono ?_); (case side1 => exact IsS40.q HI0); (case side2 => exact hbI_ HB (IsS40.ge HI0.out)); rintro e w89 ⟨rfl, hi, hb, hk⟩; refine ⟨_, rfl, ?_⟩; replace HK := Aside0.mk (KeepBut.trans (hk_ HK) hk (.inl rfl)); replace HB := Aside0.mk (hb); replace HI0 := Aside0.mk (hi); (try clear hb); (try clear hb2); (try clear hk); (try clear hi)) | ((with_reducible refine gate_callee (f := 24) rfl ?_); refine gl_ (some 16) Try.func24 #[.pointer (some ⟨g, 0, none⟩), .int .i64 30] rfl rfl rfl ?_; (with_reducible refine (spec_l1Cur_pick.calls g s0_0 t250 t251 30 t252 t253 t254 w0 _ ?side1 ?side2 A4.out).mono ?_); (case side1 => exact IsS40.q HI0); (case side2 => exact hbI_ HB (IsS40.ge HI0.out)); rintro e w90 ⟨rfl, hi, hb, hk⟩; refine ⟨_, rfl, ?_⟩; replace HK := Aside0.mk (KeepBut.trans (hk_ HK) hk (.inl rfl)); replace HB := Aside0.mk (hb); replace HI0 := Aside0.mk (hi); (try clear hb); (try clear hb2); (try clear hk); (try clear hi)) | ((with_reducible refine gate_dst (N := 97) rfl ?_); refine Kd.R_lit k52 _ 52 ?hg (N := 97) ?hd (xs := ([(⟨0, 0⟩ : S52), (⟨0, 0⟩ : S52), (⟨0, 0⟩ : S52), (⟨0, 0⟩ : S52), (⟨7, 0⟩ : S52)] : List (S52))) (inner := [.int .i64 0, .int .i64 0, .int .i64 0, .int .i64 0, .int .i64 0, .int .i64 0, .int .i64 0, .int .i64 0, .int .i64 7, .int .i64 0]) (ok := fun _ => True) (okp := fun _ => True) ?hr ?hp (fun _ hk => hk) trivial (Below.refl _ _) (Nat.le_refl _) (by simp) ?_; (case hd => rfl); (case hg => rfl); (case hr => first | (go_simp; done) | (go_simp; rfl)); (case hp => exact (Reps.c2 (show Kd.M k52 _ _ _ (⟨0, 0⟩ : S52) [.int .i64 0, .int .i64 0] from (k52_mkM _ _ _ (⟨0, 0⟩ : S52) )) (Reps.c2 (show Kd.M k52 _ _ _ (⟨0, 0⟩ : S52) [.int .i64 0, .int .i64 0] from (k52_mkM _ _ _ (⟨0, 0⟩ : S52) )) (Reps.c2 (show Kd.M k52 _ _ _ (⟨0, 0⟩ : S52) [.int .i64 0, .int .i64 0] from (k52_mkM _ _ _ (⟨0, 0⟩ : S52) )) (Reps.c2 (show Kd.M k52 _ _ _ (⟨0, 0⟩ : S52) [.int .i64 0, .int .i64 0] from (k52_mkM _ _ _ (⟨0, 0⟩ : S52) )) (Reps.c2 (show Kd.M k52 _ _ _ (⟨7, 0⟩ : S52) [.int .i64 7, .int .i64 0] from (k52_mkM _ _ _ (⟨7, 0⟩ : S52) )) (Reps.none _ _))))))); intro v303 w91 ho92 hb hg_ hnew_; clear hg_ hnew_; (first | rw [← Ny302.out] at ho92 | (simp only [Int.reduceToNat] at ho92; rw [← Ny302.out] at ho92)); have HO304 := Aside0.mk (Kd.R_lower ho92 (keep_size (hk_ HK))); replace HK := hkb_ HK hb; replace HB := Aside0.mk (below_step (hbI_ HB (IsS40.ge HI0.out)) hb); replace HI0 := IsS40.b HI0 hb; clear hb ho92) | ((with_reducible refine gate_callee (f := 24) rfl ?_); refine gl_ (some 99) Try.func24 #[.pointer (some ⟨g, 0, none⟩), .int .i64 2] rfl rfl rfl ?_; (with_reducible refine (spec_l1Cur_pick.calls g s0_0 t253 t254 2 t305 t306 t307 w0 _ ?side1 ?side2 A86.out).mono ?_); (case side1 => exact IsS40.q HI0); (case side2 => exact hbI_ HB (IsS40.ge HI0.out)); rintro e w93 ⟨rfl, hi, hb, hk⟩; refine ⟨_, rfl, ?_⟩; have n0_ := IsS40.rk HI0 HO304 hk; have n1_ := Aside0.mk (KeepBut.trans (hk_ HK) hk (.inl rfl)); have n2_ := Aside0.mk (hb); have n3_ := Aside0.mk (hi); clear HO304 HK HB HI0; have HO304 := n0_; have HK := n1_; have HB := n2_; have HI0 := n3_; clear n0_ n1_ n2_ n3_; (try clear hb); (try clear hb2); (try clear hk); (try clear hi)))
        go_loopg [3, 8] k (fun kq v3 v8 w' => ∃ (x3_1 : List (S52)) (x8_1 : Int), v8 = .int .i64 x8_1 ∧ Aside0 (spec_l1Cur_anyRule.l3 kq x3_1 x8_1 s0_0 t306 t307 = some (r1, r2, r3)) ∧ Aside0 (kq ≤ k) ∧ Aside0 (Kd.R k52 52 w' w.heap.size (fun _ => True) v3 x3_1) ∧ Aside0 (IsS40 w0 w' g s0_0 t306 t307) ∧ Aside0 (KeepBut w w' g none) ∧ Aside0 (Below w0.heap.size w0 w'))
        case atStart => exact ⟨(y302), (wrap64 (8 + t305)), (by first | rfl | (simp; done) | (simp [*]; done)), H', ⟨Nat.le_refl _⟩, ⟨Kd.R_p HO304⟩, ⟨IsS40.q HI0⟩, ⟨hk_ HK⟩, ⟨hbI_ HB (IsS40.ge HI0.out)⟩⟩
        case round =>
         clear H'
         (try clear c1); (try clear hx1); (try clear hf1); (try clear c2); (try clear p2); (try clear q2); (try clear hx2); (try clear hf2); (try clear c3); (try clear q3); (try clear hx3); (try clear hf3); (try clear c4); (try clear c5); (try clear c5b0); (try clear c5b1); (try clear c6); (try clear p6); (try clear c7); (try clear c7b0); (try clear c8); (try clear c8b0); (try clear c9); (try clear p9); (try clear q9); (try clear hx9); (try clear hf9); (try clear c14); (try clear c15); (try clear hx15); (try clear hf15); (try clear c17); (try clear c17b0); (try clear c17b1); (try clear c19); (try clear c19b0); (try clear c20); (try clear c20b0); (try clear c21); (try clear p21); (try clear q21); (try clear hx21); (try clear hf21); (try clear c24); (try clear c25); (try clear c27); (try clear c30); (try clear hx30); (try clear hf30); (try clear c32); (try clear c32b0); (try clear c32b1); (try clear c33); (try clear c33b0); (try clear c33b1); (try clear c34); (try clear c34b0); (try clear c34b1); (try clear q39); (try clear c40); (try clear c40b0); (try clear c40b1); (try clear c41); (try clear c47); (try clear c47b0); (try clear c47b1); (try clear c54); (try clear c54b0); (try clear c55); (try clear c56); (try clear c62); (try clear c62b0); (try clear c63); (try clear p64); (try clear c70); (try clear c70b0); (try clear c70b1); (try clear c79); (try clear c79b0); (try clear c80); (try clear c85); (try clear c85b0); (try clear c85b1)
         obtain ⟨x3_1, x8_1, rfl, HA, HK1, HO_3, HI0, HK, HB⟩ := hrel
         cases gk with
         | zero => exact absurd HA.out (by simp [spec_l1Cur_anyRule.l3])
         | succ k1 =>
          have H := HA.out
          clear HA
          simp only [spec_l1Cur_anyRule.l3] at H
          by_cases c94 : x8_1 > 0
          ·rw [if_pos c94] at H
           have c94b0 : decide (0 < x8_1) = true := decide_eq_true c94
           clear c94
           obtain ⟨y308, hy308⟩ : ∃ y_ : List (S52), y_ = (([(⟨0, 0⟩ : S52), (⟨0, 0⟩ : S52), (⟨0, 0⟩ : S52), (⟨6, 0⟩ : S52)] : List (S52))) := ⟨_, rfl⟩
           replace H : (if x3_1.length + y308.length < 8796093022208 then (spec_l1Cur_anyRule.l3 k1 (x3_1 ++ y308) (wrap64 (x8_1 - 1)) s0_0 t306 t307) else (none)) = some (r1, r2, r3) := by first | (rw [hy308]; with_reducible exact H) | (have H2_ := (Option.bind_some _ _).symm.trans H; rw [hy308]; with_reducible exact H2_) | (have H2_ := (Option.bind_some _ _).symm.trans H; with_reducible exact H2_) | with_reducible exact H | (rw [hy308]; exact H) | exact H
           have Ny308 := Aside0.mk hy308
           clear hy308
           by_cases c95 : x3_1.length + y308.length < 8796093022208
           ·rw [if_pos c95] at H
            have LMc95 := Aside0.mk c95
            clear c95
            obtain ⟨y311, hy311⟩ : ∃ y_ : List (S52), y_ = (x3_1 ++ y308) := ⟨_, rfl⟩
            replace H : (spec_l1Cur_anyRule.l3 k1 y311 (wrap64 (x8_1 - 1)) s0_0 t306 t307) = some (r1, r2, r3) := by first | (rw [hy311]; with_reducible exact H) | (have H2_ := (Option.bind_some _ _).symm.trans H; rw [hy311]; with_reducible exact H2_) | (have H2_ := (Option.bind_some _ _).symm.trans H; with_reducible exact H2_) | with_reducible exact H | (rw [hy311]; exact H) | exact H
            have Ny311 := Aside0.mk hy311
            clear hy311
            have H' := Aside0.mk H
            clear H
            go_wp2_with (first | ((with_reducible refine gate_dst (N := 110) rfl ?_); refine Kd.R_lit k52 _ 52 ?hg (N := 110) ?hd (xs := ([(⟨0, 0⟩ : S52), (⟨0, 0⟩ : S52), (⟨0, 0⟩ : S52), (⟨6, 0⟩ : S52)] : List (S52))) (inner := [.int .i64 0, .int .i64 0, .int .i64 0, .int .i64 0, .int .i64 0, .int .i64 0, .int .i64 6, .int .i64 0]) (ok := fun _ => True) (okp := fun _ => True) ?hr ?hp (fun _ hk => hk) trivial (Below.refl _ _) (Nat.le_refl _) (by simp) ?_; (case hd => rfl); (case hg => rfl); (case hr => first | (go_simp; done) | (go_simp; rfl)); (case hp => exact (Reps.c2 (show Kd.M k52 _ _ _ (⟨0, 0⟩ : S52) [.int .i64 0, .int .i64 0] from (k52_mkM _ _ _ (⟨0, 0⟩ : S52) )) (Reps.c2 (show Kd.M k52 _ _ _ (⟨0, 0⟩ : S52) [.int .i64 0, .int .i64 0] from (k52_mkM _ _ _ (⟨0, 0⟩ : S52) )) (Reps.c2 (show Kd.M k52 _ _ _ (⟨0, 0⟩ : S52) [.int .i64 0, .int .i64 0] from (k52_mkM _ _ _ (⟨0, 0⟩ : S52) )) (Reps.c2 (show Kd.M k52 _ _ _ (⟨6, 0⟩ : S52) [.int .i64 6, .int .i64 0] from (k52_mkM _ _ _ (⟨6, 0⟩ : S52) )) (Reps.none _ _)))))); intro v309 w96 ho97 hb hg_ hnew_; clear hg_ hnew_; (first | rw [← Ny308.out] at ho97 | (simp only [Int.reduceToNat] at ho97; rw [← Ny308.out] at ho97)); have HO310 := Aside0.mk (Kd.R_lower (Kd.R_nw ho97 HO_3) (keep_size (hk_ HK))); replace HO_3 := Kd.R_e HO_3 ho97 hb; replace HK := hkb_ HK hb; replace HB := Aside0.mk (below_step (hbI_ HB (IsS40.ge HI0.out)) hb); replace HI0 := IsS40.b HI0 hb; clear hb ho97; obtain ⟨Ao99, co99, eo99⟩ := Kd.R_slice HO310.out; subst eo99) | ((with_reducible refine gate_builtin (b := .append) (xs := #[.tmp 105, .tmp 110]) rfl ?_); at_builtin; refine Kd.R_append_rows k52 w.heap.size rfl (.tmp 105) (.tmp 110) 23 52 (.agg #[(.int .i64 0), (.int .i64 0)]) 16 rfl Try.underlying23 info52 rfl (by decide) (by omega) u3 x3_1 y308 _ _ _ (fun k_ => some k_ ≠ (.slice Ao99 y308.length co99 : Value).ownBlock) (fun _ => False) rfl rfl ?aO ?aR (fun _ _ h => h) (fun _ h => h.elim) ?aF (Below.refl _ _) ?aS ?aL ?_; (case aR => exact Kd.C_o HO310); (case aF => exact (fun k_ hk => Kd.fresh' (Kd.R_lt (Kd.R_p HO310)) k_ hk)); (case aO => exact (Kd.R_pp (Kd.R_mono HO_3.out (fun _ hk => hk.2)))); (case aS => exact (keep_size (hk_ HK))); (case aL => have := LMc95.out; omega); intro v312 w98 ho hb hg hat; rw [← Ny311.out] at ho; have HO313 := Aside0.mk (ho); replace HO310 := Aside0.mk (Kd.R_after (ok := (fun _ => True)) (Kd.R_p HO310) hg hat); replace HB := Aside0.mk (below_weaken (hbI_ HB (IsS40.ge HI0.out)) HL.out hb); replace HK := Aside0.mk (KeepBut.trans (hk_ HK) (KeepBut.of_grown hg g) (Kd.R_base2 HO_3.out)); replace HI0 := Aside0.mk (IsS40.grown (IsS40.q HI0) hg (IsS40.own_ne HI0.out HO_3.out (by decide))); clear HO_3; clear ho hb hg hat))
            go_roundg k1
            case measure => have := HK1.out; omega
            case rel => exact ⟨(y311), (wrap64 (x8_1 - 1)), (by first | rfl | (simp; done) | (simp [*]; done)), H', ⟨by have := HK1.out; omega⟩, ⟨Kd.R_pp (Kd.R_mono HO313.out (fun _ hk => trivial))⟩, ⟨IsS40.q HI0⟩, ⟨hk_ HK⟩, ⟨hbI_ HB (IsS40.ge HI0.out)⟩⟩
           ·rw [if_neg c95] at H
            exact absurd H (by simp)
          ·rw [if_neg c94] at H
           have c94b0 : decide (0 < x8_1) = false := decide_eq_false c94
           clear c94
           have H' := Aside0.mk H
           clear H
           go_wp2
           go_loopg [3] k1 (fun kq v3 w' => ∃ (x3_2 : List (S52)), Aside0 (spec_l1Cur_anyRule.l4 kq x3_2 s0_0 t306 t307 = some (r1, r2, r3)) ∧ Aside0 (kq ≤ k1) ∧ Aside0 (Kd.R k52 52 w' w.heap.size (fun _ => True) v3 x3_2) ∧ Aside0 (IsS40 w0 w' g s0_0 t306 t307) ∧ Aside0 (KeepBut w w' g none) ∧ Aside0 (Below w0.heap.size w0 w'))
           case atStart => exact ⟨(x3_1), H', ⟨Nat.le_refl _⟩, ⟨Kd.R_p HO_3⟩, ⟨IsS40.q HI0⟩, ⟨hk_ HK⟩, ⟨hbI_ HB (IsS40.ge HI0.out)⟩⟩
           case round =>
            clear H'
            (try clear c1); (try clear hx1); (try clear hf1); (try clear c2); (try clear p2); (try clear q2); (try clear hx2); (try clear hf2); (try clear c3); (try clear q3); (try clear hx3); (try clear hf3); (try clear c4); (try clear c5); (try clear c5b0); (try clear c5b1); (try clear c6); (try clear p6); (try clear c7); (try clear c7b0); (try clear c8); (try clear c8b0); (try clear c9); (try clear p9); (try clear q9); (try clear hx9); (try clear hf9); (try clear c14); (try clear c15); (try clear hx15); (try clear hf15); (try clear c17); (try clear c17b0); (try clear c17b1); (try clear c19); (try clear c19b0); (try clear c20); (try clear c20b0); (try clear c21); (try clear p21); (try clear q21); (try clear hx21); (try clear hf21); (try clear c24); (try clear c25); (try clear c27); (try clear c30); (try clear hx30); (try clear hf30); (try clear c32); (try clear c32b0); (try clear c32b1); (try clear c33); (try clear c33b0); (try clear c33b1); (try clear c34); (try clear c34b0); (try clear c34b1); (try clear q39); (try clear c40); (try clear c40b0); (try clear c40b1); (try clear c41); (try clear c47); (try clear c47b0); (try clear c47b1); (try clear c54); (try clear c54b0); (try clear c55); (try clear c56); (try clear c62); (try clear c62b0); (try clear c63); (try clear p64); (try clear c70); (try clear c70b0); (try clear c70b1); (try clear c79); (try clear c79b0); (try clear c80); (try clear c85); (try clear c85b0); (try clear c85b1); (try clear c94); (try clear c94b0); (try clear c95)
            obtain ⟨x3_2, HA, HK2, HO_3, HI0, HK, HB⟩ := hrel
            cases gk with
            | zero => exact absurd HA.out (by simp [spec_l1Cur_anyRule.l4])
            | succ k2 =>
             have H := HA.out
             clear HA
             simp only [spec_l1Cur_anyRule.l4] at H
             by_cases c100 : (x3_2.length : Int) < 39
             ·rw [if_pos c100] at H
              have c100b0 : decide ((x3_2.length : Int) < 39) = true := decide_eq_true c100
              have c100b1 : decide (x3_2.length < 39) = true := decide_eq_true (by omega)
              clear c100
              obtain ⟨y314, hy314⟩ : ∃ y_ : List (S52), y_ = (([(⟨0, 0⟩ : S52), (⟨2, 0⟩ : S52)] : List (S52))) := ⟨_, rfl⟩
              replace H : (if x3_2.length + y314.length < 8796093022208 then (spec_l1Cur_anyRule.l4 k2 (x3_2 ++ y314) s0_0 t306 t307) else (none)) = some (r1, r2, r3) := by first | (rw [hy314]; with_reducible exact H) | (have H2_ := (Option.bind_some _ _).symm.trans H; rw [hy314]; with_reducible exact H2_) | (have H2_ := (Option.bind_some _ _).symm.trans H; with_reducible exact H2_) | with_reducible exact H | (rw [hy314]; exact H) | exact H
              have Ny314 := Aside0.mk hy314
              clear hy314
              by_cases c101 : x3_2.length + y314.length < 8796093022208
              ·rw [if_pos c101] at H
               have LMc101 := Aside0.mk c101
               clear c101
               obtain ⟨y317, hy317⟩ : ∃ y_ : List (S52), y_ = (x3_2 ++ y314) := ⟨_, rfl⟩
               replace H : (spec_l1Cur_anyRule.l4 k2 y317 s0_0 t306 t307) = some (r1, r2, r3) := by first | (rw [hy317]; with_reducible exact H) | (have H2_ := (Option.bind_some _ _).symm.trans H; rw [hy317]; with_reducible exact H2_) | (have H2_ := (Option.bind_some _ _).symm.trans H; with_reducible exact H2_) | with_reducible exact H | (rw [hy317]; exact H) | exact H
               have Ny317 := Aside0.mk hy317
               clear hy317
               have H' := Aside0.mk H
               clear H
               obtain ⟨Ao102, co102, eo102⟩ := Kd.R_slice HO_3.out
               subst eo102
               go_wp2_with (first | ((with_reducible refine gate_dst (N := 118) rfl ?_); refine Kd.R_lit k52 _ 52 ?hg (N := 118) ?hd (xs := ([(⟨0, 0⟩ : S52), (⟨2, 0⟩ : S52)] : List (S52))) (inner := [.int .i64 0, .int .i64 0, .int .i64 2, .int .i64 0]) (ok := fun _ => True) (okp := fun _ => True) ?hr ?hp (fun _ hk => hk) trivial (Below.refl _ _) (Nat.le_refl _) (by simp) ?_; (case hd => rfl); (case hg => rfl); (case hr => first | (go_simp; done) | (go_simp; rfl)); (case hp => exact (Reps.c2 (show Kd.M k52 _ _ _ (⟨0, 0⟩ : S52) [.int .i64 0, .int .i64 0] from (k52_mkM _ _ _ (⟨0, 0⟩ : S52) )) (Reps.c2 (show Kd.M k52 _ _ _ (⟨2, 0⟩ : S52) [.int .i64 2, .int .i64 0] from (k52_mkM _ _ _ (⟨2, 0⟩ : S52) )) (Reps.none _ _)))); intro v315 w103 ho104 hb hg_ hnew_; clear hg_ hnew_; (first | rw [← Ny314.out] at ho104 | (simp only [Int.reduceToNat] at ho104; rw [← Ny314.out] at ho104)); have HO316 := Aside0.mk (Kd.R_lower (Kd.R_nw ho104 HO_3) (keep_size (hk_ HK))); replace HO_3 := Kd.R_e HO_3 ho104 hb; replace HK := hkb_ HK hb; replace HB := Aside0.mk (below_step (hbI_ HB (IsS40.ge HI0.out)) hb); replace HI0 := IsS40.b HI0 hb; clear hb ho104; obtain ⟨Ao106, co106, eo106⟩ := Kd.R_slice HO316.out; subst eo106) | ((with_reducible refine gate_builtin (b := .append) (xs := #[.tmp 115, .tmp 118]) rfl ?_); at_builtin; refine Kd.R_append_rows k52 w.heap.size rfl (.tmp 115) (.tmp 118) 23 52 (.agg #[(.int .i64 0), (.int .i64 0)]) 16 rfl Try.underlying23 info52 rfl (by decide) (by omega) (.slice Ao102 x3_2.length co102) x3_2 y314 _ _ _ (fun k_ => some k_ ≠ (.slice Ao106 y314.length co106 : Value).ownBlock) (fun _ => False) rfl rfl ?aO ?aR (fun _ _ h => h) (fun _ h => h.elim) ?aF (Below.refl _ _) ?aS ?aL ?_; (case aR => exact Kd.C_o HO316); (case aF => exact (fun k_ hk => Kd.fresh' (Kd.R_lt (Kd.R_p HO316)) k_ hk)); (case aO => exact (Kd.R_pp (Kd.R_mono HO_3.out (fun _ hk => hk.2)))); (case aS => exact (keep_size (hk_ HK))); (case aL => have := LMc101.out; omega); intro v318 w105 ho hb hg hat; rw [← Ny317.out] at ho; have HO319 := Aside0.mk (ho); replace HO316 := Aside0.mk (Kd.R_after (ok := (fun _ => True)) (Kd.R_p HO316) hg hat); replace HB := Aside0.mk (below_weaken (hbI_ HB (IsS40.ge HI0.out)) HL.out hb); replace HK := Aside0.mk (KeepBut.trans (hk_ HK) (KeepBut.of_grown hg g) (Kd.R_base2 HO_3.out)); replace HI0 := Aside0.mk (IsS40.grown (IsS40.q HI0) hg (IsS40.own_ne HI0.out HO_3.out (by decide))); clear HO_3; clear ho hb hg hat))
               go_roundg k2
               case measure => have := HK1.out; have := HK2.out; omega
               case rel => exact ⟨(y317), H', ⟨by have := HK1.out; have := HK2.out; omega⟩, ⟨Kd.R_pp (Kd.R_mono HO319.out (fun _ hk => trivial))⟩, ⟨IsS40.q HI0⟩, ⟨hk_ HK⟩, ⟨hbI_ HB (IsS40.ge HI0.out)⟩⟩
              ·rw [if_neg c101] at H
               exact absurd H (by simp)
             ·rw [if_neg c100] at H
              have c100b0 : decide ((x3_2.length : Int) < 39) = false := decide_eq_false c100
              have c100b1 : decide (x3_2.length < 39) = false := decide_eq_false (by omega)
              clear c100
              simp only [Option.some.injEq, Prod.mk.injEq] at H
              obtain ⟨rfl, rfl, rfl⟩ := H
              obtain ⟨Ao107, co107, eo107⟩ := Kd.R_slice HO_3.out
              subst eo107
              go_wp2
              go_ret
              exact ⟨_, by first | rfl | (simp [errW_none, errW_some] <;> rfl) | (simp [*, errW_none, errW_some] <;> rfl), Kd.R_p HO_3, IsS40.q HI0, hbI_ HB (IsS40.ge HI0.out), hk_ HK⟩
       ·rw [if_neg c85] at H
        have c85b0 : (t252 == 6) = false := beq_eq_false_iff_ne.mpr c85
        have c85b1 : (t252 != 6) = true := bne_iff_ne.mpr c85
        simp only [Option.some.injEq, Prod.mk.injEq] at H
        obtain ⟨rfl, rfl, rfl⟩ := H
        go_enter Try.func14, Try.ntmps14
        go_wp2_with (first | ((with_reducible refine gate_callee (f := 25) rfl ?_); refine gl_ (some 10) Try.func25 #[.pointer (some ⟨g, 0, none⟩)] rfl rfl rfl ?_; (with_reducible refine (spec_l1Cur_rule.calls k g s0_0 s0_1 s0_2 t244 t247 t248 w0 _ ?side1 ?side2 A2.out).mono ?_); (case side1 => exact IsS40.q HI0); (case side2 => exact hbI_ HB (IsS40.ge HI0.out)); rintro e w108 ⟨v245, rfl, ho0, hi, hb, hk⟩; refine ⟨_, rfl, ?_⟩; have HO246 := Aside0.mk (Kd.R_lower ho0 (keep_size (hk_ HK))); replace HK := Aside0.mk (KeepBut.trans (hk_ HK) hk (.inl rfl)); replace HB := Aside0.mk (hb); replace HI0 := Aside0.mk (hi); (try clear hb); (try clear hb2); (try clear hk); (try clear hi); (try clear ho0); obtain ⟨Ao109, co109, eo109⟩ := Kd.R_slice HO246.out; subst eo109) | ((with_reducible refine gate_callee (f := 24) rfl ?_); refine gl_ (some 14) Try.func24 #[.pointer (some ⟨g, 0, none⟩), .int .i64 (t244.length : Int)] rfl rfl rfl ?_; (with_reducible refine (spec_l1Cur_pick.calls g s0_0 t247 t248 (t244.length : Int) t249 t250 t251 w0 _ ?side1 ?side2 A3.out).mono ?_); (case side1 => exact IsS40.q HI0); (case side2 => exact hbI_ HB (IsS40.ge HI0.out)); rintro e w110 ⟨rfl, hi, hb, hk⟩; refine ⟨_, rfl, ?_⟩; have n0_ := IsS40.rk HI0 HO246 hk; have n1_ := Aside0.mk (KeepBut.trans (hk_ HK) hk (.inl rfl)); have n2_ := Aside0.mk (hb); have n3_ := Aside0.mk (hi); clear HO246 HK HB HI0; have HO246 := n0_; have HK := n1_; have HB := n2_; have HI0 := n3_; clear n0_ n1_ n2_ n3_; (try clear hb); (try clear hb2); (try clear hk); (try clear hi)) | ((with_reducible refine gate_callee (f := 24) rfl ?_); refine gl_ (some 16) Try.func24 #[.pointer (some ⟨g, 0, none⟩), .int .i64 30] rfl rfl rfl ?_; (with_reducible refine (spec_l1Cur_pick.calls g s0_0 t250 t251 30 t252 t253 t254 w0 _ ?side1 ?side2 A4.out).mono ?_); (case side1 => exact IsS40.q HI0); (case side2 => exact hbI_ HB (IsS40.ge HI0.out)); rintro e w111 ⟨rfl, hi, hb, hk⟩; refine ⟨_, rfl, ?_⟩; have n0_ := IsS40.rk HI0 HO246 hk; have n1_ := Aside0.mk (KeepBut.trans (hk_ HK) hk (.inl rfl)); have n2_ := Aside0.mk (hb); have n3_ := Aside0.mk (hi); clear HO246 HK HB HI0; have HO246 := n0_; have HK := n1_; have HB := n2_; have HI0 := n3_; clear n0_ n1_ n2_ n3_; (try clear hb); (try clear hb2); (try clear hk); (try clear hi)))
        go_ret
        exact ⟨_, by first | rfl | (simp [errW_none, errW_some] <;> rfl) | (simp [*, errW_none, errW_some] <;> rfl), Kd.R_p HO246, IsS40.q HI0, hbI_ HB (IsS40.ge HI0.out), hk_ HK⟩

end Go.Proofs.Ytmhalgeoaccchaa.PFnFolded
