-- Laid for this claim by wip/tools/print2.sh, a changed copy of the kit's print (wip/tools/patch_print.py): not by print.sh.
import Derived.Test.YtmhalgeoaccchaaPFnFoldedx0
import Derived.Test.YtmhalgeoaccchaaPFnFoldedx7
import Derived.Test.YtmhalgeoaccchaaPFnFoldedx11
import Derived.Test.YtmhalgeoaccchaaPFnFoldedx13
import Derived.Test.YtmhalgeoaccchaaPFnFoldedx14
import Derived.Test.YtmhalgeoaccchaaPFnFoldedx15
namespace Go.Proofs.Ytmhalgeoaccchaa.PFnFolded
open Go.RowKit Go.Proofs.YtmhalgeoaccchaaW.PrintWords Go.Proofs.YtmhalgeoaccchaaW.PrintLast Go.Proofs.YtmhalgeoaccchaaW.PrintMore
attribute [local go_sem] max2_int min2_int max_two min_two max_three min_three max_four min_four   -- for this text's walks alone
set_option linter.unusedVariables false
set_option linter.unusedSimpArgs false

/-! ### laws_FnFolded: function 3 -/
mutual
def laws_FnFolded.j0 : Nat → List (S52) → List Int → Bool → Int → List (S52) → Bool → List (S52) → List (S52) → Int → List (S52) → List (S52) → Bool → Bool → Option (Bool)
 | 0, _, _, _, _, _, _, _, _, _, _, _, _, _ => none
 | k + 1, x5, x6, x8, x9, x11, x12, x13, x15, x16, x17, x18, x19, x128 => if x128 = true then (some false) else (if x12 = true then ((impl_FoldRule.f k x11).bind fun bt623 => (if bt623.2 = true then ((laws_qParts.f k bt623.1 x13).bind fun t627 => (if t627 = true then (if (x13.length : Int) > (x5.length : Int) then (laws_FnFolded.j1 k x6 x8 x9 x11 x15 x16 x17 x18 x19 true) else ((impl_IsRule.f k x11).bind fun t628 => (laws_FnFolded.j1 k x6 x8 x9 x11 x15 x16 x17 x18 x19 (!t628)))) else (laws_FnFolded.j1 k x6 x8 x9 x11 x15 x16 x17 x18 x19 true))) else (laws_FnFolded.j1 k x6 x8 x9 x11 x15 x16 x17 x18 x19 true))) else (laws_FnFolded.j2 k x15 x16 x17 x18 x19))
def laws_FnFolded.j2 : Nat → List (S52) → Int → List (S52) → List (S52) → Bool → Option (Bool)
 | 0, _, _, _, _, _ => none
 | k + 1, x15, x16, x17, x18, x19 => if x19 = true then ((some (([100, 20, 2, 3, 2000] : List Int) : List Int)).bind fun y631 => ((impl_EvalRule.f k x17 y631).bind fun bt634 => ((spec_EvalRule.f k x17 y631).bind fun bt636 => (if (bt634.2 != bt636.2) = true then (laws_FnFolded.j3 k x15 x16 x18 y631 bt634.2 bt636.1 true) else (if bt634.1 = bt636.1 then ((impl_IsRule.f k x18).bind fun t638 => (laws_FnFolded.j3 k x15 x16 x18 y631 bt634.2 bt636.1 (!t638))) else (laws_FnFolded.j3 k x15 x16 x18 y631 bt634.2 bt636.1 true)))))) else (some true)
def laws_FnFolded.j3 : Nat → List (S52) → Int → List (S52) → List Int → Bool → Int → Bool → Option (Bool)
 | 0, _, _, _, _, _, _, _ => none
 | k + 1, x15, x16, x18, x26, x28, x29, x196 => if x196 = true then (some false) else (if x28 = true then (if x29 < 0 then (laws_FnFolded.j4 k x15 x16 x18 x26 x29 true) else (laws_FnFolded.j4 k x15 x16 x18 x26 x29 (decide (x29 > 10000000)))) else (laws_FnFolded.j4 k x15 x16 x18 x26 x29 true))
def laws_FnFolded.j4 : Nat → List (S52) → Int → List (S52) → List Int → Int → Bool → Option (Bool)
 | 0, _, _, _, _, _, _ => none
 | k + 1, x15, x16, x18, x26, x29, x206 => if x206 = true then (some true) else ((impl_EvalRule.f k x18 x26).bind fun bt639 => (if 0 ≤ x16 then (if x16 < (x26.length : Int) then ((impl_EvalRule.f k x15 (x26.set (x16 : Int).toNat x29)).bind fun bt642 => (if (bt639.2 == bt642.2) = true then (some (bt639.1 == bt642.1)) else (some false))) else (none)) else (none)))
def laws_FnFolded.j1 : Nat → List Int → Bool → Int → List (S52) → List (S52) → Int → List (S52) → List (S52) → Bool → Bool → Option (Bool)
 | 0, _, _, _, _, _, _, _, _, _, _ => none
 | k + 1, x6, x8, x9, x11, x15, x16, x17, x18, x19, x154 => if x154 = true then (some false) else (if x8 = true then ((impl_EvalRule.f k x11 x6).bind fun bt629 => (if bt629.2 = true then (if bt629.1 = x9 then (laws_FnFolded.j2 k x15 x16 x17 x18 x19) else (some false)) else (some false))) else (laws_FnFolded.j2 k x15 x16 x17 x18 x19))
end
def laws_FnFolded.f (k : Nat) (l0 : List Int) (l1 : List Int) : Option (Bool) := if (wrap64 ((l0.length : Int) + (l1.length : Int))) > 1048576 then (some true) else ((spec_DrawEvalRule.f k l0).bind fun bt588 => ((impl_EvalRule.f k bt588.1 bt588.2).bind fun bt594 => ((spec_EvalRule.f k bt588.1 bt588.2).bind fun bt596 => ((impl_FoldRule.f k bt588.1).bind fun bt598 => ((spec_FoldRule.f k bt588.1).bind fun bt602 => ((spec_DrawPutField.f k l1).bind fun bt606 => ((impl_PutField.f k bt606.1 bt606.2.1 bt606.2.2).bind fun bt613 => ((spec_PutField.f k bt606.1 bt606.2.1 bt606.2.2).bind fun bt617 => (if (bt594.2 != bt596.2) = true then (laws_FnFolded.j0 k bt588.1 bt588.2 bt594.2 bt596.1 bt598.1 bt598.2 bt602.1 bt606.1 bt606.2.1 bt606.2.2 bt613.1 bt613.2 true) else (if bt594.1 = bt596.1 then (if (bt598.2 != bt602.2) = true then (laws_FnFolded.j0 k bt588.1 bt588.2 bt594.2 bt596.1 bt598.1 bt598.2 bt602.1 bt606.1 bt606.2.1 bt606.2.2 bt613.1 bt613.2 true) else ((laws_qParts.f k bt598.1 bt602.1).bind fun t621 => (if t621 = true then (if (bt613.2 != bt617.2) = true then (laws_FnFolded.j0 k bt588.1 bt588.2 bt594.2 bt596.1 bt598.1 bt598.2 bt602.1 bt606.1 bt606.2.1 bt606.2.2 bt613.1 bt613.2 true) else ((laws_qParts.f k bt613.1 bt617.1).bind fun t622 => (if t622 = true then (if bt594.2 = true then (if bt596.1 > 1000000000 then (laws_FnFolded.j0 k bt588.1 bt588.2 bt594.2 bt596.1 bt598.1 bt598.2 bt602.1 bt606.1 bt606.2.1 bt606.2.2 bt613.1 bt613.2 true) else (laws_FnFolded.j0 k bt588.1 bt588.2 bt594.2 bt596.1 bt598.1 bt598.2 bt602.1 bt606.1 bt606.2.1 bt606.2.2 bt613.1 bt613.2 (decide (bt596.1 < (-1000000000))))) else (laws_FnFolded.j0 k bt588.1 bt588.2 bt594.2 bt596.1 bt598.1 bt598.2 bt602.1 bt606.1 bt606.2.1 bt606.2.2 bt613.1 bt613.2 false)) else (laws_FnFolded.j0 k bt588.1 bt588.2 bt594.2 bt596.1 bt598.1 bt598.2 bt602.1 bt606.1 bt606.2.1 bt606.2.2 bt613.1 bt613.2 true)))) else (laws_FnFolded.j0 k bt588.1 bt588.2 bt594.2 bt596.1 bt598.1 bt598.2 bt602.1 bt606.1 bt606.2.1 bt606.2.2 bt613.1 bt613.2 true)))) else (laws_FnFolded.j0 k bt588.1 bt588.2 bt594.2 bt596.1 bt598.1 bt598.2 bt602.1 bt606.1 bt606.2.1 bt606.2.2 bt613.1 bt613.2 true)))))))))))
set_option maxHeartbeats 60000000 in
set_option maxRecDepth 100000 in
theorem laws_FnFolded.calls (k : Nat) (A0 : Option Addr) (c0 : Nat) (l0 : List Int) (A1 : Option Addr) (c1 : Nat) (l1 : List Int) (r : Bool) (w : World) (hr0 : Kd.C (Kd.int .u8) w A0 l0.length l0) (hc0 : l0.length ≤ c0) (hr1 : Kd.C (Kd.int .u8) w A1 l1.length l1) (hc1 : l1.length ≤ c1) (h : laws_FnFolded.f k l0 l1 = some r) :
  Calls Try.prog 3 #[.slice A0 l0.length c0, .slice A1 l1.length c1] w fun e w' => e = .returned (.bool r) ∧ Below w.heap.size w w' := by
 have HR0 := Aside0.mk hr0
 have HC0 := Aside0.mk hc0
 clear hr0 hc0
 have HR1 := Aside0.mk hr1
 have HC1 := Aside0.mk hc1
 clear hr1 hc1
 have HB := Aside0.mk (Below.refl w.heap.size w)
 have H : (if (wrap64 ((l0.length : Int) + (l1.length : Int))) > 1048576 then (some true) else ((spec_DrawEvalRule.f k l0).bind fun bt588 => ((impl_EvalRule.f k bt588.1 bt588.2).bind fun bt594 => ((spec_EvalRule.f k bt588.1 bt588.2).bind fun bt596 => ((impl_FoldRule.f k bt588.1).bind fun bt598 => ((spec_FoldRule.f k bt588.1).bind fun bt602 => ((spec_DrawPutField.f k l1).bind fun bt606 => ((impl_PutField.f k bt606.1 bt606.2.1 bt606.2.2).bind fun bt613 => ((spec_PutField.f k bt606.1 bt606.2.1 bt606.2.2).bind fun bt617 => (if (bt594.2 != bt596.2) = true then (laws_FnFolded.j0 k bt588.1 bt588.2 bt594.2 bt596.1 bt598.1 bt598.2 bt602.1 bt606.1 bt606.2.1 bt606.2.2 bt613.1 bt613.2 true) else (if bt594.1 = bt596.1 then (if (bt598.2 != bt602.2) = true then (laws_FnFolded.j0 k bt588.1 bt588.2 bt594.2 bt596.1 bt598.1 bt598.2 bt602.1 bt606.1 bt606.2.1 bt606.2.2 bt613.1 bt613.2 true) else ((laws_qParts.f k bt598.1 bt602.1).bind fun t621 => (if t621 = true then (if (bt613.2 != bt617.2) = true then (laws_FnFolded.j0 k bt588.1 bt588.2 bt594.2 bt596.1 bt598.1 bt598.2 bt602.1 bt606.1 bt606.2.1 bt606.2.2 bt613.1 bt613.2 true) else ((laws_qParts.f k bt613.1 bt617.1).bind fun t622 => (if t622 = true then (if bt594.2 = true then (if bt596.1 > 1000000000 then (laws_FnFolded.j0 k bt588.1 bt588.2 bt594.2 bt596.1 bt598.1 bt598.2 bt602.1 bt606.1 bt606.2.1 bt606.2.2 bt613.1 bt613.2 true) else (laws_FnFolded.j0 k bt588.1 bt588.2 bt594.2 bt596.1 bt598.1 bt598.2 bt602.1 bt606.1 bt606.2.1 bt606.2.2 bt613.1 bt613.2 (decide (bt596.1 < (-1000000000))))) else (laws_FnFolded.j0 k bt588.1 bt588.2 bt594.2 bt596.1 bt598.1 bt598.2 bt602.1 bt606.1 bt606.2.1 bt606.2.2 bt613.1 bt613.2 false)) else (laws_FnFolded.j0 k bt588.1 bt588.2 bt594.2 bt596.1 bt598.1 bt598.2 bt602.1 bt606.1 bt606.2.1 bt606.2.2 bt613.1 bt613.2 true)))) else (laws_FnFolded.j0 k bt588.1 bt588.2 bt594.2 bt596.1 bt598.1 bt598.2 bt602.1 bt606.1 bt606.2.1 bt606.2.2 bt613.1 bt613.2 true)))) else (laws_FnFolded.j0 k bt588.1 bt588.2 bt594.2 bt596.1 bt598.1 bt598.2 bt602.1 bt606.1 bt606.2.1 bt606.2.2 bt613.1 bt613.2 true)))))))))))) = some r := h
 clear h
 by_cases c3 : (wrap64 ((l0.length : Int) + (l1.length : Int))) > 1048576
 ·rw [if_pos c3] at H
  have c3b0 : decide (1048576 < (wrap64 ((l0.length : Int) + (l1.length : Int)))) = true := decide_eq_true c3
  clear c3
  obtain rfl := Option.some.inj H
  go_enter Try.func3, Try.ntmps3
  go_wp2
  go_ret
  exact ⟨by first | rfl | (simp [errW_none, errW_some] <;> rfl) | (simp [*, errW_none, errW_some] <;> rfl), hb_ HB⟩
 ·refine ?z1_
  let rec p1_ : type_of% ?z1_ := by(
  rw [if_neg c3] at H
  have c3b0 : decide (1048576 < (wrap64 ((l0.length : Int) + (l1.length : Int)))) = false := decide_eq_false c3
  clear c3
  replace H := Option.bind_eq_some_iff.mp H
  obtain ⟨⟨t588, t589⟩, A40, H⟩ := H
  replace H : ((impl_EvalRule.f k t588 t589).bind fun bt594 => ((spec_EvalRule.f k t588 t589).bind fun bt596 => ((impl_FoldRule.f k t588).bind fun bt598 => ((spec_FoldRule.f k t588).bind fun bt602 => ((spec_DrawPutField.f k l1).bind fun bt606 => ((impl_PutField.f k bt606.1 bt606.2.1 bt606.2.2).bind fun bt613 => ((spec_PutField.f k bt606.1 bt606.2.1 bt606.2.2).bind fun bt617 => (if (bt594.2 != bt596.2) = true then (laws_FnFolded.j0 k t588 t589 bt594.2 bt596.1 bt598.1 bt598.2 bt602.1 bt606.1 bt606.2.1 bt606.2.2 bt613.1 bt613.2 true) else (if bt594.1 = bt596.1 then (if (bt598.2 != bt602.2) = true then (laws_FnFolded.j0 k t588 t589 bt594.2 bt596.1 bt598.1 bt598.2 bt602.1 bt606.1 bt606.2.1 bt606.2.2 bt613.1 bt613.2 true) else ((laws_qParts.f k bt598.1 bt602.1).bind fun t621 => (if t621 = true then (if (bt613.2 != bt617.2) = true then (laws_FnFolded.j0 k t588 t589 bt594.2 bt596.1 bt598.1 bt598.2 bt602.1 bt606.1 bt606.2.1 bt606.2.2 bt613.1 bt613.2 true) else ((laws_qParts.f k bt613.1 bt617.1).bind fun t622 => (if t622 = true then (if bt594.2 = true then (if bt596.1 > 1000000000 then (laws_FnFolded.j0 k t588 t589 bt594.2 bt596.1 bt598.1 bt598.2 bt602.1 bt606.1 bt606.2.1 bt606.2.2 bt613.1 bt613.2 true) else (laws_FnFolded.j0 k t588 t589 bt594.2 bt596.1 bt598.1 bt598.2 bt602.1 bt606.1 bt606.2.1 bt606.2.2 bt613.1 bt613.2 (decide (bt596.1 < (-1000000000))))) else (laws_FnFolded.j0 k t588 t589 bt594.2 bt596.1 bt598.1 bt598.2 bt602.1 bt606.1 bt606.2.1 bt606.2.2 bt613.1 bt613.2 false)) else (laws_FnFolded.j0 k t588 t589 bt594.2 bt596.1 bt598.1 bt598.2 bt602.1 bt606.1 bt606.2.1 bt606.2.2 bt613.1 bt613.2 true)))) else (laws_FnFolded.j0 k t588 t589 bt594.2 bt596.1 bt598.1 bt598.2 bt602.1 bt606.1 bt606.2.1 bt606.2.2 bt613.1 bt613.2 true)))) else (laws_FnFolded.j0 k t588 t589 bt594.2 bt596.1 bt598.1 bt598.2 bt602.1 bt606.1 bt606.2.1 bt606.2.2 bt613.1 bt613.2 true)))))))))) = some r := H
  have A4 := Aside0.mk A40
  clear A40
  replace H := Option.bind_eq_some_iff.mp H
  obtain ⟨⟨t594, t595⟩, A50, H⟩ := H
  replace H : ((spec_EvalRule.f k t588 t589).bind fun bt596 => ((impl_FoldRule.f k t588).bind fun bt598 => ((spec_FoldRule.f k t588).bind fun bt602 => ((spec_DrawPutField.f k l1).bind fun bt606 => ((impl_PutField.f k bt606.1 bt606.2.1 bt606.2.2).bind fun bt613 => ((spec_PutField.f k bt606.1 bt606.2.1 bt606.2.2).bind fun bt617 => (if (t595 != bt596.2) = true then (laws_FnFolded.j0 k t588 t589 t595 bt596.1 bt598.1 bt598.2 bt602.1 bt606.1 bt606.2.1 bt606.2.2 bt613.1 bt613.2 true) else (if t594 = bt596.1 then (if (bt598.2 != bt602.2) = true then (laws_FnFolded.j0 k t588 t589 t595 bt596.1 bt598.1 bt598.2 bt602.1 bt606.1 bt606.2.1 bt606.2.2 bt613.1 bt613.2 true) else ((laws_qParts.f k bt598.1 bt602.1).bind fun t621 => (if t621 = true then (if (bt613.2 != bt617.2) = true then (laws_FnFolded.j0 k t588 t589 t595 bt596.1 bt598.1 bt598.2 bt602.1 bt606.1 bt606.2.1 bt606.2.2 bt613.1 bt613.2 true) else ((laws_qParts.f k bt613.1 bt617.1).bind fun t622 => (if t622 = true then (if t595 = true then (if bt596.1 > 1000000000 then (laws_FnFolded.j0 k t588 t589 t595 bt596.1 bt598.1 bt598.2 bt602.1 bt606.1 bt606.2.1 bt606.2.2 bt613.1 bt613.2 true) else (laws_FnFolded.j0 k t588 t589 t595 bt596.1 bt598.1 bt598.2 bt602.1 bt606.1 bt606.2.1 bt606.2.2 bt613.1 bt613.2 (decide (bt596.1 < (-1000000000))))) else (laws_FnFolded.j0 k t588 t589 t595 bt596.1 bt598.1 bt598.2 bt602.1 bt606.1 bt606.2.1 bt606.2.2 bt613.1 bt613.2 false)) else (laws_FnFolded.j0 k t588 t589 t595 bt596.1 bt598.1 bt598.2 bt602.1 bt606.1 bt606.2.1 bt606.2.2 bt613.1 bt613.2 true)))) else (laws_FnFolded.j0 k t588 t589 t595 bt596.1 bt598.1 bt598.2 bt602.1 bt606.1 bt606.2.1 bt606.2.2 bt613.1 bt613.2 true)))) else (laws_FnFolded.j0 k t588 t589 t595 bt596.1 bt598.1 bt598.2 bt602.1 bt606.1 bt606.2.1 bt606.2.2 bt613.1 bt613.2 true))))))))) = some r := H
  have A5 := Aside0.mk A50
  clear A50
  replace H := Option.bind_eq_some_iff.mp H
  obtain ⟨⟨t596, t597⟩, A60, H⟩ := H
  replace H : ((impl_FoldRule.f k t588).bind fun bt598 => ((spec_FoldRule.f k t588).bind fun bt602 => ((spec_DrawPutField.f k l1).bind fun bt606 => ((impl_PutField.f k bt606.1 bt606.2.1 bt606.2.2).bind fun bt613 => ((spec_PutField.f k bt606.1 bt606.2.1 bt606.2.2).bind fun bt617 => (if (t595 != t597) = true then (laws_FnFolded.j0 k t588 t589 t595 t596 bt598.1 bt598.2 bt602.1 bt606.1 bt606.2.1 bt606.2.2 bt613.1 bt613.2 true) else (if t594 = t596 then (if (bt598.2 != bt602.2) = true then (laws_FnFolded.j0 k t588 t589 t595 t596 bt598.1 bt598.2 bt602.1 bt606.1 bt606.2.1 bt606.2.2 bt613.1 bt613.2 true) else ((laws_qParts.f k bt598.1 bt602.1).bind fun t621 => (if t621 = true then (if (bt613.2 != bt617.2) = true then (laws_FnFolded.j0 k t588 t589 t595 t596 bt598.1 bt598.2 bt602.1 bt606.1 bt606.2.1 bt606.2.2 bt613.1 bt613.2 true) else ((laws_qParts.f k bt613.1 bt617.1).bind fun t622 => (if t622 = true then (if t595 = true then (if t596 > 1000000000 then (laws_FnFolded.j0 k t588 t589 t595 t596 bt598.1 bt598.2 bt602.1 bt606.1 bt606.2.1 bt606.2.2 bt613.1 bt613.2 true) else (laws_FnFolded.j0 k t588 t589 t595 t596 bt598.1 bt598.2 bt602.1 bt606.1 bt606.2.1 bt606.2.2 bt613.1 bt613.2 (decide (t596 < (-1000000000))))) else (laws_FnFolded.j0 k t588 t589 t595 t596 bt598.1 bt598.2 bt602.1 bt606.1 bt606.2.1 bt606.2.2 bt613.1 bt613.2 false)) else (laws_FnFolded.j0 k t588 t589 t595 t596 bt598.1 bt598.2 bt602.1 bt606.1 bt606.2.1 bt606.2.2 bt613.1 bt613.2 true)))) else (laws_FnFolded.j0 k t588 t589 t595 t596 bt598.1 bt598.2 bt602.1 bt606.1 bt606.2.1 bt606.2.2 bt613.1 bt613.2 true)))) else (laws_FnFolded.j0 k t588 t589 t595 t596 bt598.1 bt598.2 bt602.1 bt606.1 bt606.2.1 bt606.2.2 bt613.1 bt613.2 true)))))))) = some r := H
  have A6 := Aside0.mk A60
  clear A60
  replace H := Option.bind_eq_some_iff.mp H
  obtain ⟨⟨t598, t599⟩, A70, H⟩ := H
  replace H : ((spec_FoldRule.f k t588).bind fun bt602 => ((spec_DrawPutField.f k l1).bind fun bt606 => ((impl_PutField.f k bt606.1 bt606.2.1 bt606.2.2).bind fun bt613 => ((spec_PutField.f k bt606.1 bt606.2.1 bt606.2.2).bind fun bt617 => (if (t595 != t597) = true then (laws_FnFolded.j0 k t588 t589 t595 t596 t598 t599 bt602.1 bt606.1 bt606.2.1 bt606.2.2 bt613.1 bt613.2 true) else (if t594 = t596 then (if (t599 != bt602.2) = true then (laws_FnFolded.j0 k t588 t589 t595 t596 t598 t599 bt602.1 bt606.1 bt606.2.1 bt606.2.2 bt613.1 bt613.2 true) else ((laws_qParts.f k t598 bt602.1).bind fun t621 => (if t621 = true then (if (bt613.2 != bt617.2) = true then (laws_FnFolded.j0 k t588 t589 t595 t596 t598 t599 bt602.1 bt606.1 bt606.2.1 bt606.2.2 bt613.1 bt613.2 true) else ((laws_qParts.f k bt613.1 bt617.1).bind fun t622 => (if t622 = true then (if t595 = true then (if t596 > 1000000000 then (laws_FnFolded.j0 k t588 t589 t595 t596 t598 t599 bt602.1 bt606.1 bt606.2.1 bt606.2.2 bt613.1 bt613.2 true) else (laws_FnFolded.j0 k t588 t589 t595 t596 t598 t599 bt602.1 bt606.1 bt606.2.1 bt606.2.2 bt613.1 bt613.2 (decide (t596 < (-1000000000))))) else (laws_FnFolded.j0 k t588 t589 t595 t596 t598 t599 bt602.1 bt606.1 bt606.2.1 bt606.2.2 bt613.1 bt613.2 false)) else (laws_FnFolded.j0 k t588 t589 t595 t596 t598 t599 bt602.1 bt606.1 bt606.2.1 bt606.2.2 bt613.1 bt613.2 true)))) else (laws_FnFolded.j0 k t588 t589 t595 t596 t598 t599 bt602.1 bt606.1 bt606.2.1 bt606.2.2 bt613.1 bt613.2 true)))) else (laws_FnFolded.j0 k t588 t589 t595 t596 t598 t599 bt602.1 bt606.1 bt606.2.1 bt606.2.2 bt613.1 bt613.2 true))))))) = some r := H
  have A7 := Aside0.mk A70
  clear A70
  replace H := Option.bind_eq_some_iff.mp H
  obtain ⟨⟨t602, t603⟩, A80, H⟩ := H
  replace H : ((spec_DrawPutField.f k l1).bind fun bt606 => ((impl_PutField.f k bt606.1 bt606.2.1 bt606.2.2).bind fun bt613 => ((spec_PutField.f k bt606.1 bt606.2.1 bt606.2.2).bind fun bt617 => (if (t595 != t597) = true then (laws_FnFolded.j0 k t588 t589 t595 t596 t598 t599 t602 bt606.1 bt606.2.1 bt606.2.2 bt613.1 bt613.2 true) else (if t594 = t596 then (if (t599 != t603) = true then (laws_FnFolded.j0 k t588 t589 t595 t596 t598 t599 t602 bt606.1 bt606.2.1 bt606.2.2 bt613.1 bt613.2 true) else ((laws_qParts.f k t598 t602).bind fun t621 => (if t621 = true then (if (bt613.2 != bt617.2) = true then (laws_FnFolded.j0 k t588 t589 t595 t596 t598 t599 t602 bt606.1 bt606.2.1 bt606.2.2 bt613.1 bt613.2 true) else ((laws_qParts.f k bt613.1 bt617.1).bind fun t622 => (if t622 = true then (if t595 = true then (if t596 > 1000000000 then (laws_FnFolded.j0 k t588 t589 t595 t596 t598 t599 t602 bt606.1 bt606.2.1 bt606.2.2 bt613.1 bt613.2 true) else (laws_FnFolded.j0 k t588 t589 t595 t596 t598 t599 t602 bt606.1 bt606.2.1 bt606.2.2 bt613.1 bt613.2 (decide (t596 < (-1000000000))))) else (laws_FnFolded.j0 k t588 t589 t595 t596 t598 t599 t602 bt606.1 bt606.2.1 bt606.2.2 bt613.1 bt613.2 false)) else (laws_FnFolded.j0 k t588 t589 t595 t596 t598 t599 t602 bt606.1 bt606.2.1 bt606.2.2 bt613.1 bt613.2 true)))) else (laws_FnFolded.j0 k t588 t589 t595 t596 t598 t599 t602 bt606.1 bt606.2.1 bt606.2.2 bt613.1 bt613.2 true)))) else (laws_FnFolded.j0 k t588 t589 t595 t596 t598 t599 t602 bt606.1 bt606.2.1 bt606.2.2 bt613.1 bt613.2 true)))))) = some r := H
  have A8 := Aside0.mk A80
  clear A80
  replace H := Option.bind_eq_some_iff.mp H
  obtain ⟨⟨t606, t607, t608⟩, A90, H⟩ := H
  replace H : ((impl_PutField.f k t606 t607 t608).bind fun bt613 => ((spec_PutField.f k t606 t607 t608).bind fun bt617 => (if (t595 != t597) = true then (laws_FnFolded.j0 k t588 t589 t595 t596 t598 t599 t602 t606 t607 t608 bt613.1 bt613.2 true) else (if t594 = t596 then (if (t599 != t603) = true then (laws_FnFolded.j0 k t588 t589 t595 t596 t598 t599 t602 t606 t607 t608 bt613.1 bt613.2 true) else ((laws_qParts.f k t598 t602).bind fun t621 => (if t621 = true then (if (bt613.2 != bt617.2) = true then (laws_FnFolded.j0 k t588 t589 t595 t596 t598 t599 t602 t606 t607 t608 bt613.1 bt613.2 true) else ((laws_qParts.f k bt613.1 bt617.1).bind fun t622 => (if t622 = true then (if t595 = true then (if t596 > 1000000000 then (laws_FnFolded.j0 k t588 t589 t595 t596 t598 t599 t602 t606 t607 t608 bt613.1 bt613.2 true) else (laws_FnFolded.j0 k t588 t589 t595 t596 t598 t599 t602 t606 t607 t608 bt613.1 bt613.2 (decide (t596 < (-1000000000))))) else (laws_FnFolded.j0 k t588 t589 t595 t596 t598 t599 t602 t606 t607 t608 bt613.1 bt613.2 false)) else (laws_FnFolded.j0 k t588 t589 t595 t596 t598 t599 t602 t606 t607 t608 bt613.1 bt613.2 true)))) else (laws_FnFolded.j0 k t588 t589 t595 t596 t598 t599 t602 t606 t607 t608 bt613.1 bt613.2 true)))) else (laws_FnFolded.j0 k t588 t589 t595 t596 t598 t599 t602 t606 t607 t608 bt613.1 bt613.2 true))))) = some r := H
  have A9 := Aside0.mk A90
  clear A90
  replace H := Option.bind_eq_some_iff.mp H
  obtain ⟨⟨t613, t614⟩, A100, H⟩ := H
  replace H : ((spec_PutField.f k t606 t607 t608).bind fun bt617 => (if (t595 != t597) = true then (laws_FnFolded.j0 k t588 t589 t595 t596 t598 t599 t602 t606 t607 t608 t613 t614 true) else (if t594 = t596 then (if (t599 != t603) = true then (laws_FnFolded.j0 k t588 t589 t595 t596 t598 t599 t602 t606 t607 t608 t613 t614 true) else ((laws_qParts.f k t598 t602).bind fun t621 => (if t621 = true then (if (t614 != bt617.2) = true then (laws_FnFolded.j0 k t588 t589 t595 t596 t598 t599 t602 t606 t607 t608 t613 t614 true) else ((laws_qParts.f k t613 bt617.1).bind fun t622 => (if t622 = true then (if t595 = true then (if t596 > 1000000000 then (laws_FnFolded.j0 k t588 t589 t595 t596 t598 t599 t602 t606 t607 t608 t613 t614 true) else (laws_FnFolded.j0 k t588 t589 t595 t596 t598 t599 t602 t606 t607 t608 t613 t614 (decide (t596 < (-1000000000))))) else (laws_FnFolded.j0 k t588 t589 t595 t596 t598 t599 t602 t606 t607 t608 t613 t614 false)) else (laws_FnFolded.j0 k t588 t589 t595 t596 t598 t599 t602 t606 t607 t608 t613 t614 true)))) else (laws_FnFolded.j0 k t588 t589 t595 t596 t598 t599 t602 t606 t607 t608 t613 t614 true)))) else (laws_FnFolded.j0 k t588 t589 t595 t596 t598 t599 t602 t606 t607 t608 t613 t614 true)))) = some r := H
  have A10 := Aside0.mk A100
  clear A100
  replace H := Option.bind_eq_some_iff.mp H
  obtain ⟨⟨t617, t618⟩, A110, H⟩ := H
  replace H : (if (t595 != t597) = true then (laws_FnFolded.j0 k t588 t589 t595 t596 t598 t599 t602 t606 t607 t608 t613 t614 true) else (if t594 = t596 then (if (t599 != t603) = true then (laws_FnFolded.j0 k t588 t589 t595 t596 t598 t599 t602 t606 t607 t608 t613 t614 true) else ((laws_qParts.f k t598 t602).bind fun t621 => (if t621 = true then (if (t614 != t618) = true then (laws_FnFolded.j0 k t588 t589 t595 t596 t598 t599 t602 t606 t607 t608 t613 t614 true) else ((laws_qParts.f k t613 t617).bind fun t622 => (if t622 = true then (if t595 = true then (if t596 > 1000000000 then (laws_FnFolded.j0 k t588 t589 t595 t596 t598 t599 t602 t606 t607 t608 t613 t614 true) else (laws_FnFolded.j0 k t588 t589 t595 t596 t598 t599 t602 t606 t607 t608 t613 t614 (decide (t596 < (-1000000000))))) else (laws_FnFolded.j0 k t588 t589 t595 t596 t598 t599 t602 t606 t607 t608 t613 t614 false)) else (laws_FnFolded.j0 k t588 t589 t595 t596 t598 t599 t602 t606 t607 t608 t613 t614 true)))) else (laws_FnFolded.j0 k t588 t589 t595 t596 t598 t599 t602 t606 t607 t608 t613 t614 true)))) else (laws_FnFolded.j0 k t588 t589 t595 t596 t598 t599 t602 t606 t607 t608 t613 t614 true))) = some r := H
  have A11 := Aside0.mk A110
  clear A110
  have HC12 := Aside0.mk H
  clear H
  go_enter Try.func3, Try.ntmps3
  go_upto_region 11 with (first | ((with_reducible refine gate_callee (f := 4) rfl ?_); refine gl_ (some 43) Try.func4 #[.slice A0 l0.length c0] rfl rfl rfl ?_; (with_reducible refine (spec_DrawEvalRule.calls k _ _ l0 t588 t589 _ ?side1 ?side2 A4.out).mono ?_); (case side1 => repeat (first | exact HR0.out | (with_reducible refine Kd.C_alloc ?_ _) | (with_reducible refine Kd.C_drewN ?_ _) | (with_reducible refine Kd.C_drew ?_))); (case side2 => exact HC0.out); rintro e w13 ⟨v590, v592, rfl, ho0, ho1, hb⟩; refine ⟨_, rfl, ?_⟩; have HO591 := Kd.R_lo ho0 HB; have HO593 := Kd.R_lo ho1 HB; replace HB := hbs_ HB hb; (try clear hb); (try clear hb2); (try clear hk); (try clear hi); (try clear ho0); (try clear ho1); obtain ⟨Ao14, co14, eo14⟩ := Kd.R_slice HO591.out; subst eo14; obtain ⟨Ao15, co15, eo15⟩ := Kd.R_slice HO593.out; subst eo15) | ((with_reducible refine gate_callee (f := 5) rfl ?_); refine gl_ (some 49) Try.func5 #[.slice Ao14 t588.length co14, .slice Ao15 t589.length co15] rfl rfl rfl ?_; (with_reducible refine (impl_EvalRule.calls k _ _ t588 _ _ t589 t594 t595 _ ?side1 ?side2 ?side3 ?side4 A5.out).mono ?_); (case side1 => exact Kd.C_o HO591); (case side2 => exact (Kd.R_reads' HO591.out).2.1); (case side3 => exact Kd.C_o HO593); (case side4 => exact (Kd.R_reads' HO593.out).2.1); rintro e w16 ⟨rfl, hb⟩; refine ⟨_, rfl, ?_⟩; replace HO591 := Kd.R_b HO591 hb; replace HO593 := Kd.R_b HO593 hb; replace HB := hbs_ HB hb; (try clear hb); (try clear hb2); (try clear hk); (try clear hi)) | ((with_reducible refine gate_callee (f := 6) rfl ?_); refine gl_ (some 55) Try.func6 #[.slice Ao14 t588.length co14, .slice Ao15 t589.length co15] rfl rfl rfl ?_; (with_reducible refine (spec_EvalRule.calls k _ _ t588 _ _ t589 t596 t597 _ ?side1 ?side2 ?side3 ?side4 A6.out).mono ?_); (case side1 => exact Kd.C_o HO591); (case side2 => exact (Kd.R_reads' HO591.out).2.1); (case side3 => exact Kd.C_o HO593); (case side4 => exact (Kd.R_reads' HO593.out).2.1); rintro e w17 ⟨rfl, hb⟩; refine ⟨_, rfl, ?_⟩; replace HO591 := Kd.R_b HO591 hb; replace HO593 := Kd.R_b HO593 hb; replace HB := hbs_ HB hb; (try clear hb); (try clear hb2); (try clear hk); (try clear hi)) | ((with_reducible refine gate_callee (f := 7) rfl ?_); refine gl_ (some 60) Try.func7 #[.slice Ao14 t588.length co14] rfl rfl rfl ?_; (with_reducible refine (impl_FoldRule.calls k _ _ t588 t598 t599 _ ?side1 ?side2 A7.out).mono ?_); (case side1 => exact Kd.C_o HO591); (case side2 => exact (Kd.R_reads' HO591.out).2.1); rintro e w18 ⟨v600, rfl, ho0, hb⟩; refine ⟨_, rfl, ?_⟩; have HO601 := Kd.R_lo (Kd.R_nw ho0 HO591) HB; replace HO591 := Kd.R_e HO591 ho0 hb; replace HO593 := Kd.R_b HO593 hb; replace HB := hbs_ HB hb; (try clear hb); (try clear hb2); (try clear hk); (try clear hi); (try clear ho0)) | ((with_reducible refine gate_callee (f := 8) rfl ?_); refine gl_ (some 65) Try.func8 #[.slice Ao14 t588.length co14] rfl rfl rfl ?_; (with_reducible refine (spec_FoldRule.calls k _ _ t588 t602 t603 _ ?side1 ?side2 A8.out).mono ?_); (case side1 => exact Kd.C_o HO591); (case side2 => exact (Kd.R_reads' HO591.out).2.1); rintro e w19 ⟨v604, rfl, ho0, hb⟩; refine ⟨_, rfl, ?_⟩; have HO605 := Kd.R_lo (Kd.R_nw (Kd.R_nw ho0 HO591) HO601) HB; replace HO591 := Kd.R_e HO591 ho0 hb; replace HO593 := Kd.R_b HO593 hb; replace HO601 := Kd.R_e HO601 ho0 hb; replace HB := hbs_ HB hb; (try clear hb); (try clear hb2); (try clear hk); (try clear hi); (try clear ho0)) | ((with_reducible refine gate_callee (f := 9) rfl ?_); refine gl_ (some 70) Try.func9 #[.slice A1 l1.length c1] rfl rfl rfl ?_; (with_reducible refine (spec_DrawPutField.calls k _ _ l1 t606 t607 t608 _ ?side1 ?side2 A9.out).mono ?_); (case side1 => exact Kd.C_w HR1 HB); (case side2 => exact HC1.out); rintro e w20 ⟨v609, v611, rfl, ho0, ho1, hb⟩; refine ⟨_, rfl, ?_⟩; have HO610 := Kd.R_lo (Kd.R_nw (Kd.R_nw (Kd.R_nw ho0 HO591) HO601) HO605) HB; have HO612 := Kd.R_lo (Kd.R_nw (Kd.R_nw (Kd.R_nw ho1 HO591) HO601) HO605) HB; replace HO591 := Kd.R_e2 HO591 ho0 ho1 hb; replace HO593 := Kd.R_b HO593 hb; replace HO601 := Kd.R_e2 HO601 ho0 ho1 hb; replace HO605 := Kd.R_e2 HO605 ho0 ho1 hb; replace HB := hbs_ HB hb; (try clear hb); (try clear hb2); (try clear hk); (try clear hi); (try clear ho0); (try clear ho1); obtain ⟨Ao21, co21, eo21⟩ := Kd.R_slice HO610.out; subst eo21; obtain ⟨Ao22, co22, eo22⟩ := Kd.R_slice HO612.out; subst eo22) | ((with_reducible refine gate_callee (f := 10) rfl ?_); refine gl_ (some 78) Try.func10 #[.slice Ao21 t606.length co21, .int .i64 t607, .slice Ao22 t608.length co22] rfl rfl rfl ?_; (with_reducible refine (impl_PutField.calls k _ _ t606 t607 _ _ t608 t613 t614 _ ?side1 ?side2 ?side3 ?side4 A10.out).mono ?_); (case side1 => exact Kd.C_o HO610); (case side2 => exact (Kd.R_reads' HO610.out).2.1); (case side3 => exact Kd.C_o HO612); (case side4 => exact (Kd.R_reads' HO612.out).2.1); rintro e w23 ⟨v615, rfl, ho0, hb⟩; refine ⟨_, rfl, ?_⟩; have HO616 := Kd.R_lo (Kd.R_nw (Kd.R_nw (Kd.R_nw (Kd.R_nw (Kd.R_nw ho0 HO591) HO601) HO605) HO610) HO612) HB; replace HO591 := Kd.R_e HO591 ho0 hb; replace HO593 := Kd.R_b HO593 hb; replace HO601 := Kd.R_e HO601 ho0 hb; replace HO605 := Kd.R_e HO605 ho0 hb; replace HO610 := Kd.R_e HO610 ho0 hb; replace HO612 := Kd.R_e HO612 ho0 hb; replace HB := hbs_ HB hb; (try clear hb); (try clear hb2); (try clear hk); (try clear hi); (try clear ho0)) | ((with_reducible refine gate_callee (f := 11) rfl ?_); refine gl_ (some 85) Try.func11 #[.slice Ao21 t606.length co21, .int .i64 t607, .slice Ao22 t608.length co22] rfl rfl rfl ?_; (with_reducible refine (spec_PutField.calls k _ _ t606 t607 _ _ t608 t617 t618 _ ?side1 ?side2 ?side3 ?side4 A11.out).mono ?_); (case side1 => exact Kd.C_o HO610); (case side2 => exact (Kd.R_reads' HO610.out).2.1); (case side3 => exact Kd.C_o HO612); (case side4 => exact (Kd.R_reads' HO612.out).2.1); rintro e w24 ⟨v619, rfl, ho0, hb⟩; refine ⟨_, rfl, ?_⟩; have HO620 := Kd.R_lo (Kd.R_nw (Kd.R_nw (Kd.R_nw (Kd.R_nw (Kd.R_nw (Kd.R_nw ho0 HO591) HO601) HO605) HO610) HO612) HO616) HB; replace HO591 := Kd.R_e HO591 ho0 hb; replace HO593 := Kd.R_b HO593 hb; replace HO601 := Kd.R_e HO601 ho0 hb; replace HO605 := Kd.R_e HO605 ho0 hb; replace HO610 := Kd.R_e HO610 ho0 hb; replace HO612 := Kd.R_e HO612 ho0 hb; replace HO616 := Kd.R_e HO616 ho0 hb; replace HB := hbs_ HB hb; (try clear hb); (try clear hb2); (try clear hk); (try clear hi); (try clear ho0)))
  (try simp only [Act.put, List.setIfInBounds_toArray, List.set_cons_zero, List.set_cons_succ])
  go_cut [128] (fun v128 wc => ∃ (kq : Nat) (x128_11 : Bool), v128 = .bool x128_11 ∧ Aside0 (laws_FnFolded.j0 kq t588 t589 t595 t596 t598 t599 t602 t606 t607 t608 t613 t614 x128_11 = some r) ∧ Aside0 (kq ≤ k) ∧ Aside0 (Kd.R k52 52 wc w.heap.size (fun k_ => some k_ ≠ (v600 : Value).ownBlock ∧ some k_ ≠ (v604 : Value).ownBlock ∧ some k_ ≠ ((.slice Ao21 t606.length co21) : Value).ownBlock ∧ some k_ ≠ ((.slice Ao22 t608.length co22) : Value).ownBlock ∧ some k_ ≠ (v615 : Value).ownBlock) (.slice Ao14 t588.length co14) t588) ∧ Aside0 (Kd.R (Kd.int .i64) 3 wc w.heap.size (fun _ => True) (.slice Ao15 t589.length co15) t589) ∧ Aside0 (Kd.R k52 52 wc w.heap.size (fun k_ => some k_ ≠ ((.slice Ao14 t588.length co14) : Value).ownBlock ∧ some k_ ≠ (v604 : Value).ownBlock ∧ some k_ ≠ ((.slice Ao21 t606.length co21) : Value).ownBlock ∧ some k_ ≠ ((.slice Ao22 t608.length co22) : Value).ownBlock ∧ some k_ ≠ (v615 : Value).ownBlock) v600 t598) ∧ Aside0 (Kd.R k52 52 wc w.heap.size (fun k_ => some k_ ≠ ((.slice Ao14 t588.length co14) : Value).ownBlock ∧ some k_ ≠ (v600 : Value).ownBlock ∧ some k_ ≠ ((.slice Ao21 t606.length co21) : Value).ownBlock ∧ some k_ ≠ ((.slice Ao22 t608.length co22) : Value).ownBlock ∧ some k_ ≠ (v615 : Value).ownBlock) v604 t602) ∧ Aside0 (Kd.R k52 52 wc w.heap.size (fun k_ => some k_ ≠ ((.slice Ao14 t588.length co14) : Value).ownBlock ∧ some k_ ≠ (v600 : Value).ownBlock ∧ some k_ ≠ (v604 : Value).ownBlock ∧ some k_ ≠ ((.slice Ao22 t608.length co22) : Value).ownBlock ∧ some k_ ≠ (v615 : Value).ownBlock) (.slice Ao21 t606.length co21) t606) ∧ Aside0 (Kd.R k52 52 wc w.heap.size (fun k_ => some k_ ≠ ((.slice Ao14 t588.length co14) : Value).ownBlock ∧ some k_ ≠ (v600 : Value).ownBlock ∧ some k_ ≠ (v604 : Value).ownBlock ∧ some k_ ≠ ((.slice Ao21 t606.length co21) : Value).ownBlock ∧ some k_ ≠ (v615 : Value).ownBlock) (.slice Ao22 t608.length co22) t608) ∧ Aside0 (Kd.R k52 52 wc w.heap.size (fun k_ => some k_ ≠ ((.slice Ao14 t588.length co14) : Value).ownBlock ∧ some k_ ≠ (v600 : Value).ownBlock ∧ some k_ ≠ (v604 : Value).ownBlock ∧ some k_ ≠ ((.slice Ao21 t606.length co21) : Value).ownBlock ∧ some k_ ≠ ((.slice Ao22 t608.length co22) : Value).ownBlock) v615 t613) ∧ Aside0 (Below w.heap.size w wc))
  case first =>
   have H := HC12.out
   clear HC12
   by_cases c25 : (t595 != t597) = true
   ·rw [if_pos c25] at H
    have c25b0 : (t595 != t597) = true := c25
    (try (have c25b1 : decide (t595 = t597) = false := by simpa using c25))
    (try (have c25b2 : (t595 == t597) = false := by simpa using c25))
    (try (have c25b3 : ¬ (t595 = t597) := by simpa using c25))
    clear c25
    (first | rw [c25b0] | (simp only [i64_w, i32_w]; rw [c25b0]) | skip)
    have H' := Aside0.mk H
    clear H
    go_wp2
    go_meet
    case rel => exact ⟨_, (true), (by first | rfl | (simp; done) | (simp [*]; done)), H', ⟨by first | omega | exact Nat.le_refl _⟩, ⟨Kd.R_pp (Kd.R_mono HO591.out (fun _ hk => ⟨hk.1.1.1.1.1.2, ⟨hk.1.1.1.1.2, ⟨hk.1.1.1.2, ⟨hk.1.1.2, hk.1.2⟩⟩⟩⟩))⟩, ⟨Kd.R_p HO593⟩, ⟨Kd.R_pp (Kd.R_mono HO601.out (fun _ hk => ⟨hk.1.1.1.1.1.2, ⟨hk.1.1.1.1.2, ⟨hk.1.1.1.2, ⟨hk.1.1.2, hk.1.2⟩⟩⟩⟩))⟩, ⟨Kd.R_pp (Kd.R_mono HO605.out (fun _ hk => ⟨hk.1.1.1.1.1.2, ⟨hk.1.1.1.1.2, ⟨hk.1.1.1.2, ⟨hk.1.1.2, hk.1.2⟩⟩⟩⟩))⟩, ⟨Kd.R_pp (Kd.R_mono HO610.out (fun _ hk => ⟨hk.1.1.1.1.2, ⟨hk.1.1.1.2, ⟨hk.1.1.2, ⟨hk.1.1.1.1.1, hk.1.2⟩⟩⟩⟩))⟩, ⟨Kd.R_pp (Kd.R_mono HO612.out (fun _ hk => ⟨hk.1.1.1.1.2, ⟨hk.1.1.1.2, ⟨hk.1.1.2, ⟨hk.1.1.1.1.1, hk.1.2⟩⟩⟩⟩))⟩, ⟨Kd.R_pp (Kd.R_mono HO616.out (fun _ hk => ⟨hk.1.1.1.1.1.2, ⟨hk.1.1.1.1.2, ⟨hk.1.1.1.2, ⟨hk.1.1.2, hk.1.2⟩⟩⟩⟩))⟩, ⟨hb_ HB⟩⟩
   ·refine ?z2_
    let rec p2_ : type_of% ?z2_ := by(
    rw [if_neg c25] at H
    have c25b0 : (t595 != t597) = false := by simpa using c25
    (try (have c25b1 : decide (t595 = t597) = true := by simpa using c25))
    (try (have c25b2 : (t595 == t597) = true := by simpa using c25))
    clear c25
    (first | rw [c25b0] | (simp only [i64_w, i32_w]; rw [c25b0]) | skip)
    by_cases c26 : t594 = t596
    ·rw [if_pos c26] at H
     have c26b0 : (t594 == t596) = true := beq_iff_eq.mpr c26
     have c26b1 : (t594 != t596) = false := bne_eq_false_iff_eq.mpr c26
     clear c26
     by_cases c27 : (t599 != t603) = true
     ·rw [if_pos c27] at H
      have c27b0 : (t599 != t603) = true := c27
      (try (have c27b1 : decide (t599 = t603) = false := by simpa using c27))
      (try (have c27b2 : (t599 == t603) = false := by simpa using c27))
      (try (have c27b3 : ¬ (t599 = t603) := by simpa using c27))
      clear c27
      have H' := Aside0.mk H
      clear H
      go_wp2
      go_meet
      case rel => exact ⟨_, (true), (by first | rfl | (simp; done) | (simp [*]; done)), H', ⟨by first | omega | exact Nat.le_refl _⟩, ⟨Kd.R_pp (Kd.R_mono HO591.out (fun _ hk => ⟨hk.1.1.1.1.1.2, ⟨hk.1.1.1.1.2, ⟨hk.1.1.1.2, ⟨hk.1.1.2, hk.1.2⟩⟩⟩⟩))⟩, ⟨Kd.R_p HO593⟩, ⟨Kd.R_pp (Kd.R_mono HO601.out (fun _ hk => ⟨hk.1.1.1.1.1.2, ⟨hk.1.1.1.1.2, ⟨hk.1.1.1.2, ⟨hk.1.1.2, hk.1.2⟩⟩⟩⟩))⟩, ⟨Kd.R_pp (Kd.R_mono HO605.out (fun _ hk => ⟨hk.1.1.1.1.1.2, ⟨hk.1.1.1.1.2, ⟨hk.1.1.1.2, ⟨hk.1.1.2, hk.1.2⟩⟩⟩⟩))⟩, ⟨Kd.R_pp (Kd.R_mono HO610.out (fun _ hk => ⟨hk.1.1.1.1.2, ⟨hk.1.1.1.2, ⟨hk.1.1.2, ⟨hk.1.1.1.1.1, hk.1.2⟩⟩⟩⟩))⟩, ⟨Kd.R_pp (Kd.R_mono HO612.out (fun _ hk => ⟨hk.1.1.1.1.2, ⟨hk.1.1.1.2, ⟨hk.1.1.2, ⟨hk.1.1.1.1.1, hk.1.2⟩⟩⟩⟩))⟩, ⟨Kd.R_pp (Kd.R_mono HO616.out (fun _ hk => ⟨hk.1.1.1.1.1.2, ⟨hk.1.1.1.1.2, ⟨hk.1.1.1.2, ⟨hk.1.1.2, hk.1.2⟩⟩⟩⟩))⟩, ⟨hb_ HB⟩⟩
     ·rw [if_neg c27] at H
      have c27b0 : (t599 != t603) = false := by simpa using c27
      (try (have c27b1 : decide (t599 = t603) = true := by simpa using c27))
      (try (have c27b2 : (t599 == t603) = true := by simpa using c27))
      clear c27
      replace H := Option.bind_eq_some_iff.mp H
      obtain ⟨t621, A280, H⟩ := H
      replace H : (if t621 = true then (if (t614 != t618) = true then (laws_FnFolded.j0 k t588 t589 t595 t596 t598 t599 t602 t606 t607 t608 t613 t614 true) else ((laws_qParts.f k t613 t617).bind fun t622 => (if t622 = true then (if t595 = true then (if t596 > 1000000000 then (laws_FnFolded.j0 k t588 t589 t595 t596 t598 t599 t602 t606 t607 t608 t613 t614 true) else (laws_FnFolded.j0 k t588 t589 t595 t596 t598 t599 t602 t606 t607 t608 t613 t614 (decide (t596 < (-1000000000))))) else (laws_FnFolded.j0 k t588 t589 t595 t596 t598 t599 t602 t606 t607 t608 t613 t614 false)) else (laws_FnFolded.j0 k t588 t589 t595 t596 t598 t599 t602 t606 t607 t608 t613 t614 true)))) else (laws_FnFolded.j0 k t588 t589 t595 t596 t598 t599 t602 t606 t607 t608 t613 t614 true)) = some r := H
      have A28 := Aside0.mk A280
      clear A280
      by_cases c29 : t621 = true
      ·refine ?z3_
       let rec p3_ : type_of% ?z3_ := by(
       subst c29
       have H1 : (if (t614 != t618) = true then (laws_FnFolded.j0 k t588 t589 t595 t596 t598 t599 t602 t606 t607 t608 t613 t614 true) else ((laws_qParts.f k t613 t617).bind fun t622 => (if t622 = true then (if t595 = true then (if t596 > 1000000000 then (laws_FnFolded.j0 k t588 t589 t595 t596 t598 t599 t602 t606 t607 t608 t613 t614 true) else (laws_FnFolded.j0 k t588 t589 t595 t596 t598 t599 t602 t606 t607 t608 t613 t614 (decide (t596 < (-1000000000))))) else (laws_FnFolded.j0 k t588 t589 t595 t596 t598 t599 t602 t606 t607 t608 t613 t614 false)) else (laws_FnFolded.j0 k t588 t589 t595 t596 t598 t599 t602 t606 t607 t608 t613 t614 true)))) = some r := by rw [if_pos rfl] at H; exact H
       clear H
       have H := H1
       clear H1
       by_cases c30 : (t614 != t618) = true
       ·rw [if_pos c30] at H
        have c30b0 : (t614 != t618) = true := c30
        (try (have c30b1 : decide (t614 = t618) = false := by simpa using c30))
        (try (have c30b2 : (t614 == t618) = false := by simpa using c30))
        (try (have c30b3 : ¬ (t614 = t618) := by simpa using c30))
        clear c30
        have H' := Aside0.mk H
        clear H
        (try clear HO620)
        obtain ⟨Ao31, co31, eo31⟩ := Kd.R_slice HO601.out
        subst eo31
        obtain ⟨Ao32, co32, eo32⟩ := Kd.R_slice HO605.out
        subst eo32
        go_wp2_with (first | (go_at_call 12; (with_reducible refine (laws_qParts.calls k _ _ t598 _ _ t602 true _ ?side1 ?side2 ?side3 ?side4 A28.out).mono ?_); (case side1 => exact Kd.C_o HO601); (case side2 => exact (Kd.R_reads' HO601.out).2.1); (case side3 => exact Kd.C_o HO605); (case side4 => exact (Kd.R_reads' HO605.out).2.1); rintro e w' ⟨rfl, ⟨nd, rfl⟩⟩))
        go_meet
        case rel => exact ⟨_, (true), (by first | rfl | (simp; done) | (simp [*]; done)), H', ⟨by first | omega | exact Nat.le_refl _⟩, ⟨Kd.R_pp (Kd.R_mono HO591.out (fun _ hk => ⟨hk.1.1.1.1.1.2, ⟨hk.1.1.1.1.2, ⟨hk.1.1.1.2, ⟨hk.1.1.2, hk.1.2⟩⟩⟩⟩))⟩, ⟨Kd.R_p HO593⟩, ⟨Kd.R_pp (Kd.R_mono HO601.out (fun _ hk => ⟨hk.1.1.1.1.1.2, ⟨hk.1.1.1.1.2, ⟨hk.1.1.1.2, ⟨hk.1.1.2, hk.1.2⟩⟩⟩⟩))⟩, ⟨Kd.R_pp (Kd.R_mono HO605.out (fun _ hk => ⟨hk.1.1.1.1.1.2, ⟨hk.1.1.1.1.2, ⟨hk.1.1.1.2, ⟨hk.1.1.2, hk.1.2⟩⟩⟩⟩))⟩, ⟨Kd.R_pp (Kd.R_mono HO610.out (fun _ hk => ⟨hk.1.1.1.1.2, ⟨hk.1.1.1.2, ⟨hk.1.1.2, ⟨hk.1.1.1.1.1, hk.1.2⟩⟩⟩⟩))⟩, ⟨Kd.R_pp (Kd.R_mono HO612.out (fun _ hk => ⟨hk.1.1.1.1.2, ⟨hk.1.1.1.2, ⟨hk.1.1.2, ⟨hk.1.1.1.1.1, hk.1.2⟩⟩⟩⟩))⟩, ⟨Kd.R_pp (Kd.R_mono HO616.out (fun _ hk => ⟨hk.1.1.1.1.1.2, ⟨hk.1.1.1.1.2, ⟨hk.1.1.1.2, ⟨hk.1.1.2, hk.1.2⟩⟩⟩⟩))⟩, ⟨hb_ HB⟩⟩
       ·rw [if_neg c30] at H
        have c30b0 : (t614 != t618) = false := by simpa using c30
        (try (have c30b1 : decide (t614 = t618) = true := by simpa using c30))
        (try (have c30b2 : (t614 == t618) = true := by simpa using c30))
        clear c30
        replace H := Option.bind_eq_some_iff.mp H
        obtain ⟨t622, A330, H⟩ := H
        replace H : (if t622 = true then (if t595 = true then (if t596 > 1000000000 then (laws_FnFolded.j0 k t588 t589 t595 t596 t598 t599 t602 t606 t607 t608 t613 t614 true) else (laws_FnFolded.j0 k t588 t589 t595 t596 t598 t599 t602 t606 t607 t608 t613 t614 (decide (t596 < (-1000000000))))) else (laws_FnFolded.j0 k t588 t589 t595 t596 t598 t599 t602 t606 t607 t608 t613 t614 false)) else (laws_FnFolded.j0 k t588 t589 t595 t596 t598 t599 t602 t606 t607 t608 t613 t614 true)) = some r := H
        have A33 := Aside0.mk A330
        clear A330
        by_cases c34 : t622 = true
        ·refine ?z4_
         let rec p4_ : type_of% ?z4_ := by(
         subst c34
         have H1 : (if t595 = true then (if t596 > 1000000000 then (laws_FnFolded.j0 k t588 t589 t595 t596 t598 t599 t602 t606 t607 t608 t613 t614 true) else (laws_FnFolded.j0 k t588 t589 t595 t596 t598 t599 t602 t606 t607 t608 t613 t614 (decide (t596 < (-1000000000))))) else (laws_FnFolded.j0 k t588 t589 t595 t596 t598 t599 t602 t606 t607 t608 t613 t614 false)) = some r := by rw [if_pos rfl] at H; exact H
         clear H
         have H := H1
         clear H1
         by_cases c35 : t595 = true
         ·subst c35
          have H1 : (if t596 > 1000000000 then (laws_FnFolded.j0 k t588 t589 true t596 t598 t599 t602 t606 t607 t608 t613 t614 true) else (laws_FnFolded.j0 k t588 t589 true t596 t598 t599 t602 t606 t607 t608 t613 t614 (decide (t596 < (-1000000000))))) = some r := by rw [if_pos rfl] at H; exact H
          clear H
          have H := H1
          clear H1
          by_cases c36 : t596 > 1000000000
          ·rw [if_pos c36] at H
           have c36b0 : decide (1000000000 < t596) = true := decide_eq_true c36
           clear c36
           have H' := Aside0.mk H
           clear H
           obtain ⟨Ao37, co37, eo37⟩ := Kd.R_slice HO601.out
           subst eo37
           obtain ⟨Ao38, co38, eo38⟩ := Kd.R_slice HO605.out
           subst eo38
           go_wp2_with (first | (go_at_call 12; (with_reducible refine (laws_qParts.calls k _ _ t598 _ _ t602 true _ ?side1 ?side2 ?side3 ?side4 A28.out).mono ?_); (case side1 => exact Kd.C_o HO601); (case side2 => exact (Kd.R_reads' HO601.out).2.1); (case side3 => exact Kd.C_o HO605); (case side4 => exact (Kd.R_reads' HO605.out).2.1); rintro e w' ⟨rfl, ⟨nd, rfl⟩⟩; obtain ⟨Ao39, co39, eo39⟩ := Kd.R_slice HO616.out; subst eo39; obtain ⟨Ao40, co40, eo40⟩ := Kd.R_slice HO620.out; subst eo40) | (go_at_call 12; (with_reducible refine (laws_qParts.calls k _ _ t613 _ _ t617 true _ ?side1 ?side2 ?side3 ?side4 A33.out).mono ?_); (case side1 => exact Kd.C_o HO616); (case side2 => exact (Kd.R_reads' HO616.out).2.1); (case side3 => exact Kd.C_o HO620); (case side4 => exact (Kd.R_reads' HO620.out).2.1); rintro e w' ⟨rfl, ⟨nd, rfl⟩⟩))
           go_meet
           case rel => exact ⟨_, (true), (by first | rfl | (simp; done) | (simp [*]; done)), H', ⟨by first | omega | exact Nat.le_refl _⟩, ⟨Kd.R_pp (Kd.R_mono HO591.out (fun _ hk => ⟨hk.1.1.1.1.1.2, ⟨hk.1.1.1.1.2, ⟨hk.1.1.1.2, ⟨hk.1.1.2, hk.1.2⟩⟩⟩⟩))⟩, ⟨Kd.R_p HO593⟩, ⟨Kd.R_pp (Kd.R_mono HO601.out (fun _ hk => ⟨hk.1.1.1.1.1.2, ⟨hk.1.1.1.1.2, ⟨hk.1.1.1.2, ⟨hk.1.1.2, hk.1.2⟩⟩⟩⟩))⟩, ⟨Kd.R_pp (Kd.R_mono HO605.out (fun _ hk => ⟨hk.1.1.1.1.1.2, ⟨hk.1.1.1.1.2, ⟨hk.1.1.1.2, ⟨hk.1.1.2, hk.1.2⟩⟩⟩⟩))⟩, ⟨Kd.R_pp (Kd.R_mono HO610.out (fun _ hk => ⟨hk.1.1.1.1.2, ⟨hk.1.1.1.2, ⟨hk.1.1.2, ⟨hk.1.1.1.1.1, hk.1.2⟩⟩⟩⟩))⟩, ⟨Kd.R_pp (Kd.R_mono HO612.out (fun _ hk => ⟨hk.1.1.1.1.2, ⟨hk.1.1.1.2, ⟨hk.1.1.2, ⟨hk.1.1.1.1.1, hk.1.2⟩⟩⟩⟩))⟩, ⟨Kd.R_pp (Kd.R_mono HO616.out (fun _ hk => ⟨hk.1.1.1.1.1.2, ⟨hk.1.1.1.1.2, ⟨hk.1.1.1.2, ⟨hk.1.1.2, hk.1.2⟩⟩⟩⟩))⟩, ⟨hb_ HB⟩⟩
          ·rw [if_neg c36] at H
           have c36b0 : decide (1000000000 < t596) = false := decide_eq_false c36
           clear c36
           have H' := Aside0.mk H
           clear H
           obtain ⟨Ao41, co41, eo41⟩ := Kd.R_slice HO601.out
           subst eo41
           obtain ⟨Ao42, co42, eo42⟩ := Kd.R_slice HO605.out
           subst eo42
           go_wp2_with (first | (go_at_call 12; (with_reducible refine (laws_qParts.calls k _ _ t598 _ _ t602 true _ ?side1 ?side2 ?side3 ?side4 A28.out).mono ?_); (case side1 => exact Kd.C_o HO601); (case side2 => exact (Kd.R_reads' HO601.out).2.1); (case side3 => exact Kd.C_o HO605); (case side4 => exact (Kd.R_reads' HO605.out).2.1); rintro e w' ⟨rfl, ⟨nd, rfl⟩⟩; obtain ⟨Ao43, co43, eo43⟩ := Kd.R_slice HO616.out; subst eo43; obtain ⟨Ao44, co44, eo44⟩ := Kd.R_slice HO620.out; subst eo44) | (go_at_call 12; (with_reducible refine (laws_qParts.calls k _ _ t613 _ _ t617 true _ ?side1 ?side2 ?side3 ?side4 A33.out).mono ?_); (case side1 => exact Kd.C_o HO616); (case side2 => exact (Kd.R_reads' HO616.out).2.1); (case side3 => exact Kd.C_o HO620); (case side4 => exact (Kd.R_reads' HO620.out).2.1); rintro e w' ⟨rfl, ⟨nd, rfl⟩⟩))
           go_meet
           case rel => exact ⟨_, (decide (t596 < (-1000000000))), (by first | rfl | (simp; done) | (simp [*]; done)), H', ⟨by first | omega | exact Nat.le_refl _⟩, ⟨Kd.R_pp (Kd.R_mono HO591.out (fun _ hk => ⟨hk.1.1.1.1.1.2, ⟨hk.1.1.1.1.2, ⟨hk.1.1.1.2, ⟨hk.1.1.2, hk.1.2⟩⟩⟩⟩))⟩, ⟨Kd.R_p HO593⟩, ⟨Kd.R_pp (Kd.R_mono HO601.out (fun _ hk => ⟨hk.1.1.1.1.1.2, ⟨hk.1.1.1.1.2, ⟨hk.1.1.1.2, ⟨hk.1.1.2, hk.1.2⟩⟩⟩⟩))⟩, ⟨Kd.R_pp (Kd.R_mono HO605.out (fun _ hk => ⟨hk.1.1.1.1.1.2, ⟨hk.1.1.1.1.2, ⟨hk.1.1.1.2, ⟨hk.1.1.2, hk.1.2⟩⟩⟩⟩))⟩, ⟨Kd.R_pp (Kd.R_mono HO610.out (fun _ hk => ⟨hk.1.1.1.1.2, ⟨hk.1.1.1.2, ⟨hk.1.1.2, ⟨hk.1.1.1.1.1, hk.1.2⟩⟩⟩⟩))⟩, ⟨Kd.R_pp (Kd.R_mono HO612.out (fun _ hk => ⟨hk.1.1.1.1.2, ⟨hk.1.1.1.2, ⟨hk.1.1.2, ⟨hk.1.1.1.1.1, hk.1.2⟩⟩⟩⟩))⟩, ⟨Kd.R_pp (Kd.R_mono HO616.out (fun _ hk => ⟨hk.1.1.1.1.1.2, ⟨hk.1.1.1.1.2, ⟨hk.1.1.1.2, ⟨hk.1.1.2, hk.1.2⟩⟩⟩⟩))⟩, ⟨hb_ HB⟩⟩
         ·replace c35 := Bool.eq_false_iff.mpr c35
          subst c35
          have H1 : (laws_FnFolded.j0 k t588 t589 false t596 t598 t599 t602 t606 t607 t608 t613 t614 false) = some r := by rw [if_neg (show ¬ (false = true) by decide)] at H; exact H
          clear H
          have H := H1
          clear H1
          have H' := Aside0.mk H
          clear H
          obtain ⟨Ao45, co45, eo45⟩ := Kd.R_slice HO601.out
          subst eo45
          obtain ⟨Ao46, co46, eo46⟩ := Kd.R_slice HO605.out
          subst eo46
          go_wp2_with (first | (go_at_call 12; (with_reducible refine (laws_qParts.calls k _ _ t598 _ _ t602 true _ ?side1 ?side2 ?side3 ?side4 A28.out).mono ?_); (case side1 => exact Kd.C_o HO601); (case side2 => exact (Kd.R_reads' HO601.out).2.1); (case side3 => exact Kd.C_o HO605); (case side4 => exact (Kd.R_reads' HO605.out).2.1); rintro e w' ⟨rfl, ⟨nd, rfl⟩⟩; obtain ⟨Ao47, co47, eo47⟩ := Kd.R_slice HO616.out; subst eo47; obtain ⟨Ao48, co48, eo48⟩ := Kd.R_slice HO620.out; subst eo48) | (go_at_call 12; (with_reducible refine (laws_qParts.calls k _ _ t613 _ _ t617 true _ ?side1 ?side2 ?side3 ?side4 A33.out).mono ?_); (case side1 => exact Kd.C_o HO616); (case side2 => exact (Kd.R_reads' HO616.out).2.1); (case side3 => exact Kd.C_o HO620); (case side4 => exact (Kd.R_reads' HO620.out).2.1); rintro e w' ⟨rfl, ⟨nd, rfl⟩⟩))
          go_meet
          case rel => exact ⟨_, (false), (by first | rfl | (simp; done) | (simp [*]; done)), H', ⟨by first | omega | exact Nat.le_refl _⟩, ⟨Kd.R_pp (Kd.R_mono HO591.out (fun _ hk => ⟨hk.1.1.1.1.1.2, ⟨hk.1.1.1.1.2, ⟨hk.1.1.1.2, ⟨hk.1.1.2, hk.1.2⟩⟩⟩⟩))⟩, ⟨Kd.R_p HO593⟩, ⟨Kd.R_pp (Kd.R_mono HO601.out (fun _ hk => ⟨hk.1.1.1.1.1.2, ⟨hk.1.1.1.1.2, ⟨hk.1.1.1.2, ⟨hk.1.1.2, hk.1.2⟩⟩⟩⟩))⟩, ⟨Kd.R_pp (Kd.R_mono HO605.out (fun _ hk => ⟨hk.1.1.1.1.1.2, ⟨hk.1.1.1.1.2, ⟨hk.1.1.1.2, ⟨hk.1.1.2, hk.1.2⟩⟩⟩⟩))⟩, ⟨Kd.R_pp (Kd.R_mono HO610.out (fun _ hk => ⟨hk.1.1.1.1.2, ⟨hk.1.1.1.2, ⟨hk.1.1.2, ⟨hk.1.1.1.1.1, hk.1.2⟩⟩⟩⟩))⟩, ⟨Kd.R_pp (Kd.R_mono HO612.out (fun _ hk => ⟨hk.1.1.1.1.2, ⟨hk.1.1.1.2, ⟨hk.1.1.2, ⟨hk.1.1.1.1.1, hk.1.2⟩⟩⟩⟩))⟩, ⟨Kd.R_pp (Kd.R_mono HO616.out (fun _ hk => ⟨hk.1.1.1.1.1.2, ⟨hk.1.1.1.1.2, ⟨hk.1.1.1.2, ⟨hk.1.1.2, hk.1.2⟩⟩⟩⟩))⟩, ⟨hb_ HB⟩⟩
         )
         exact p4_
        ·replace c34 := Bool.eq_false_iff.mpr c34
         subst c34
         have H1 : (laws_FnFolded.j0 k t588 t589 t595 t596 t598 t599 t602 t606 t607 t608 t613 t614 true) = some r := by rw [if_neg (show ¬ (false = true) by decide)] at H; exact H
         clear H
         have H := H1
         clear H1
         have H' := Aside0.mk H
         clear H
         obtain ⟨Ao49, co49, eo49⟩ := Kd.R_slice HO601.out
         subst eo49
         obtain ⟨Ao50, co50, eo50⟩ := Kd.R_slice HO605.out
         subst eo50
         go_wp2_with (first | (go_at_call 12; (with_reducible refine (laws_qParts.calls k _ _ t598 _ _ t602 true _ ?side1 ?side2 ?side3 ?side4 A28.out).mono ?_); (case side1 => exact Kd.C_o HO601); (case side2 => exact (Kd.R_reads' HO601.out).2.1); (case side3 => exact Kd.C_o HO605); (case side4 => exact (Kd.R_reads' HO605.out).2.1); rintro e w' ⟨rfl, ⟨nd, rfl⟩⟩; obtain ⟨Ao51, co51, eo51⟩ := Kd.R_slice HO616.out; subst eo51; obtain ⟨Ao52, co52, eo52⟩ := Kd.R_slice HO620.out; subst eo52) | (go_at_call 12; (with_reducible refine (laws_qParts.calls k _ _ t613 _ _ t617 false _ ?side1 ?side2 ?side3 ?side4 A33.out).mono ?_); (case side1 => exact Kd.C_o HO616); (case side2 => exact (Kd.R_reads' HO616.out).2.1); (case side3 => exact Kd.C_o HO620); (case side4 => exact (Kd.R_reads' HO620.out).2.1); rintro e w' ⟨rfl, ⟨nd, rfl⟩⟩))
         go_meet
         case rel => exact ⟨_, (true), (by first | rfl | (simp; done) | (simp [*]; done)), H', ⟨by first | omega | exact Nat.le_refl _⟩, ⟨Kd.R_pp (Kd.R_mono HO591.out (fun _ hk => ⟨hk.1.1.1.1.1.2, ⟨hk.1.1.1.1.2, ⟨hk.1.1.1.2, ⟨hk.1.1.2, hk.1.2⟩⟩⟩⟩))⟩, ⟨Kd.R_p HO593⟩, ⟨Kd.R_pp (Kd.R_mono HO601.out (fun _ hk => ⟨hk.1.1.1.1.1.2, ⟨hk.1.1.1.1.2, ⟨hk.1.1.1.2, ⟨hk.1.1.2, hk.1.2⟩⟩⟩⟩))⟩, ⟨Kd.R_pp (Kd.R_mono HO605.out (fun _ hk => ⟨hk.1.1.1.1.1.2, ⟨hk.1.1.1.1.2, ⟨hk.1.1.1.2, ⟨hk.1.1.2, hk.1.2⟩⟩⟩⟩))⟩, ⟨Kd.R_pp (Kd.R_mono HO610.out (fun _ hk => ⟨hk.1.1.1.1.2, ⟨hk.1.1.1.2, ⟨hk.1.1.2, ⟨hk.1.1.1.1.1, hk.1.2⟩⟩⟩⟩))⟩, ⟨Kd.R_pp (Kd.R_mono HO612.out (fun _ hk => ⟨hk.1.1.1.1.2, ⟨hk.1.1.1.2, ⟨hk.1.1.2, ⟨hk.1.1.1.1.1, hk.1.2⟩⟩⟩⟩))⟩, ⟨Kd.R_pp (Kd.R_mono HO616.out (fun _ hk => ⟨hk.1.1.1.1.1.2, ⟨hk.1.1.1.1.2, ⟨hk.1.1.1.2, ⟨hk.1.1.2, hk.1.2⟩⟩⟩⟩))⟩, ⟨hb_ HB⟩⟩
       )
       exact p3_
      ·replace c29 := Bool.eq_false_iff.mpr c29
       subst c29
       have H1 : (laws_FnFolded.j0 k t588 t589 t595 t596 t598 t599 t602 t606 t607 t608 t613 t614 true) = some r := by rw [if_neg (show ¬ (false = true) by decide)] at H; exact H
       clear H
       have H := H1
       clear H1
       have H' := Aside0.mk H
       clear H
       (try clear HO620)
       obtain ⟨Ao53, co53, eo53⟩ := Kd.R_slice HO601.out
       subst eo53
       obtain ⟨Ao54, co54, eo54⟩ := Kd.R_slice HO605.out
       subst eo54
       go_wp2_with (first | (go_at_call 12; (with_reducible refine (laws_qParts.calls k _ _ t598 _ _ t602 false _ ?side1 ?side2 ?side3 ?side4 A28.out).mono ?_); (case side1 => exact Kd.C_o HO601); (case side2 => exact (Kd.R_reads' HO601.out).2.1); (case side3 => exact Kd.C_o HO605); (case side4 => exact (Kd.R_reads' HO605.out).2.1); rintro e w' ⟨rfl, ⟨nd, rfl⟩⟩))
       go_meet
       case rel => exact ⟨_, (true), (by first | rfl | (simp; done) | (simp [*]; done)), H', ⟨by first | omega | exact Nat.le_refl _⟩, ⟨Kd.R_pp (Kd.R_mono HO591.out (fun _ hk => ⟨hk.1.1.1.1.1.2, ⟨hk.1.1.1.1.2, ⟨hk.1.1.1.2, ⟨hk.1.1.2, hk.1.2⟩⟩⟩⟩))⟩, ⟨Kd.R_p HO593⟩, ⟨Kd.R_pp (Kd.R_mono HO601.out (fun _ hk => ⟨hk.1.1.1.1.1.2, ⟨hk.1.1.1.1.2, ⟨hk.1.1.1.2, ⟨hk.1.1.2, hk.1.2⟩⟩⟩⟩))⟩, ⟨Kd.R_pp (Kd.R_mono HO605.out (fun _ hk => ⟨hk.1.1.1.1.1.2, ⟨hk.1.1.1.1.2, ⟨hk.1.1.1.2, ⟨hk.1.1.2, hk.1.2⟩⟩⟩⟩))⟩, ⟨Kd.R_pp (Kd.R_mono HO610.out (fun _ hk => ⟨hk.1.1.1.1.2, ⟨hk.1.1.1.2, ⟨hk.1.1.2, ⟨hk.1.1.1.1.1, hk.1.2⟩⟩⟩⟩))⟩, ⟨Kd.R_pp (Kd.R_mono HO612.out (fun _ hk => ⟨hk.1.1.1.1.2, ⟨hk.1.1.1.2, ⟨hk.1.1.2, ⟨hk.1.1.1.1.1, hk.1.2⟩⟩⟩⟩))⟩, ⟨Kd.R_pp (Kd.R_mono HO616.out (fun _ hk => ⟨hk.1.1.1.1.1.2, ⟨hk.1.1.1.1.2, ⟨hk.1.1.1.2, ⟨hk.1.1.2, hk.1.2⟩⟩⟩⟩))⟩, ⟨hb_ HB⟩⟩
    ·rw [if_neg c26] at H
     have c26b0 : (t594 == t596) = false := beq_eq_false_iff_ne.mpr c26
     have c26b1 : (t594 != t596) = true := bne_iff_ne.mpr c26
     have H' := Aside0.mk H
     clear H
     go_wp2
     go_meet
     case rel => exact ⟨_, (true), (by first | rfl | (simp; done) | (simp [*]; done)), H', ⟨by first | omega | exact Nat.le_refl _⟩, ⟨Kd.R_pp (Kd.R_mono HO591.out (fun _ hk => ⟨hk.1.1.1.1.1.2, ⟨hk.1.1.1.1.2, ⟨hk.1.1.1.2, ⟨hk.1.1.2, hk.1.2⟩⟩⟩⟩))⟩, ⟨Kd.R_p HO593⟩, ⟨Kd.R_pp (Kd.R_mono HO601.out (fun _ hk => ⟨hk.1.1.1.1.1.2, ⟨hk.1.1.1.1.2, ⟨hk.1.1.1.2, ⟨hk.1.1.2, hk.1.2⟩⟩⟩⟩))⟩, ⟨Kd.R_pp (Kd.R_mono HO605.out (fun _ hk => ⟨hk.1.1.1.1.1.2, ⟨hk.1.1.1.1.2, ⟨hk.1.1.1.2, ⟨hk.1.1.2, hk.1.2⟩⟩⟩⟩))⟩, ⟨Kd.R_pp (Kd.R_mono HO610.out (fun _ hk => ⟨hk.1.1.1.1.2, ⟨hk.1.1.1.2, ⟨hk.1.1.2, ⟨hk.1.1.1.1.1, hk.1.2⟩⟩⟩⟩))⟩, ⟨Kd.R_pp (Kd.R_mono HO612.out (fun _ hk => ⟨hk.1.1.1.1.2, ⟨hk.1.1.1.2, ⟨hk.1.1.2, ⟨hk.1.1.1.1.1, hk.1.2⟩⟩⟩⟩))⟩, ⟨Kd.R_pp (Kd.R_mono HO616.out (fun _ hk => ⟨hk.1.1.1.1.1.2, ⟨hk.1.1.1.1.2, ⟨hk.1.1.1.2, ⟨hk.1.1.2, hk.1.2⟩⟩⟩⟩))⟩, ⟨hb_ HB⟩⟩
    )
    exact p2_
  case rest =>
   refine ?z5_
   let rec p5_ : type_of% ?z5_ := by(
   clear HC12
   (try clear c1); (try clear c2); (try clear p2); (try clear c3); (try clear c3b0); (try clear c4); (try clear c5); (try clear c6); (try clear p6); (try clear c7); (try clear c8); (try clear c9); (try clear c10); (try clear c11); (try clear c25); (try clear c25b0); (try clear c25b1); (try clear c25b2); (try clear c26); (try clear c26b0); (try clear c26b1); (try clear c27); (try clear c27b0); (try clear c27b1); (try clear c27b2); (try clear c29); (try clear c30); (try clear c30b0); (try clear c30b1); (try clear c30b2); (try clear c34); (try clear c35); (try clear c36); (try clear c36b0)
   obtain ⟨kq, x128_11, rfl, HA, HJ11, HO_5, HO_6, HO_11, HO_13, HO_15, HO_17, HO_18, HB⟩ := hcut
   cases kq with
   | zero => exact absurd HA.out (by simp [laws_FnFolded.j0])
   | succ kj11 =>
    have H := HA.out
    clear HA
    simp only [laws_FnFolded.j0] at H
    by_cases c55 : x128_11 = true
    ·subst c55
     have H1 : (some false) = some r := by rw [if_pos rfl] at H; exact H
     clear H
     have H := H1
     clear H1
     obtain rfl := Option.some.inj H
     go_wp2
     go_ret
     exact ⟨by first | rfl | (simp [errW_none, errW_some] <;> rfl) | (simp [*, errW_none, errW_some] <;> rfl), hb_ HB⟩
    ·replace c55 := Bool.eq_false_iff.mpr c55
     subst c55
     have H1 : (if t599 = true then ((impl_FoldRule.f kj11 t598).bind fun bt623 => (if bt623.2 = true then ((laws_qParts.f kj11 bt623.1 t602).bind fun t627 => (if t627 = true then (if (t602.length : Int) > (t588.length : Int) then (laws_FnFolded.j1 kj11 t589 t595 t596 t598 t606 t607 t608 t613 t614 true) else ((impl_IsRule.f kj11 t598).bind fun t628 => (laws_FnFolded.j1 kj11 t589 t595 t596 t598 t606 t607 t608 t613 t614 (!t628)))) else (laws_FnFolded.j1 kj11 t589 t595 t596 t598 t606 t607 t608 t613 t614 true))) else (laws_FnFolded.j1 kj11 t589 t595 t596 t598 t606 t607 t608 t613 t614 true))) else (laws_FnFolded.j2 kj11 t606 t607 t608 t613 t614)) = some r := by rw [if_neg (show ¬ (false = true) by decide)] at H; exact H
     clear H
     have H := H1
     clear H1
     have HC56 := Aside0.mk H
     clear H
     go_upto_if 129 with (fail)
     go_cut [] (fun wc => ∃ (kq : Nat), Aside0 (laws_FnFolded.j2 kq t606 t607 t608 t613 t614 = some r) ∧ Aside0 (kq ≤ kj11) ∧ Aside0 (Kd.R k52 52 wc w.heap.size (fun k_ => some k_ ≠ ((.slice Ao22 t608.length co22) : Value).ownBlock ∧ some k_ ≠ (v615 : Value).ownBlock) (.slice Ao21 t606.length co21) t606) ∧ Aside0 (Kd.R k52 52 wc w.heap.size (fun k_ => some k_ ≠ ((.slice Ao21 t606.length co21) : Value).ownBlock ∧ some k_ ≠ (v615 : Value).ownBlock) (.slice Ao22 t608.length co22) t608) ∧ Aside0 (Kd.R k52 52 wc w.heap.size (fun k_ => some k_ ≠ ((.slice Ao21 t606.length co21) : Value).ownBlock ∧ some k_ ≠ ((.slice Ao22 t608.length co22) : Value).ownBlock) v615 t613) ∧ Aside0 (Below w.heap.size w wc))
     case first =>
      have H := HC56.out
      clear HC56
      by_cases c57 : t599 = true
      ·refine ?z6_
       let rec p6_ : type_of% ?z6_ := by(
       subst c57
       have H1 : ((impl_FoldRule.f kj11 t598).bind fun bt623 => (if bt623.2 = true then ((laws_qParts.f kj11 bt623.1 t602).bind fun t627 => (if t627 = true then (if (t602.length : Int) > (t588.length : Int) then (laws_FnFolded.j1 kj11 t589 t595 t596 t598 t606 t607 t608 t613 t614 true) else ((impl_IsRule.f kj11 t598).bind fun t628 => (laws_FnFolded.j1 kj11 t589 t595 t596 t598 t606 t607 t608 t613 t614 (!t628)))) else (laws_FnFolded.j1 kj11 t589 t595 t596 t598 t606 t607 t608 t613 t614 true))) else (laws_FnFolded.j1 kj11 t589 t595 t596 t598 t606 t607 t608 t613 t614 true))) = some r := by rw [if_pos rfl] at H; exact H
       clear H
       have H := H1
       clear H1
       replace H := Option.bind_eq_some_iff.mp H
       obtain ⟨⟨t623, t624⟩, A580, H⟩ := H
       replace H : (if t624 = true then ((laws_qParts.f kj11 t623 t602).bind fun t627 => (if t627 = true then (if (t602.length : Int) > (t588.length : Int) then (laws_FnFolded.j1 kj11 t589 t595 t596 t598 t606 t607 t608 t613 t614 true) else ((impl_IsRule.f kj11 t598).bind fun t628 => (laws_FnFolded.j1 kj11 t589 t595 t596 t598 t606 t607 t608 t613 t614 (!t628)))) else (laws_FnFolded.j1 kj11 t589 t595 t596 t598 t606 t607 t608 t613 t614 true))) else (laws_FnFolded.j1 kj11 t589 t595 t596 t598 t606 t607 t608 t613 t614 true)) = some r := H
       have A58 := Aside0.mk A580
       clear A580
       have HC59 := Aside0.mk H
       clear H
       obtain ⟨Ao60, co60, eo60⟩ := Kd.R_slice HO_11.out
       subst eo60
       go_upto_region 15 with (first | ((with_reducible refine gate_callee (f := 7) rfl ?_); refine gl_ (some 132) Try.func7 #[.slice Ao60 t598.length co60] rfl rfl rfl ?_; (with_reducible refine (impl_FoldRule.calls kj11 _ _ t598 t623 t624 _ ?side1 ?side2 A58.out).mono ?_); (case side1 => exact Kd.C_o HO_11); (case side2 => exact (Kd.R_reads' HO_11.out).2.1); rintro e w61 ⟨v625, rfl, ho0, hb⟩; refine ⟨_, rfl, ?_⟩; have HO626 := Kd.R_lo (Kd.R_nw (Kd.R_nw (Kd.R_nw (Kd.R_nw (Kd.R_nw (Kd.R_nw ho0 HO_5) HO_11) HO_13) HO_15) HO_17) HO_18) HB; replace HO_5 := Kd.R_e HO_5 ho0 hb; replace HO_6 := Kd.R_b HO_6 hb; replace HO_11 := Kd.R_e HO_11 ho0 hb; replace HO_13 := Kd.R_e HO_13 ho0 hb; replace HO_15 := Kd.R_e HO_15 ho0 hb; replace HO_17 := Kd.R_e HO_17 ho0 hb; replace HO_18 := Kd.R_e HO_18 ho0 hb; replace HB := hbs_ HB hb; (try clear hb); (try clear hb2); (try clear hk); (try clear hi); (try clear ho0)))
       (try simp only [Act.put, List.setIfInBounds_toArray, List.set_cons_zero, List.set_cons_succ])
       go_cut [154] (fun v154 wc => ∃ (kq : Nat) (x154_58 : Bool), v154 = .bool x154_58 ∧ Aside0 (laws_FnFolded.j1 kq t589 t595 t596 t598 t606 t607 t608 t613 t614 x154_58 = some r) ∧ Aside0 (kq ≤ kj11) ∧ Aside0 (Kd.R (Kd.int .i64) 3 wc w.heap.size (fun _ => True) (.slice Ao15 t589.length co15) t589) ∧ Aside0 (Kd.R k52 52 wc w.heap.size (fun k_ => some k_ ≠ ((.slice Ao21 t606.length co21) : Value).ownBlock ∧ some k_ ≠ ((.slice Ao22 t608.length co22) : Value).ownBlock ∧ some k_ ≠ (v615 : Value).ownBlock) (.slice Ao60 t598.length co60) t598) ∧ Aside0 (Kd.R k52 52 wc w.heap.size (fun k_ => some k_ ≠ ((.slice Ao60 t598.length co60) : Value).ownBlock ∧ some k_ ≠ ((.slice Ao22 t608.length co22) : Value).ownBlock ∧ some k_ ≠ (v615 : Value).ownBlock) (.slice Ao21 t606.length co21) t606) ∧ Aside0 (Kd.R k52 52 wc w.heap.size (fun k_ => some k_ ≠ ((.slice Ao60 t598.length co60) : Value).ownBlock ∧ some k_ ≠ ((.slice Ao21 t606.length co21) : Value).ownBlock ∧ some k_ ≠ (v615 : Value).ownBlock) (.slice Ao22 t608.length co22) t608) ∧ Aside0 (Kd.R k52 52 wc w.heap.size (fun k_ => some k_ ≠ ((.slice Ao60 t598.length co60) : Value).ownBlock ∧ some k_ ≠ ((.slice Ao21 t606.length co21) : Value).ownBlock ∧ some k_ ≠ ((.slice Ao22 t608.length co22) : Value).ownBlock) v615 t613) ∧ Aside0 (Below w.heap.size w wc))
       case first =>
        have H := HC59.out
        clear HC59
        by_cases c62 : t624 = true
        ·refine ?z7_
         let rec p7_ : type_of% ?z7_ := by(
         subst c62
         have H1 : ((laws_qParts.f kj11 t623 t602).bind fun t627 => (if t627 = true then (if (t602.length : Int) > (t588.length : Int) then (laws_FnFolded.j1 kj11 t589 t595 t596 t598 t606 t607 t608 t613 t614 true) else ((impl_IsRule.f kj11 t598).bind fun t628 => (laws_FnFolded.j1 kj11 t589 t595 t596 t598 t606 t607 t608 t613 t614 (!t628)))) else (laws_FnFolded.j1 kj11 t589 t595 t596 t598 t606 t607 t608 t613 t614 true))) = some r := by rw [if_pos rfl] at H; exact H
         clear H
         have H := H1
         clear H1
         replace H := Option.bind_eq_some_iff.mp H
         obtain ⟨t627, A630, H⟩ := H
         replace H : (if t627 = true then (if (t602.length : Int) > (t588.length : Int) then (laws_FnFolded.j1 kj11 t589 t595 t596 t598 t606 t607 t608 t613 t614 true) else ((impl_IsRule.f kj11 t598).bind fun t628 => (laws_FnFolded.j1 kj11 t589 t595 t596 t598 t606 t607 t608 t613 t614 (!t628)))) else (laws_FnFolded.j1 kj11 t589 t595 t596 t598 t606 t607 t608 t613 t614 true)) = some r := H
         have A63 := Aside0.mk A630
         clear A630
         by_cases c64 : t627 = true
         ·subst c64
          have H1 : (if (t602.length : Int) > (t588.length : Int) then (laws_FnFolded.j1 kj11 t589 t595 t596 t598 t606 t607 t608 t613 t614 true) else ((impl_IsRule.f kj11 t598).bind fun t628 => (laws_FnFolded.j1 kj11 t589 t595 t596 t598 t606 t607 t608 t613 t614 (!t628)))) = some r := by rw [if_pos rfl] at H; exact H
          clear H
          have H := H1
          clear H1
          by_cases c65 : (t602.length : Int) > (t588.length : Int)
          ·rw [if_pos c65] at H
           have c65b0 : decide ((t588.length : Int) < (t602.length : Int)) = true := decide_eq_true c65
           have c65b1 : decide (t588.length < t602.length) = true := decide_eq_true (Int.ofNat_lt.mp c65)
           clear c65
           (first | rw [c65b0] | (simp only [i64_w, i32_w]; rw [c65b0]) | skip)
           have H' := Aside0.mk H
           clear H
           obtain ⟨Ao66, co66, eo66⟩ := Kd.R_slice HO626.out
           subst eo66
           obtain ⟨Ao67, co67, eo67⟩ := Kd.R_slice HO_13.out
           subst eo67
           go_wp2_with (first | (go_at_call 12; (with_reducible refine (laws_qParts.calls kj11 _ _ t623 _ _ t602 true _ ?side1 ?side2 ?side3 ?side4 A63.out).mono ?_); (case side1 => exact Kd.C_o HO626); (case side2 => exact (Kd.R_reads' HO626.out).2.1); (case side3 => exact Kd.C_o HO_13); (case side4 => exact (Kd.R_reads' HO_13.out).2.1); rintro e w' ⟨rfl, ⟨nd, rfl⟩⟩))
           go_meet
           case rel => exact ⟨_, (true), (by first | rfl | (simp; done) | (simp [*]; done)), H', ⟨by have := HJ11.out; first | omega | exact Nat.le_refl _⟩, ⟨Kd.R_p HO_6⟩, ⟨Kd.R_pp (Kd.R_mono HO_11.out (fun _ hk => ⟨hk.1.2.2.1, ⟨hk.1.2.2.2.1, hk.1.2.2.2.2⟩⟩))⟩, ⟨Kd.R_pp (Kd.R_mono HO_15.out (fun _ hk => ⟨hk.1.2.1, ⟨hk.1.2.2.2.1, hk.1.2.2.2.2⟩⟩))⟩, ⟨Kd.R_pp (Kd.R_mono HO_17.out (fun _ hk => ⟨hk.1.2.1, ⟨hk.1.2.2.2.1, hk.1.2.2.2.2⟩⟩))⟩, ⟨Kd.R_pp (Kd.R_mono HO_18.out (fun _ hk => ⟨hk.1.2.1, ⟨hk.1.2.2.2.1, hk.1.2.2.2.2⟩⟩))⟩, ⟨hb_ HB⟩⟩
          ·rw [if_neg c65] at H
           have c65b0 : decide ((t588.length : Int) < (t602.length : Int)) = false := decide_eq_false c65
           have c65b1 : decide (t588.length < t602.length) = false := decide_eq_false (fun h => c65 (Int.ofNat_lt.mpr h))
           clear c65
           (first | rw [c65b0] | (simp only [i64_w, i32_w]; rw [c65b0]) | skip)
           replace H := Option.bind_eq_some_iff.mp H
           obtain ⟨t628, A680, H⟩ := H
           replace H : (laws_FnFolded.j1 kj11 t589 t595 t596 t598 t606 t607 t608 t613 t614 (!t628)) = some r := H
           have A68 := Aside0.mk A680
           clear A680
           have H' := Aside0.mk H
           clear H
           obtain ⟨Ao69, co69, eo69⟩ := Kd.R_slice HO626.out
           subst eo69
           obtain ⟨Ao70, co70, eo70⟩ := Kd.R_slice HO_13.out
           subst eo70
           go_wp2_with (first | (go_at_call 12; (with_reducible refine (laws_qParts.calls kj11 _ _ t623 _ _ t602 true _ ?side1 ?side2 ?side3 ?side4 A63.out).mono ?_); (case side1 => exact Kd.C_o HO626); (case side2 => exact (Kd.R_reads' HO626.out).2.1); (case side3 => exact Kd.C_o HO_13); (case side4 => exact (Kd.R_reads' HO_13.out).2.1); rintro e w' ⟨rfl, ⟨nd, rfl⟩⟩; try clear HO626) | (go_at_call 13; (with_reducible refine (impl_IsRule.calls kj11 _ _ t598 t628 _ ?side1 ?side2 A68.out).mono ?_); (case side1 => exact Kd.C_o HO_11); (case side2 => exact (Kd.R_reads' HO_11.out).2.1); rintro e w71 ⟨rfl, hb⟩; have n0_ := Aside0.mk (Kd.R_below (Kd.R_p HO_5) hb); have n1_ := Aside0.mk (Kd.R_below (Kd.R_p HO_6) hb); have n2_ := Aside0.mk (Kd.R_below (Kd.R_p HO_11) hb); have n3_ := Aside0.mk (Kd.R_below (Kd.R_p HO_13) hb); have n4_ := Aside0.mk (Kd.R_below (Kd.R_p HO_15) hb); have n5_ := Aside0.mk (Kd.R_below (Kd.R_p HO_17) hb); have n6_ := Aside0.mk (Kd.R_below (Kd.R_p HO_18) hb); have n7_ := Aside0.mk (below_step (hb_ HB) hb); clear HO_5; clear HO_6; clear HO_11; clear HO_13; clear HO_15; clear HO_17; clear HO_18; clear HB; have HO_5 := n0_; have HO_6 := n1_; have HO_11 := n2_; have HO_13 := n3_; have HO_15 := n4_; have HO_17 := n5_; have HO_18 := n6_; have HB := n7_; clear n0_ n1_ n2_ n3_ n4_ n5_ n6_ n7_; (try clear hb); (try clear hb2); (try clear hk); (try clear hi)))
           go_meet
           case rel => exact ⟨_, (!t628), (by first | rfl | (simp; done) | (simp [*]; done)), H', ⟨by have := HJ11.out; first | omega | exact Nat.le_refl _⟩, ⟨Kd.R_p HO_6⟩, ⟨Kd.R_pp (Kd.R_mono HO_11.out (fun _ hk => ⟨hk.1.2.2.1, ⟨hk.1.2.2.2.1, hk.1.2.2.2.2⟩⟩))⟩, ⟨Kd.R_pp (Kd.R_mono HO_15.out (fun _ hk => ⟨hk.1.2.1, ⟨hk.1.2.2.2.1, hk.1.2.2.2.2⟩⟩))⟩, ⟨Kd.R_pp (Kd.R_mono HO_17.out (fun _ hk => ⟨hk.1.2.1, ⟨hk.1.2.2.2.1, hk.1.2.2.2.2⟩⟩))⟩, ⟨Kd.R_pp (Kd.R_mono HO_18.out (fun _ hk => ⟨hk.1.2.1, ⟨hk.1.2.2.2.1, hk.1.2.2.2.2⟩⟩))⟩, ⟨hb_ HB⟩⟩
         ·replace c64 := Bool.eq_false_iff.mpr c64
          subst c64
          have H1 : (laws_FnFolded.j1 kj11 t589 t595 t596 t598 t606 t607 t608 t613 t614 true) = some r := by rw [if_neg (show ¬ (false = true) by decide)] at H; exact H
          clear H
          have H := H1
          clear H1
          have H' := Aside0.mk H
          clear H
          obtain ⟨Ao72, co72, eo72⟩ := Kd.R_slice HO626.out
          subst eo72
          obtain ⟨Ao73, co73, eo73⟩ := Kd.R_slice HO_13.out
          subst eo73
          go_wp2_with (first | (go_at_call 12; (with_reducible refine (laws_qParts.calls kj11 _ _ t623 _ _ t602 false _ ?side1 ?side2 ?side3 ?side4 A63.out).mono ?_); (case side1 => exact Kd.C_o HO626); (case side2 => exact (Kd.R_reads' HO626.out).2.1); (case side3 => exact Kd.C_o HO_13); (case side4 => exact (Kd.R_reads' HO_13.out).2.1); rintro e w' ⟨rfl, ⟨nd, rfl⟩⟩))
          go_meet
          case rel => exact ⟨_, (true), (by first | rfl | (simp; done) | (simp [*]; done)), H', ⟨by have := HJ11.out; first | omega | exact Nat.le_refl _⟩, ⟨Kd.R_p HO_6⟩, ⟨Kd.R_pp (Kd.R_mono HO_11.out (fun _ hk => ⟨hk.1.2.2.1, ⟨hk.1.2.2.2.1, hk.1.2.2.2.2⟩⟩))⟩, ⟨Kd.R_pp (Kd.R_mono HO_15.out (fun _ hk => ⟨hk.1.2.1, ⟨hk.1.2.2.2.1, hk.1.2.2.2.2⟩⟩))⟩, ⟨Kd.R_pp (Kd.R_mono HO_17.out (fun _ hk => ⟨hk.1.2.1, ⟨hk.1.2.2.2.1, hk.1.2.2.2.2⟩⟩))⟩, ⟨Kd.R_pp (Kd.R_mono HO_18.out (fun _ hk => ⟨hk.1.2.1, ⟨hk.1.2.2.2.1, hk.1.2.2.2.2⟩⟩))⟩, ⟨hb_ HB⟩⟩
         )
         exact p7_
        ·replace c62 := Bool.eq_false_iff.mpr c62
         subst c62
         have H1 : (laws_FnFolded.j1 kj11 t589 t595 t596 t598 t606 t607 t608 t613 t614 true) = some r := by rw [if_neg (show ¬ (false = true) by decide)] at H; exact H
         clear H
         have H := H1
         clear H1
         have H' := Aside0.mk H
         clear H
         go_wp2
         go_meet
         case rel => exact ⟨_, (true), (by first | rfl | (simp; done) | (simp [*]; done)), H', ⟨by have := HJ11.out; first | omega | exact Nat.le_refl _⟩, ⟨Kd.R_p HO_6⟩, ⟨Kd.R_pp (Kd.R_mono HO_11.out (fun _ hk => ⟨hk.1.2.2.1, ⟨hk.1.2.2.2.1, hk.1.2.2.2.2⟩⟩))⟩, ⟨Kd.R_pp (Kd.R_mono HO_15.out (fun _ hk => ⟨hk.1.2.1, ⟨hk.1.2.2.2.1, hk.1.2.2.2.2⟩⟩))⟩, ⟨Kd.R_pp (Kd.R_mono HO_17.out (fun _ hk => ⟨hk.1.2.1, ⟨hk.1.2.2.2.1, hk.1.2.2.2.2⟩⟩))⟩, ⟨Kd.R_pp (Kd.R_mono HO_18.out (fun _ hk => ⟨hk.1.2.1, ⟨hk.1.2.2.2.1, hk.1.2.2.2.2⟩⟩))⟩, ⟨hb_ HB⟩⟩
       case rest =>
        clear HC59
        (try clear c1); (try clear c2); (try clear p2); (try clear c3); (try clear c3b0); (try clear c4); (try clear c5); (try clear c6); (try clear p6); (try clear c7); (try clear c8); (try clear c9); (try clear c10); (try clear c11); (try clear c25); (try clear c25b0); (try clear c25b1); (try clear c25b2); (try clear c26); (try clear c26b0); (try clear c26b1); (try clear c27); (try clear c27b0); (try clear c27b1); (try clear c27b2); (try clear c29); (try clear c30); (try clear c30b0); (try clear c30b1); (try clear c30b2); (try clear c34); (try clear c35); (try clear c36); (try clear c36b0); (try clear c55); (try clear c57); (try clear c62); (try clear c64); (try clear p64); (try clear c65); (try clear c65b0); (try clear c65b1)
        obtain ⟨kq, x154_58, rfl, HA, HJ58, HO_6, HO_11, HO_15, HO_17, HO_18, HB⟩ := hcut
        cases kq with
        | zero => exact absurd HA.out (by simp [laws_FnFolded.j1])
        | succ kj58 =>
         have H := HA.out
         clear HA
         simp only [laws_FnFolded.j1] at H
         by_cases c74 : x154_58 = true
         ·subst c74
          have H1 : (some false) = some r := by rw [if_pos rfl] at H; exact H
          clear H
          have H := H1
          clear H1
          obtain rfl := Option.some.inj H
          go_wp2
          go_ret
          exact ⟨by first | rfl | (simp [errW_none, errW_some] <;> rfl) | (simp [*, errW_none, errW_some] <;> rfl), hb_ HB⟩
         ·refine ?z8_
          let rec p8_ : type_of% ?z8_ := by(
          replace c74 := Bool.eq_false_iff.mpr c74
          subst c74
          have H1 : (if t595 = true then ((impl_EvalRule.f kj58 t598 t589).bind fun bt629 => (if bt629.2 = true then (if bt629.1 = t596 then (laws_FnFolded.j2 kj58 t606 t607 t608 t613 t614) else (some false)) else (some false))) else (laws_FnFolded.j2 kj58 t606 t607 t608 t613 t614)) = some r := by rw [if_neg (show ¬ (false = true) by decide)] at H; exact H
          clear H
          have H := H1
          clear H1
          by_cases c75 : t595 = true
          ·subst c75
           have H1 : ((impl_EvalRule.f kj58 t598 t589).bind fun bt629 => (if bt629.2 = true then (if bt629.1 = t596 then (laws_FnFolded.j2 kj58 t606 t607 t608 t613 t614) else (some false)) else (some false))) = some r := by rw [if_pos rfl] at H; exact H
           clear H
           have H := H1
           clear H1
           replace H := Option.bind_eq_some_iff.mp H
           obtain ⟨⟨t629, t630⟩, A760, H⟩ := H
           replace H : (if t630 = true then (if t629 = t596 then (laws_FnFolded.j2 kj58 t606 t607 t608 t613 t614) else (some false)) else (some false)) = some r := H
           have A76 := Aside0.mk A760
           clear A760
           by_cases c77 : t630 = true
           ·subst c77
            have H1 : (if t629 = t596 then (laws_FnFolded.j2 kj58 t606 t607 t608 t613 t614) else (some false)) = some r := by rw [if_pos rfl] at H; exact H
            clear H
            have H := H1
            clear H1
            by_cases c78 : t629 = t596
            ·rw [if_pos c78] at H
             have c78b0 : (t629 == t596) = true := beq_iff_eq.mpr c78
             have c78b1 : (t629 != t596) = false := bne_eq_false_iff_eq.mpr c78
             clear c78
             have H' := Aside0.mk H
             clear H
             go_wp2_with (first | ((with_reducible refine gate_callee (f := 5) rfl ?_); refine gl_ (some 159) Try.func5 #[.slice Ao60 t598.length co60, .slice Ao15 t589.length co15] rfl rfl rfl ?_; (with_reducible refine (impl_EvalRule.calls kj58 _ _ t598 _ _ t589 t629 true _ ?side1 ?side2 ?side3 ?side4 A76.out).mono ?_); (case side1 => exact Kd.C_o HO_11); (case side2 => exact (Kd.R_reads' HO_11.out).2.1); (case side3 => exact Kd.C_o HO_6); (case side4 => exact (Kd.R_reads' HO_6.out).2.1); rintro e w79 ⟨rfl, hb⟩; refine ⟨_, rfl, ?_⟩; replace HO_6 := Kd.R_b HO_6 hb; replace HO_11 := Kd.R_b HO_11 hb; replace HO_15 := Kd.R_b HO_15 hb; replace HO_17 := Kd.R_b HO_17 hb; replace HO_18 := Kd.R_b HO_18 hb; replace HB := hbs_ HB hb; (try clear hb); (try clear hb2); (try clear hk); (try clear hi)))
             go_meet
             case rel => exact ⟨_, H', ⟨by have := HJ11.out; have := HJ58.out; first | omega | exact Nat.le_refl _⟩, ⟨Kd.R_pp (Kd.R_mono HO_15.out (fun _ hk => ⟨hk.2.1, hk.2.2⟩))⟩, ⟨Kd.R_pp (Kd.R_mono HO_17.out (fun _ hk => ⟨hk.2.1, hk.2.2⟩))⟩, ⟨Kd.R_pp (Kd.R_mono HO_18.out (fun _ hk => ⟨hk.2.1, hk.2.2⟩))⟩, ⟨hb_ HB⟩⟩
            ·rw [if_neg c78] at H
             have c78b0 : (t629 == t596) = false := beq_eq_false_iff_ne.mpr c78
             have c78b1 : (t629 != t596) = true := bne_iff_ne.mpr c78
             obtain rfl := Option.some.inj H
             go_wp2_with (first | ((with_reducible refine gate_callee (f := 5) rfl ?_); refine gl_ (some 159) Try.func5 #[.slice Ao60 t598.length co60, .slice Ao15 t589.length co15] rfl rfl rfl ?_; (with_reducible refine (impl_EvalRule.calls kj58 _ _ t598 _ _ t589 t629 true _ ?side1 ?side2 ?side3 ?side4 A76.out).mono ?_); (case side1 => exact Kd.C_o HO_11); (case side2 => exact (Kd.R_reads' HO_11.out).2.1); (case side3 => exact Kd.C_o HO_6); (case side4 => exact (Kd.R_reads' HO_6.out).2.1); rintro e w80 ⟨rfl, hb⟩; refine ⟨_, rfl, ?_⟩; replace HO_6 := Kd.R_b HO_6 hb; replace HO_11 := Kd.R_b HO_11 hb; replace HO_15 := Kd.R_b HO_15 hb; replace HO_17 := Kd.R_b HO_17 hb; replace HO_18 := Kd.R_b HO_18 hb; replace HB := hbs_ HB hb; (try clear hb); (try clear hb2); (try clear hk); (try clear hi)))
             go_ret
             exact ⟨by first | rfl | (simp [errW_none, errW_some] <;> rfl) | (simp [*, errW_none, errW_some] <;> rfl), hb_ HB⟩
           ·replace c77 := Bool.eq_false_iff.mpr c77
            subst c77
            have H1 : (some false) = some r := by rw [if_neg (show ¬ (false = true) by decide)] at H; exact H
            clear H
            have H := H1
            clear H1
            obtain rfl := Option.some.inj H
            go_wp2_with (first | ((with_reducible refine gate_callee (f := 5) rfl ?_); refine gl_ (some 159) Try.func5 #[.slice Ao60 t598.length co60, .slice Ao15 t589.length co15] rfl rfl rfl ?_; (with_reducible refine (impl_EvalRule.calls kj58 _ _ t598 _ _ t589 t629 false _ ?side1 ?side2 ?side3 ?side4 A76.out).mono ?_); (case side1 => exact Kd.C_o HO_11); (case side2 => exact (Kd.R_reads' HO_11.out).2.1); (case side3 => exact Kd.C_o HO_6); (case side4 => exact (Kd.R_reads' HO_6.out).2.1); rintro e w81 ⟨rfl, hb⟩; refine ⟨_, rfl, ?_⟩; replace HO_6 := Kd.R_b HO_6 hb; replace HO_11 := Kd.R_b HO_11 hb; replace HO_15 := Kd.R_b HO_15 hb; replace HO_17 := Kd.R_b HO_17 hb; replace HO_18 := Kd.R_b HO_18 hb; replace HB := hbs_ HB hb; (try clear hb); (try clear hb2); (try clear hk); (try clear hi)))
            go_ret
            exact ⟨by first | rfl | (simp [errW_none, errW_some] <;> rfl) | (simp [*, errW_none, errW_some] <;> rfl), hb_ HB⟩
          ·replace c75 := Bool.eq_false_iff.mpr c75
           subst c75
           have H1 : (laws_FnFolded.j2 kj58 t606 t607 t608 t613 t614) = some r := by rw [if_neg (show ¬ (false = true) by decide)] at H; exact H
           clear H
           have H := H1
           clear H1
           have H' := Aside0.mk H
           clear H
           go_wp2
           go_meet
           case rel => exact ⟨_, H', ⟨by have := HJ11.out; have := HJ58.out; first | omega | exact Nat.le_refl _⟩, ⟨Kd.R_pp (Kd.R_mono HO_15.out (fun _ hk => ⟨hk.2.1, hk.2.2⟩))⟩, ⟨Kd.R_pp (Kd.R_mono HO_17.out (fun _ hk => ⟨hk.2.1, hk.2.2⟩))⟩, ⟨Kd.R_pp (Kd.R_mono HO_18.out (fun _ hk => ⟨hk.2.1, hk.2.2⟩))⟩, ⟨hb_ HB⟩⟩
          )
          exact p8_
       )
       exact p6_
      ·replace c57 := Bool.eq_false_iff.mpr c57
       subst c57
       have H1 : (laws_FnFolded.j2 kj11 t606 t607 t608 t613 t614) = some r := by rw [if_neg (show ¬ (false = true) by decide)] at H; exact H
       clear H
       have H := H1
       clear H1
       have H' := Aside0.mk H
       clear H
       go_wp2
       go_meet
       case rel => exact ⟨_, H', ⟨by have := HJ11.out; first | omega | exact Nat.le_refl _⟩, ⟨Kd.R_pp (Kd.R_mono HO_15.out (fun _ hk => ⟨hk.2.2.2.1, hk.2.2.2.2⟩))⟩, ⟨Kd.R_pp (Kd.R_mono HO_17.out (fun _ hk => ⟨hk.2.2.2.1, hk.2.2.2.2⟩))⟩, ⟨Kd.R_pp (Kd.R_mono HO_18.out (fun _ hk => ⟨hk.2.2.2.1, hk.2.2.2.2⟩))⟩, ⟨hb_ HB⟩⟩
     case rest =>
      clear HC56
      (try clear c1); (try clear c2); (try clear p2); (try clear c3); (try clear c3b0); (try clear c4); (try clear c5); (try clear c6); (try clear p6); (try clear c7); (try clear c8); (try clear c9); (try clear c10); (try clear c11); (try clear c25); (try clear c25b0); (try clear c25b1); (try clear c25b2); (try clear c26); (try clear c26b0); (try clear c26b1); (try clear c27); (try clear c27b0); (try clear c27b1); (try clear c27b2); (try clear c29); (try clear c30); (try clear c30b0); (try clear c30b1); (try clear c30b2); (try clear c34); (try clear c35); (try clear c36); (try clear c36b0); (try clear c55); (try clear c57); (try clear c62); (try clear c64); (try clear p64); (try clear c65); (try clear c65b0); (try clear c65b1); (try clear c74); (try clear c75); (try clear c77); (try clear c78); (try clear c78b0); (try clear c78b1)
      obtain ⟨kq, HA, HJ55, HO_15, HO_17, HO_18, HB⟩ := hcut
      cases kq with
      | zero => exact absurd HA.out (by simp [laws_FnFolded.j2])
      | succ kj55 =>
       have H := HA.out
       clear HA
       simp only [laws_FnFolded.j2] at H
       by_cases c82 : t614 = true
       ·refine ?z9_
        let rec p9_ : type_of% ?z9_ := by(
        subst c82
        have H1 : ((some (([100, 20, 2, 3, 2000] : List Int) : List Int)).bind fun y631 => ((impl_EvalRule.f kj55 t608 y631).bind fun bt634 => ((spec_EvalRule.f kj55 t608 y631).bind fun bt636 => (if (bt634.2 != bt636.2) = true then (laws_FnFolded.j3 kj55 t606 t607 t613 y631 bt634.2 bt636.1 true) else (if bt634.1 = bt636.1 then ((impl_IsRule.f kj55 t613).bind fun t638 => (laws_FnFolded.j3 kj55 t606 t607 t613 y631 bt634.2 bt636.1 (!t638))) else (laws_FnFolded.j3 kj55 t606 t607 t613 y631 bt634.2 bt636.1 true)))))) = some r := by rw [if_pos rfl] at H; exact H
        clear H
        have H := H1
        clear H1
        obtain ⟨y631, hy631⟩ : ∃ y_ : List Int, y_ = (([100, 20, 2, 3, 2000] : List Int)) := ⟨_, rfl⟩
        replace H : ((impl_EvalRule.f kj55 t608 y631).bind fun bt634 => ((spec_EvalRule.f kj55 t608 y631).bind fun bt636 => (if (bt634.2 != bt636.2) = true then (laws_FnFolded.j3 kj55 t606 t607 t613 y631 bt634.2 bt636.1 true) else (if bt634.1 = bt636.1 then ((impl_IsRule.f kj55 t613).bind fun t638 => (laws_FnFolded.j3 kj55 t606 t607 t613 y631 bt634.2 bt636.1 (!t638))) else (laws_FnFolded.j3 kj55 t606 t607 t613 y631 bt634.2 bt636.1 true))))) = some r := by first | (rw [hy631]; with_reducible exact H) | (have H2_ := (Option.bind_some _ _).symm.trans H; rw [hy631]; with_reducible exact H2_) | (have H2_ := (Option.bind_some _ _).symm.trans H; with_reducible exact H2_) | with_reducible exact H | (rw [hy631]; exact H) | exact H
        have Ny631 := Aside0.mk hy631
        clear hy631
        replace H := Option.bind_eq_some_iff.mp H
        obtain ⟨⟨t634, t635⟩, A830, H⟩ := H
        replace H : ((spec_EvalRule.f kj55 t608 y631).bind fun bt636 => (if (t635 != bt636.2) = true then (laws_FnFolded.j3 kj55 t606 t607 t613 y631 t635 bt636.1 true) else (if t634 = bt636.1 then ((impl_IsRule.f kj55 t613).bind fun t638 => (laws_FnFolded.j3 kj55 t606 t607 t613 y631 t635 bt636.1 (!t638))) else (laws_FnFolded.j3 kj55 t606 t607 t613 y631 t635 bt636.1 true)))) = some r := H
        have A83 := Aside0.mk A830
        clear A830
        replace H := Option.bind_eq_some_iff.mp H
        obtain ⟨⟨t636, t637⟩, A840, H⟩ := H
        replace H : (if (t635 != t637) = true then (laws_FnFolded.j3 kj55 t606 t607 t613 y631 t635 t636 true) else (if t634 = t636 then ((impl_IsRule.f kj55 t613).bind fun t638 => (laws_FnFolded.j3 kj55 t606 t607 t613 y631 t635 t636 (!t638))) else (laws_FnFolded.j3 kj55 t606 t607 t613 y631 t635 t636 true))) = some r := H
        have A84 := Aside0.mk A840
        clear A840
        have HC85 := Aside0.mk H
        clear H
        go_upto_region 26 with (first | ((with_reducible refine gate_dst (N := 171) rfl ?_); (try (refine gate_guard (by rfl) ?_; dsimp only)); refine Kd.R_lit (Kd.int .i64) _ 3 ?hg (N := 171) ?hd (xs := ([100, 20, 2, 3, 2000] : List Int)) (inner := [.int .i64 100, .int .i64 20, .int .i64 2, .int .i64 3, .int .i64 2000]) (ok := fun _ => True) (okp := fun _ => True) ?hr ?hp (fun _ hk => hk) trivial (Below.refl _ _) (Nat.le_refl _) (by simp) ?_; (case hd => rfl); (case hg => rfl); (case hr => first | (go_simp; done) | (go_simp; rfl)); (case hp => exact (Reps.one (show Kd.M (Kd.int .i64) _ _ _ 100 [.int .i64 100] from rfl) (Reps.one (show Kd.M (Kd.int .i64) _ _ _ 20 [.int .i64 20] from rfl) (Reps.one (show Kd.M (Kd.int .i64) _ _ _ 2 [.int .i64 2] from rfl) (Reps.one (show Kd.M (Kd.int .i64) _ _ _ 3 [.int .i64 3] from rfl) (Reps.one (show Kd.M (Kd.int .i64) _ _ _ 2000 [.int .i64 2000] from rfl) (Reps.none _ _))))))); intro v632 w86 ho87 hb hg_ hnew_; clear hg_ hnew_; (first | rw [← Ny631.out] at ho87 | (simp only [Int.reduceToNat] at ho87; rw [← Ny631.out] at ho87)); have HO633 := Kd.R_lo ho87 HB; replace HO_15 := Kd.R_b HO_15 hb; replace HO_17 := Kd.R_b HO_17 hb; replace HO_18 := Kd.R_b HO_18 hb; replace HB := hbs_ HB hb; clear hb ho87; obtain ⟨Ao88, co88, eo88⟩ := Kd.R_slice HO633.out; subst eo88) | ((with_reducible refine gate_callee (f := 5) rfl ?_); refine gl_ (some 175) Try.func5 #[.slice Ao22 t608.length co22, .slice Ao88 y631.length co88] rfl rfl rfl ?_; (with_reducible refine (impl_EvalRule.calls kj55 _ _ t608 _ _ y631 t634 t635 _ ?side1 ?side2 ?side3 ?side4 A83.out).mono ?_); (case side1 => exact Kd.C_o HO_17); (case side2 => exact (Kd.R_reads' HO_17.out).2.1); (case side3 => exact Kd.C_o HO633); (case side4 => exact (Kd.R_reads' HO633.out).2.1); rintro e w89 ⟨rfl, hb⟩; refine ⟨_, rfl, ?_⟩; replace HO_15 := Kd.R_b HO_15 hb; replace HO_17 := Kd.R_b HO_17 hb; replace HO_18 := Kd.R_b HO_18 hb; replace HO633 := Kd.R_b HO633 hb; replace HB := hbs_ HB hb; (try clear hb); (try clear hb2); (try clear hk); (try clear hi)) | ((with_reducible refine gate_callee (f := 6) rfl ?_); refine gl_ (some 181) Try.func6 #[.slice Ao22 t608.length co22, .slice Ao88 y631.length co88] rfl rfl rfl ?_; (with_reducible refine (spec_EvalRule.calls kj55 _ _ t608 _ _ y631 t636 t637 _ ?side1 ?side2 ?side3 ?side4 A84.out).mono ?_); (case side1 => exact Kd.C_o HO_17); (case side2 => exact (Kd.R_reads' HO_17.out).2.1); (case side3 => exact Kd.C_o HO633); (case side4 => exact (Kd.R_reads' HO633.out).2.1); rintro e w90 ⟨rfl, hb⟩; refine ⟨_, rfl, ?_⟩; replace HO_15 := Kd.R_b HO_15 hb; replace HO_17 := Kd.R_b HO_17 hb; replace HO_18 := Kd.R_b HO_18 hb; replace HO633 := Kd.R_b HO633 hb; replace HB := hbs_ HB hb; (try clear hb); (try clear hb2); (try clear hk); (try clear hi)))
        (try simp only [Act.put, List.setIfInBounds_toArray, List.set_cons_zero, List.set_cons_succ])
        go_cut [196] (fun v196 wc => ∃ (kq : Nat) (x196_84 : Bool), v196 = .bool x196_84 ∧ Aside0 (laws_FnFolded.j3 kq t606 t607 t613 y631 t635 t636 x196_84 = some r) ∧ Aside0 (kq ≤ kj55) ∧ Aside0 (Kd.R k52 52 wc w.heap.size (fun k_ => some k_ ≠ (v615 : Value).ownBlock) (.slice Ao21 t606.length co21) t606) ∧ Aside0 (Kd.R k52 52 wc w.heap.size (fun k_ => some k_ ≠ ((.slice Ao21 t606.length co21) : Value).ownBlock) v615 t613) ∧ Aside0 (Kd.R (Kd.int .i64) 3 wc w.heap.size (fun _ => True) (.slice Ao88 y631.length co88) y631) ∧ Aside0 (Below w.heap.size w wc))
        case first =>
         have H := HC85.out
         clear HC85
         by_cases c91 : (t635 != t637) = true
         ·rw [if_pos c91] at H
          have c91b0 : (t635 != t637) = true := c91
          (try (have c91b1 : decide (t635 = t637) = false := by simpa using c91))
          (try (have c91b2 : (t635 == t637) = false := by simpa using c91))
          (try (have c91b3 : ¬ (t635 = t637) := by simpa using c91))
          clear c91
          (first | rw [c91b0] | (simp only [i64_w, i32_w]; rw [c91b0]) | skip)
          have H' := Aside0.mk H
          clear H
          go_wp2
          go_meet
          case rel => exact ⟨_, (true), (by first | rfl | (simp; done) | (simp [*]; done)), H', ⟨by have := HJ11.out; have := HJ55.out; first | omega | exact Nat.le_refl _⟩, ⟨Kd.R_pp (Kd.R_mono HO_15.out (fun _ hk => hk.2))⟩, ⟨Kd.R_pp (Kd.R_mono HO_18.out (fun _ hk => hk.1))⟩, ⟨Kd.R_p HO633⟩, ⟨hb_ HB⟩⟩
         ·rw [if_neg c91] at H
          have c91b0 : (t635 != t637) = false := by simpa using c91
          (try (have c91b1 : decide (t635 = t637) = true := by simpa using c91))
          (try (have c91b2 : (t635 == t637) = true := by simpa using c91))
          clear c91
          (first | rw [c91b0] | (simp only [i64_w, i32_w]; rw [c91b0]) | skip)
          by_cases c92 : t634 = t636
          ·rw [if_pos c92] at H
           have c92b0 : (t634 == t636) = true := beq_iff_eq.mpr c92
           have c92b1 : (t634 != t636) = false := bne_eq_false_iff_eq.mpr c92
           clear c92
           replace H := Option.bind_eq_some_iff.mp H
           obtain ⟨t638, A930, H⟩ := H
           replace H : (laws_FnFolded.j3 kj55 t606 t607 t613 y631 t635 t636 (!t638)) = some r := H
           have A93 := Aside0.mk A930
           clear A930
           have H' := Aside0.mk H
           clear H
           obtain ⟨Ao94, co94, eo94⟩ := Kd.R_slice HO_18.out
           subst eo94
           go_wp2_with (first | (go_at_call 13; (with_reducible refine (impl_IsRule.calls kj55 _ _ t613 t638 _ ?side1 ?side2 A93.out).mono ?_); (case side1 => exact Kd.C_o HO_18); (case side2 => exact (Kd.R_reads' HO_18.out).2.1); rintro e w95 ⟨rfl, hb⟩; have n0_ := Aside0.mk (Kd.R_below (Kd.R_p HO_15) hb); have n1_ := Aside0.mk (Kd.R_below (Kd.R_p HO_17) hb); have n2_ := Aside0.mk (Kd.R_below (Kd.R_p HO_18) hb); have n3_ := Aside0.mk (Kd.R_below (Kd.R_p HO633) hb); have n4_ := Aside0.mk (below_step (hb_ HB) hb); clear HO_15; clear HO_17; clear HO_18; clear HO633; clear HB; have HO_15 := n0_; have HO_17 := n1_; have HO_18 := n2_; have HO633 := n3_; have HB := n4_; clear n0_ n1_ n2_ n3_ n4_; (try clear hb); (try clear hb2); (try clear hk); (try clear hi)))
           go_meet
           case rel => exact ⟨_, (!t638), (by first | rfl | (simp; done) | (simp [*]; done)), H', ⟨by have := HJ11.out; have := HJ55.out; first | omega | exact Nat.le_refl _⟩, ⟨Kd.R_pp (Kd.R_mono HO_15.out (fun _ hk => hk.2))⟩, ⟨Kd.R_pp (Kd.R_mono HO_18.out (fun _ hk => hk.1))⟩, ⟨Kd.R_p HO633⟩, ⟨hb_ HB⟩⟩
          ·rw [if_neg c92] at H
           have c92b0 : (t634 == t636) = false := beq_eq_false_iff_ne.mpr c92
           have c92b1 : (t634 != t636) = true := bne_iff_ne.mpr c92
           have H' := Aside0.mk H
           clear H
           go_wp2
           go_meet
           case rel => exact ⟨_, (true), (by first | rfl | (simp; done) | (simp [*]; done)), H', ⟨by have := HJ11.out; have := HJ55.out; first | omega | exact Nat.le_refl _⟩, ⟨Kd.R_pp (Kd.R_mono HO_15.out (fun _ hk => hk.2))⟩, ⟨Kd.R_pp (Kd.R_mono HO_18.out (fun _ hk => hk.1))⟩, ⟨Kd.R_p HO633⟩, ⟨hb_ HB⟩⟩
        case rest =>
         clear HC85
         (try clear c1); (try clear c2); (try clear p2); (try clear c3); (try clear c3b0); (try clear c4); (try clear c5); (try clear c6); (try clear p6); (try clear c7); (try clear c8); (try clear c9); (try clear c10); (try clear c11); (try clear c25); (try clear c25b0); (try clear c25b1); (try clear c25b2); (try clear c26); (try clear c26b0); (try clear c26b1); (try clear c27); (try clear c27b0); (try clear c27b1); (try clear c27b2); (try clear c29); (try clear c30); (try clear c30b0); (try clear c30b1); (try clear c30b2); (try clear c34); (try clear c35); (try clear c36); (try clear c36b0); (try clear c55); (try clear c57); (try clear c62); (try clear c64); (try clear p64); (try clear c65); (try clear c65b0); (try clear c65b1); (try clear c74); (try clear c75); (try clear c77); (try clear c78); (try clear c78b0); (try clear c78b1); (try clear c82); (try clear c91); (try clear c91b0); (try clear c91b1); (try clear c91b2); (try clear c92); (try clear c92b0); (try clear c92b1)
         obtain ⟨kq, x196_84, rfl, HA, HJ84, HO_15, HO_18, HO_26, HB⟩ := hcut
         cases kq with
         | zero => exact absurd HA.out (by simp [laws_FnFolded.j3])
         | succ kj84 =>
          have H := HA.out
          clear HA
          simp only [laws_FnFolded.j3] at H
          by_cases c96 : x196_84 = true
          ·subst c96
           have H1 : (some false) = some r := by rw [if_pos rfl] at H; exact H
           clear H
           have H := H1
           clear H1
           obtain rfl := Option.some.inj H
           go_wp2
           go_ret
           exact ⟨by first | rfl | (simp [errW_none, errW_some] <;> rfl) | (simp [*, errW_none, errW_some] <;> rfl), hb_ HB⟩
          ·refine ?z10_
           let rec p10_ : type_of% ?z10_ := by(
           replace c96 := Bool.eq_false_iff.mpr c96
           subst c96
           have H1 : (if t635 = true then (if t636 < 0 then (laws_FnFolded.j4 kj84 t606 t607 t613 y631 t636 true) else (laws_FnFolded.j4 kj84 t606 t607 t613 y631 t636 (decide (t636 > 10000000)))) else (laws_FnFolded.j4 kj84 t606 t607 t613 y631 t636 true)) = some r := by rw [if_neg (show ¬ (false = true) by decide)] at H; exact H
           clear H
           have H := H1
           clear H1
           have HC97 := Aside0.mk H
           clear H
           go_upto_region 28 with (fail)
           go_cut [206] (fun v206 wc => ∃ (kq : Nat) (x206_96 : Bool), v206 = .bool x206_96 ∧ Aside0 (laws_FnFolded.j4 kq t606 t607 t613 y631 t636 x206_96 = some r) ∧ Aside0 (kq ≤ kj84) ∧ Aside0 (Kd.R k52 52 wc w.heap.size (fun k_ => some k_ ≠ (v615 : Value).ownBlock) (.slice Ao21 t606.length co21) t606) ∧ Aside0 (Kd.R k52 52 wc w.heap.size (fun k_ => some k_ ≠ ((.slice Ao21 t606.length co21) : Value).ownBlock) v615 t613) ∧ Aside0 (Kd.R (Kd.int .i64) 3 wc w.heap.size (fun _ => True) (.slice Ao88 y631.length co88) y631) ∧ Aside0 (Below w.heap.size w wc))
           case first =>
            have H := HC97.out
            clear HC97
            by_cases c98 : t635 = true
            ·subst c98
             have H1 : (if t636 < 0 then (laws_FnFolded.j4 kj84 t606 t607 t613 y631 t636 true) else (laws_FnFolded.j4 kj84 t606 t607 t613 y631 t636 (decide (t636 > 10000000)))) = some r := by rw [if_pos rfl] at H; exact H
             clear H
             have H := H1
             clear H1
             by_cases c99 : t636 < 0
             ·rw [if_pos c99] at H
              have c99b0 : decide (t636 < 0) = true := decide_eq_true c99
              clear c99
              (first | rw [c99b0] | (simp only [i64_w, i32_w]; rw [c99b0]) | skip)
              have H' := Aside0.mk H
              clear H
              go_wp2
              go_meet
              case rel => exact ⟨_, (true), (by first | rfl | (simp; done) | (simp [*]; done)), H', ⟨by have := HJ11.out; have := HJ55.out; have := HJ84.out; first | omega | exact Nat.le_refl _⟩, ⟨Kd.R_p HO_15⟩, ⟨Kd.R_p HO_18⟩, ⟨Kd.R_p HO_26⟩, ⟨hb_ HB⟩⟩
             ·rw [if_neg c99] at H
              have c99b0 : decide (t636 < 0) = false := decide_eq_false c99
              clear c99
              (first | rw [c99b0] | (simp only [i64_w, i32_w]; rw [c99b0]) | skip)
              have H' := Aside0.mk H
              clear H
              go_wp2
              go_meet
              case rel => exact ⟨_, (decide (t636 > 10000000)), (by first | rfl | (simp; done) | (simp [*]; done)), H', ⟨by have := HJ11.out; have := HJ55.out; have := HJ84.out; first | omega | exact Nat.le_refl _⟩, ⟨Kd.R_p HO_15⟩, ⟨Kd.R_p HO_18⟩, ⟨Kd.R_p HO_26⟩, ⟨hb_ HB⟩⟩
            ·replace c98 := Bool.eq_false_iff.mpr c98
             subst c98
             have H1 : (laws_FnFolded.j4 kj84 t606 t607 t613 y631 t636 true) = some r := by rw [if_neg (show ¬ (false = true) by decide)] at H; exact H
             clear H
             have H := H1
             clear H1
             have H' := Aside0.mk H
             clear H
             go_wp2
             go_meet
             case rel => exact ⟨_, (true), (by first | rfl | (simp; done) | (simp [*]; done)), H', ⟨by have := HJ11.out; have := HJ55.out; have := HJ84.out; first | omega | exact Nat.le_refl _⟩, ⟨Kd.R_p HO_15⟩, ⟨Kd.R_p HO_18⟩, ⟨Kd.R_p HO_26⟩, ⟨hb_ HB⟩⟩
           case rest =>
            clear HC97
            (try clear c1); (try clear c2); (try clear p2); (try clear c3); (try clear c3b0); (try clear c4); (try clear c5); (try clear c6); (try clear p6); (try clear c7); (try clear c8); (try clear c9); (try clear c10); (try clear c11); (try clear c25); (try clear c25b0); (try clear c25b1); (try clear c25b2); (try clear c26); (try clear c26b0); (try clear c26b1); (try clear c27); (try clear c27b0); (try clear c27b1); (try clear c27b2); (try clear c29); (try clear c30); (try clear c30b0); (try clear c30b1); (try clear c30b2); (try clear c34); (try clear c35); (try clear c36); (try clear c36b0); (try clear c55); (try clear c57); (try clear c62); (try clear c64); (try clear p64); (try clear c65); (try clear c65b0); (try clear c65b1); (try clear c74); (try clear c75); (try clear c77); (try clear c78); (try clear c78b0); (try clear c78b1); (try clear c82); (try clear c91); (try clear c91b0); (try clear c91b1); (try clear c91b2); (try clear c92); (try clear c92b0); (try clear c92b1); (try clear c96); (try clear c98); (try clear c99); (try clear c99b0)
            obtain ⟨kq, x206_96, rfl, HA, HJ96, HO_15, HO_18, HO_26, HB⟩ := hcut
            cases kq with
            | zero => exact absurd HA.out (by simp [laws_FnFolded.j4])
            | succ kj96 =>
             have H := HA.out
             clear HA
             simp only [laws_FnFolded.j4] at H
             by_cases c100 : x206_96 = true
             ·subst c100
              have H1 : (some true) = some r := by rw [if_pos rfl] at H; exact H
              clear H
              have H := H1
              clear H1
              obtain rfl := Option.some.inj H
              go_wp2
              go_ret
              exact ⟨by first | rfl | (simp [errW_none, errW_some] <;> rfl) | (simp [*, errW_none, errW_some] <;> rfl), hb_ HB⟩
             ·replace c100 := Bool.eq_false_iff.mpr c100
              subst c100
              have H1 : ((impl_EvalRule.f kj96 t613 y631).bind fun bt639 => (if 0 ≤ t607 then (if t607 < (y631.length : Int) then ((impl_EvalRule.f kj96 t606 (y631.set (t607 : Int).toNat t636)).bind fun bt642 => (if (bt639.2 == bt642.2) = true then (some (bt639.1 == bt642.1)) else (some false))) else (none)) else (none))) = some r := by rw [if_neg (show ¬ (false = true) by decide)] at H; exact H
              clear H
              have H := H1
              clear H1
              replace H := Option.bind_eq_some_iff.mp H
              obtain ⟨⟨t639, t640⟩, A1010, H⟩ := H
              replace H : (if 0 ≤ t607 then (if t607 < (y631.length : Int) then ((impl_EvalRule.f kj96 t606 (y631.set (t607 : Int).toNat t636)).bind fun bt642 => (if (t640 == bt642.2) = true then (some (t639 == bt642.1)) else (some false))) else (none)) else (none)) = some r := H
              have A101 := Aside0.mk A1010
              clear A1010
              by_cases c102 : 0 ≤ t607
              ·rw [if_pos c102] at H
               have c102b0 : decide (0 ≤ t607) = true := decide_eq_true c102
               clear c102
               by_cases c103 : t607 < (y631.length : Int)
               ·refine ?z11_
                let rec p11_ : type_of% ?z11_ := by(
                rw [if_pos c103] at H
                have c103b0 : decide (t607 < (y631.length : Int)) = true := decide_eq_true c103
                clear c103
                obtain ⟨y641, hy641⟩ : ∃ y_ : List Int, y_ = (y631.set (t607 : Int).toNat t636) := ⟨_, rfl⟩
                replace H : ((impl_EvalRule.f kj96 t606 y641).bind fun bt642 => (if (t640 == bt642.2) = true then (some (t639 == bt642.1)) else (some false))) = some r := by first | (rw [hy641]; with_reducible exact H) | (have H2_ := (Option.bind_some _ _).symm.trans H; rw [hy641]; with_reducible exact H2_) | (have H2_ := (Option.bind_some _ _).symm.trans H; with_reducible exact H2_) | with_reducible exact H | (rw [hy641]; exact H) | exact H
                have Ny641 := Aside0.mk hy641
                clear hy641
                replace H := Option.bind_eq_some_iff.mp H
                obtain ⟨⟨t642, t643⟩, A1050, H⟩ := H
                replace H : (if (t640 == t643) = true then (some (t639 == t642)) else (some false)) = some r := H
                have A105 := Aside0.mk A1050
                clear A1050
                by_cases c106 : (t640 == t643) = true
                ·rw [if_pos c106] at H
                 have c106b0 : (t640 == t643) = true := c106
                 (try (have c106b1 : decide (t640 = t643) = true := by simpa using c106))
                 (try (have c106b2 : (t640 == t643) = true := by simpa using c106))
                 clear c106
                 obtain rfl := Option.some.inj H
                 obtain ⟨Ao107, co107, eo107⟩ := Kd.R_slice HO_18.out
                 subst eo107
                 go_wp2_with (first | ((with_reducible refine gate_callee (f := 5) rfl ?_); refine gl_ (some 210) Try.func5 #[.slice Ao107 t613.length co107, .slice Ao88 y631.length co88] rfl rfl rfl ?_; (with_reducible refine (impl_EvalRule.calls kj96 _ _ t613 _ _ y631 t639 t640 _ ?side1 ?side2 ?side3 ?side4 A101.out).mono ?_); (case side1 => exact Kd.C_o HO_18); (case side2 => exact (Kd.R_reads' HO_18.out).2.1); (case side3 => exact Kd.C_o HO_26); (case side4 => exact (Kd.R_reads' HO_26.out).2.1); rintro e w108 ⟨rfl, hb⟩; refine ⟨_, rfl, ?_⟩; replace HO_15 := Kd.R_b HO_15 hb; replace HO_18 := Kd.R_b HO_18 hb; replace HO_26 := Kd.R_b HO_26 hb; replace HB := hbs_ HB hb; (try clear hb); (try clear hb2); (try clear hk); (try clear hi); have p104 : 0 ≤ (t607 : Int) := of_decide_eq_true (by first | (with_reducible assumption) | assumption); have q104 : (t607 : Int) < ((y631.length : Int) : Int) := of_decide_eq_true (by first | (with_reducible assumption) | assumption); obtain ⟨go104, co104, eo104, gb104, gl104, cl104, HG104⟩ := Kd.R_form HO_26.out (by omega); (first | cases eo104 | (injection eo104 with ea_ en_ ec_; (first | subst ea_ | (injection ea_ with ea_; subst ea_)); subst ec_; clear en_)); have GB104 := Aside0.mk gb104; have GG104 := Aside0.mk HG104; clear gb104 gl104 HG104; obtain ⟨hx104_0, hf104_0⟩ := Kd.R_celln 0 HO_26.out (t607 : Int) p104 q104; replace p104 := eq_true p104; replace q104 := eq_true q104; obtain ⟨hy109_, hz109_⟩ := Kd.R_celln 0 HO_26.out (t607 : Int) (of_decide_eq_true (by first | (with_reducible assumption) | assumption)) (of_decide_eq_true (by first | (with_reducible assumption) | assumption)); have HP109 := Kd.R_putg HO_26.out (t607 : Int) t636) | ((with_reducible refine gate_store (t := 3) (p := 216) rfl ?_); refine store_event (t := 3) (p := 216) (v := ?vo_w110) (w1 := (w108.setCell ⟨go104, (t607 : Int).toNat, none⟩ (.int .i64 t636))) ?hg ?ho ?hn ?hr ?_; (case ho => rfl); (case hg => rfl); (case hn => rfl); (case hr => first | (go_simp; done) | (go_simp; rfl)); intro w110 hw; have hg : w108.grownBy w110 (some go104) := (by rw [hw]; exact HP109.2); have hp_ : Kd.R (Kd.int .i64) 3 w110 w.heap.size (fun _ => True) (.slice (some ⟨go104, 0, none⟩) y631.length co88) y641 := (by rw [hw, Ny641.out]; exact HP109.1); clear HP109; replace HO_15 := Aside0.mk (Kd.R_over' (v := (.slice (some ⟨go104, 0, none⟩) y631.length co88)) (Kd.R_p HO_15) (Kd.R_typed HO_26.out) (by decide) hg); replace HO_18 := Aside0.mk (Kd.R_over' (v := (.slice (some ⟨go104, 0, none⟩) y631.length co88)) (Kd.R_p HO_18) (Kd.R_typed HO_26.out) (by decide) hg); replace HB := Aside0.mk ((by rw [hw]; exact below_set (HB.out) GB104.out : Below w.heap.size w w110)); replace HO_26 := Aside0.mk (hp_); clear hg hw hp_) | ((with_reducible refine gate_callee (f := 5) rfl ?_); refine gl_ (some 220) Try.func5 #[.slice Ao21 t606.length co21, .slice (some ⟨go104, 0, none⟩) y641.length co88] rfl rfl rfl ?_ (by (try simp only [List.map_toArray, List.map_cons, List.map_nil]); first | done | (rw [show y641.length = y631.length from (Kd.R_reads' HO_26.out).1.symm] <;> rfl) | rfl | (simp only [List.length_drop, List.length_take]; rfl)); (with_reducible refine (impl_EvalRule.calls kj96 _ _ t606 _ _ y641 t642 t643 _ ?side1 ?side2 ?side3 ?side4 A105.out).mono ?_); (case side1 => exact Kd.C_o HO_15); (case side2 => exact (Kd.R_reads' HO_15.out).2.1); (case side3 => exact Kd.C_o HO_26); (case side4 => rw [show y641.length = y631.length from (Kd.R_reads' HO_26.out).1.symm]; exact (Kd.R_reads' HO_26.out).2.1); rintro e w111 ⟨rfl, hb⟩; refine ⟨_, rfl, ?_⟩; replace HO_15 := Kd.R_b HO_15 hb; replace HO_18 := Kd.R_b HO_18 hb; replace HO_26 := Kd.R_b HO_26 hb; replace HB := hbs_ HB hb; (try clear hb); (try clear hb2); (try clear hk); (try clear hi)))
                 go_ret
                 exact ⟨by first | rfl | (simp [errW_none, errW_some] <;> rfl) | (simp [*, errW_none, errW_some] <;> rfl), hb_ HB⟩
                ·rw [if_neg c106] at H
                 have c106b0 : (t640 == t643) = false := by simpa using c106
                 (try (have c106b1 : decide (t640 = t643) = false := by simpa using c106))
                 (try (have c106b2 : (t640 == t643) = false := by simpa using c106))
                 (try (have c106b3 : ¬ (t640 = t643) := by simpa using c106))
                 clear c106
                 obtain rfl := Option.some.inj H
                 obtain ⟨Ao112, co112, eo112⟩ := Kd.R_slice HO_18.out
                 subst eo112
                 go_wp2_with (first | ((with_reducible refine gate_callee (f := 5) rfl ?_); refine gl_ (some 210) Try.func5 #[.slice Ao112 t613.length co112, .slice Ao88 y631.length co88] rfl rfl rfl ?_; (with_reducible refine (impl_EvalRule.calls kj96 _ _ t613 _ _ y631 t639 t640 _ ?side1 ?side2 ?side3 ?side4 A101.out).mono ?_); (case side1 => exact Kd.C_o HO_18); (case side2 => exact (Kd.R_reads' HO_18.out).2.1); (case side3 => exact Kd.C_o HO_26); (case side4 => exact (Kd.R_reads' HO_26.out).2.1); rintro e w113 ⟨rfl, hb⟩; refine ⟨_, rfl, ?_⟩; replace HO_15 := Kd.R_b HO_15 hb; replace HO_18 := Kd.R_b HO_18 hb; replace HO_26 := Kd.R_b HO_26 hb; replace HB := hbs_ HB hb; (try clear hb); (try clear hb2); (try clear hk); (try clear hi); have p104 : 0 ≤ (t607 : Int) := of_decide_eq_true (by first | (with_reducible assumption) | assumption); have q104 : (t607 : Int) < ((y631.length : Int) : Int) := of_decide_eq_true (by first | (with_reducible assumption) | assumption); obtain ⟨go104, co104, eo104, gb104, gl104, cl104, HG104⟩ := Kd.R_form HO_26.out (by omega); (first | cases eo104 | (injection eo104 with ea_ en_ ec_; (first | subst ea_ | (injection ea_ with ea_; subst ea_)); subst ec_; clear en_)); have GB104 := Aside0.mk gb104; have GG104 := Aside0.mk HG104; clear gb104 gl104 HG104; obtain ⟨hx104_0, hf104_0⟩ := Kd.R_celln 0 HO_26.out (t607 : Int) p104 q104; replace p104 := eq_true p104; replace q104 := eq_true q104; obtain ⟨hy114_, hz114_⟩ := Kd.R_celln 0 HO_26.out (t607 : Int) (of_decide_eq_true (by first | (with_reducible assumption) | assumption)) (of_decide_eq_true (by first | (with_reducible assumption) | assumption)); have HP114 := Kd.R_putg HO_26.out (t607 : Int) t636) | ((with_reducible refine gate_store (t := 3) (p := 216) rfl ?_); refine store_event (t := 3) (p := 216) (v := ?vo_w115) (w1 := (w113.setCell ⟨go104, (t607 : Int).toNat, none⟩ (.int .i64 t636))) ?hg ?ho ?hn ?hr ?_; (case ho => rfl); (case hg => rfl); (case hn => rfl); (case hr => first | (go_simp; done) | (go_simp; rfl)); intro w115 hw; have hg : w113.grownBy w115 (some go104) := (by rw [hw]; exact HP114.2); have hp_ : Kd.R (Kd.int .i64) 3 w115 w.heap.size (fun _ => True) (.slice (some ⟨go104, 0, none⟩) y631.length co88) y641 := (by rw [hw, Ny641.out]; exact HP114.1); clear HP114; replace HO_15 := Aside0.mk (Kd.R_over' (v := (.slice (some ⟨go104, 0, none⟩) y631.length co88)) (Kd.R_p HO_15) (Kd.R_typed HO_26.out) (by decide) hg); replace HO_18 := Aside0.mk (Kd.R_over' (v := (.slice (some ⟨go104, 0, none⟩) y631.length co88)) (Kd.R_p HO_18) (Kd.R_typed HO_26.out) (by decide) hg); replace HB := Aside0.mk ((by rw [hw]; exact below_set (HB.out) GB104.out : Below w.heap.size w w115)); replace HO_26 := Aside0.mk (hp_); clear hg hw hp_) | ((with_reducible refine gate_callee (f := 5) rfl ?_); refine gl_ (some 220) Try.func5 #[.slice Ao21 t606.length co21, .slice (some ⟨go104, 0, none⟩) y641.length co88] rfl rfl rfl ?_ (by (try simp only [List.map_toArray, List.map_cons, List.map_nil]); first | done | (rw [show y641.length = y631.length from (Kd.R_reads' HO_26.out).1.symm] <;> rfl) | rfl | (simp only [List.length_drop, List.length_take]; rfl)); (with_reducible refine (impl_EvalRule.calls kj96 _ _ t606 _ _ y641 t642 t643 _ ?side1 ?side2 ?side3 ?side4 A105.out).mono ?_); (case side1 => exact Kd.C_o HO_15); (case side2 => exact (Kd.R_reads' HO_15.out).2.1); (case side3 => exact Kd.C_o HO_26); (case side4 => rw [show y641.length = y631.length from (Kd.R_reads' HO_26.out).1.symm]; exact (Kd.R_reads' HO_26.out).2.1); rintro e w116 ⟨rfl, hb⟩; refine ⟨_, rfl, ?_⟩; replace HO_15 := Kd.R_b HO_15 hb; replace HO_18 := Kd.R_b HO_18 hb; replace HO_26 := Kd.R_b HO_26 hb; replace HB := hbs_ HB hb; (try clear hb); (try clear hb2); (try clear hk); (try clear hi)))
                 go_ret
                 exact ⟨by first | rfl | (simp [errW_none, errW_some] <;> rfl) | (simp [*, errW_none, errW_some] <;> rfl), hb_ HB⟩
                )
                exact p11_
               ·rw [if_neg c103] at H
                exact absurd H (by simp)
              ·rw [if_neg c102] at H
               exact absurd H (by simp)
           )
           exact p10_
        )
        exact p9_
       ·replace c82 := Bool.eq_false_iff.mpr c82
        subst c82
        have H1 : (some true) = some r := by rw [if_neg (show ¬ (false = true) by decide)] at H; exact H
        clear H
        have H := H1
        clear H1
        obtain rfl := Option.some.inj H
        go_wp2
        go_ret
        exact ⟨by first | rfl | (simp [errW_none, errW_some] <;> rfl) | (simp [*, errW_none, errW_some] <;> rfl), hb_ HB⟩
   )
   exact p5_
  )
  exact p1_

/-- THE ONE PURE STATEMENT of laws_FnFolded: yours. -/
def laws_FnFolded.Pure : Prop := ∀ (l0 : List Int) (l1 : List Int), l0.length ≤ maxLen → l0.length * 1 ≤ 140737488351232 → (∀ x ∈ l0, (Lit.int .u8 x).wf = true) → l1.length ≤ maxLen → l1.length * 1 ≤ 140737488351232 → (∀ x ∈ l1, (Lit.int .u8 x).wf = true) → ∃ k, laws_FnFolded.f k l0 l1 = some true
theorem laws_FnFolded.walk (P : laws_FnFolded.Pure) (a0 : Option Addr) (len0 cap0 : Nat) (z0 : List Int) (a1 : Option Addr) (len1 cap1 : Nat) (z1 : List Int) (w : World) (w0 : (a0 = none ∧ len0 = 0 ∧ cap0 = 0 ∧ z0 = []) ∨ ∃ x, a0 = some x ∧ len0 ≤ cap0 ∧ cap0 ≤ maxLen ∧ z0.length = cap0 ∧ (∀ i, i < z0.length → w.cell? (x.add i) = some (.int .u8 (z0.getD i 0))) ∧ ∀ n ∈ z0, (Lit.int .u8 n).wf = true) (y0 : len0 * 1 ≤ 140737488351232) (w1 : (a1 = none ∧ len1 = 0 ∧ cap1 = 0 ∧ z1 = []) ∨ ∃ x, a1 = some x ∧ len1 ≤ cap1 ∧ cap1 ≤ maxLen ∧ z1.length = cap1 ∧ (∀ i, i < z1.length → w.cell? (x.add i) = some (.int .u8 (z1.getD i 0))) ∧ ∀ n ∈ z1, (Lit.int .u8 n).wf = true) (y1 : len1 * 1 ≤ 140737488351232) :
  Calls Try.prog 3 #[.slice a0 len0 cap0, .slice a1 len1 cap1] w fun e w' => e = .returned (.bool true) ∧ Below w.heap.size w w' := by
 obtain ⟨l0, rfl, hr0, hm0, hw0, hc0⟩ := ReadsInt.ofRowC w0
 obtain ⟨l1, rfl, hr1, hm1, hw1, hc1⟩ := ReadsInt.ofRowC w1
 obtain ⟨k, h⟩ := P l0 l1 hm0 y0 hw0 hm1 y1 hw1
 refine (laws_FnFolded.calls k _ _ l0 _ _ l1 true w (Kd.C_of_reads (d := (0 : Int)) (h1 := fun _ => rfl) hr0) hc0 (Kd.C_of_reads (d := (0 : Int)) (h1 := fun _ => rfl) hr1) hc1 h).mono ?_
 rintro e w' ⟨rfl, hd⟩
 exact ⟨rfl, hd⟩

end Go.Proofs.Ytmhalgeoaccchaa.PFnFolded
