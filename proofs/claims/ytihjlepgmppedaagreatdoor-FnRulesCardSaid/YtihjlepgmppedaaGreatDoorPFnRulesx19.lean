-- Laid for this claim by wip/tools/print2.sh, a changed copy of the kit's print (wip/tools/patch_print.py): not by print.sh. Changed by wip/fix/laid.py.
import Derived.Test.YtihjlepgmppedaaGreatDoorPFnRulesx17
import Derived.Test.YtihjlepgmppedaaGreatDoorPFnRulesx18
import Derived.Test.YtihjlepgmppedaaGreatDoorVFnRules
namespace Go.Proofs.YtihjlepgmppedaaGreatDoor.PFnRules
open Go.RowKit Go.Proofs.YtihjlepgmppedaaGreatDoorW.PrintWords Go.Proofs.YtihjlepgmppedaaGreatDoorW.PrintLast Go.Proofs.YtihjlepgmppedaaGreatDoorW.PrintMore
set_option linter.unusedVariables false
set_option linter.unusedSimpArgs false
/-! The ways through a statement meet (Derived.Deep.Cut's go_cut), the frame said by a list: slots that are kept (1) and others. -/
def AllF (l : List Value) : List Nat → (List Value → Prop) → Prop :=
 l.rec (motive := fun _ => List Nat → (List Value → Prop) → Prop) (fun _ p => p []) fun c _ ih m p => m.rec (motive := fun _ => Prop) (∀ u, ih [] fun t => p (u :: t)) fun b m' _ => b.rec (motive := fun _ => Prop) (∀ u, ih m' fun t => p (u :: t)) fun _ _ => ih m' fun t => p (c :: t)
def Fits (l : List Value) : List Nat → List Value → Prop :=
 l.rec (motive := fun _ => List Nat → List Value → Prop) (fun _ us => us = []) fun c _ ih m us => us.rec (motive := fun _ => Prop) False fun u us' _ => m.rec (motive := fun _ => Prop) (ih [] us') fun b m' _ => b.rec (motive := fun _ => Prop) (ih m' us') fun _ _ => u = c ∧ ih m' us'
theorem allF : ∀ (l : List Value) (m : List Nat) (p : List Value → Prop), AllF l m p → ∀ us, Fits l m us → p us
 | [], _, _, h, us, f => by cases (show us = [] from f); exact h
 | c :: l, [], p, h, us, f => by
  cases us with
  | nil => exact False.elim f
  | cons u us => exact allF l [] (fun t => p (u :: t)) (h u) us f
 | c :: l, 0 :: m, p, h, us, f => by
  cases us with
  | nil => exact False.elim f
  | cons u us => exact allF l m (fun t => p (u :: t)) (h u) us f
 | c :: l, (_ + 1) :: m, p, h, us, f => by
  cases us with
  | nil => exact False.elim f
  | cons u us =>
   obtain ⟨rfl, f⟩ := f
   exact allF l m (fun t => p (u :: t)) h us f
theorem wp_cutF {P : Program} {s : Code} {K : Act → World → Prop} {Q' : Exit → Act → World → Prop} {l : List Value} {d : List Deferred} {w : World} (m : List Nat) (R : List Value → World → Prop)
 (first : ∀ (J K' : Act → World → Prop), (∀ us w', Fits l m us → R us w' → J ⟨us.toArray, d⟩ w') → (∀ a' w', Met J a' w' → K' a' w') → s.wp P (Exit.then K' Q') ⟨l.toArray, d⟩ w)
 (rest : AllF l m fun us => Aside0 (∀ w', R us w' → K ⟨us.toArray, d⟩ w')) : s.wp P (Exit.then K Q') ⟨l.toArray, d⟩ w :=
 wp_cut (fun a' w' => ∃ us, a' = ⟨us.toArray, d⟩ ∧ Fits l m us ∧ R us w') (fun _ _ ⟨us, e, f, h⟩ => e ▸ (allF l m _ rest us f).out _ h) fun J K' hJ hK => first J K' (fun us w' f h => hJ _ w' ⟨us, rfl, f, h⟩) hK
theorem tn_ {a b : Bool} (h : (a != b) = true) : decide (a = b) = false ∧ (a == b) = false ∧ ¬ a = b := by cases a <;> cases b <;> simp_all
theorem tm_ {a b : Bool} (h : (a != b) = false) : decide (a = b) = true ∧ (a == b) = true := by cases a <;> cases b <;> simp_all
theorem mt_ {J : Act → World → Prop} {l us : List Value} {m : List Nat} {d : List Deferred} {w' : World} {R : List Value → World → Prop} (hJ : ∀ us w', Fits l m us → R us w' → J ⟨us.toArray, d⟩ w') (h : R us w') (f : Fits l m us := by repeat (first | exact rfl | refine And.intro rfl ?_)) : Met J ⟨us.toArray, d⟩ w' := hJ us w' f h

/-! ### laws_FnRules: function 3 -/
mutual
def laws_FnRules.j0 : Nat → List (S73) → ByteArray → Bool → ByteArray → ByteArray → List (S73) → Bool → List (S73) → Int → Int → Bool → Int → Int → Bool → Option (Bool)
 | 0, _, _, _, _, _, _, _, _, _, _, _, _, _, _ => none
 | k + 1, x5, x6, x7, x8, x10, x11, x12, x13, x17, x20, x22, x23, x27, x194 => if x194 = true then (some false) else (if x12 = true then ((impl_RuleText.f k x11).bind fun bt613 => ((impl_ParseRule.f k bt613.1).bind fun bt615 => (laws_FnRules.l0 k x5 x6 x7 x8 x10 x13 x17 x20 x22 x23 x27 bt613.1 bt613.2 bt615.1 bt615.2 1 0))) else (laws_FnRules.j2 k x5 x6 x7 x8 x20 x22 x23 x27))
def laws_FnRules.j2 : Nat → List (S73) → ByteArray → Bool → ByteArray → Int → Bool → Int → Int → Option (Bool)
 | 0, _, _, _, _, _, _, _, _ => none
 | k + 1, x5, x6, x7, x8, x20, x22, x23, x27 => if x22 = true then (if x23 < 1 then (laws_FnRules.j3 k x5 x6 x7 x8 x27 true) else (laws_FnRules.j3 k x5 x6 x7 x8 x27 (decide (x23 > (wrap64 (x20 + 1)))))) else (laws_FnRules.j3 k x5 x6 x7 x8 x27 false)
def laws_FnRules.j3 : Nat → List (S73) → ByteArray → Bool → ByteArray → Int → Bool → Option (Bool)
 | 0, _, _, _, _, _, _ => none
 | k + 1, x5, x6, x7, x8, x27, x252 => if x252 = true then (some false) else (if x7 = true then (laws_FnRules.j4 k x5 x6 x27 (decide ((x8.size : Int) > 600))) else (laws_FnRules.j4 k x5 x6 x27 true))
def laws_FnRules.j4 : Nat → List (S73) → ByteArray → Int → Bool → Option (Bool)
 | 0, _, _, _, _ => none
 | k + 1, x5, x6, x27, x259 => if x259 = true then (some true) else ((impl_ParseRule.f k x6).bind fun bt620 => (if bt620.2 = true then ((laws_qParts.f k bt620.1 x5).bind fun t624 => (if t624 = true then (if x27 ≤ 12 then (some (decide (x27 ≥ 1))) else (some false)) else (some false))) else (some false)))
def laws_FnRules.l0 : Nat → List (S73) → ByteArray → Bool → ByteArray → ByteArray → List (S73) → Int → Int → Bool → Int → Int → ByteArray → Bool → List (S73) → Bool → Int → Int → Option (Bool)
 | 0, _, _, _, _, _, _, _, _, _, _, _, _, _, _, _, _, _ => none
 | k + 1, x5, x6, x7, x8, x10, x13, x17, x20, x22, x23, x27, x33, x34, x35, x36, x37, x38 => if x38 < (x10.size : Int) then (if 0 ≤ x38 then (if (bt x10 x38) = 32 then (laws_FnRules.l0 k x5 x6 x7 x8 x10 x13 x17 x20 x22 x23 x27 x33 x34 x35 x36 (wrap64 (x37 + 1)) (wrap64 (x38 + 1))) else (laws_FnRules.l0 k x5 x6 x7 x8 x10 x13 x17 x20 x22 x23 x27 x33 x34 x35 x36 x37 (wrap64 (x38 + 1)))) else (none)) else (if x34 = true then (if x36 = true then ((laws_qParts.f k x35 x13).bind fun t619 => (if t619 = true then (if x17 = x37 then (if (x33.size : Int) > (x10.size : Int) then (some false) else (laws_FnRules.j2 k x5 x6 x7 x8 x20 x22 x23 x27)) else (some false)) else (some false))) else (some false)) else (some false))
end
def laws_FnRules.f (k : Nat) (l0 : List Int) (l1 : List Int) : Option (Bool) := if (wrap64 ((l0.length : Int) + (l1.length : Int))) > 1048576 then (some true) else ((spec_DrawRuleText.f k l0).bind fun t569 => ((impl_RuleText.f k t569).bind fun bt572 => ((spec_RuleText.f k t569).bind fun bt574 => ((spec_DrawParseRule.f k l1).bind fun t576 => ((impl_ParseRule.f k t576).bind fun bt577 => ((spec_ParseRule.f k t576).bind fun bt581 => ((impl_RightWords.f k t576).bind fun bt585 => ((spec_RightWords.f k t576).bind fun bt587 => ((spec_DrawSizeOfPart.f k l1).bind fun bt589 => ((impl_SizeOfPart.f k bt589.1 bt589.2).bind fun bt593 => ((spec_SizeOfPart.f k bt589.1 bt589.2).bind fun bt595 => ((impl_DepthOfRule.f k t569).bind fun bt597 => ((spec_DepthOfRule.f k t569).bind fun bt599 => ((impl_FieldsOfRule.f k t569).bind fun bt601 => ((spec_FieldsOfRule.f k t569).bind fun bt605 => (if (bt572.2 != bt574.2) = true then (laws_FnRules.j0 k t569 bt572.1 bt572.2 bt574.1 t576 bt577.1 bt577.2 bt581.1 bt587.1 bt589.2 bt593.2 bt595.1 bt599.1 true) else (if bt572.1.toList = bt574.1.toList then (if (bt577.2 != bt581.2) = true then (laws_FnRules.j0 k t569 bt572.1 bt572.2 bt574.1 t576 bt577.1 bt577.2 bt581.1 bt587.1 bt589.2 bt593.2 bt595.1 bt599.1 true) else ((laws_qParts.f k bt577.1 bt581.1).bind fun t609 => (if t609 = true then (if (bt585.2 != bt587.2) = true then (laws_FnRules.j0 k t569 bt572.1 bt572.2 bt574.1 t576 bt577.1 bt577.2 bt581.1 bt587.1 bt589.2 bt593.2 bt595.1 bt599.1 true) else (if bt585.1 = bt587.1 then (if (bt593.2 != bt595.2) = true then (laws_FnRules.j0 k t569 bt572.1 bt572.2 bt574.1 t576 bt577.1 bt577.2 bt581.1 bt587.1 bt589.2 bt593.2 bt595.1 bt599.1 true) else (if bt593.1 = bt595.1 then (if (bt597.2 != bt599.2) = true then (laws_FnRules.j0 k t569 bt572.1 bt572.2 bt574.1 t576 bt577.1 bt577.2 bt581.1 bt587.1 bt589.2 bt593.2 bt595.1 bt599.1 true) else (if bt597.1 = bt599.1 then (if (bt601.2 != bt605.2) = true then (laws_FnRules.j0 k t569 bt572.1 bt572.2 bt574.1 t576 bt577.1 bt577.2 bt581.1 bt587.1 bt589.2 bt593.2 bt595.1 bt599.1 true) else ((laws_qInts.f k bt601.1 bt605.1).bind fun t610 => (if t610 = true then ((impl_IsRule.f k t569).bind fun t611 => ((spec_IsRule.f k t569).bind fun t612 => (if (t611 != t612) = true then (laws_FnRules.j0 k t569 bt572.1 bt572.2 bt574.1 t576 bt577.1 bt577.2 bt581.1 bt587.1 bt589.2 bt593.2 bt595.1 bt599.1 true) else (if (bt597.2 != bt572.2) = true then (laws_FnRules.j0 k t569 bt572.1 bt572.2 bt574.1 t576 bt577.1 bt577.2 bt581.1 bt587.1 bt589.2 bt593.2 bt595.1 bt599.1 true) else (laws_FnRules.j0 k t569 bt572.1 bt572.2 bt574.1 t576 bt577.1 bt577.2 bt581.1 bt587.1 bt589.2 bt593.2 bt595.1 bt599.1 (bt601.2 != bt572.2)))))) else (laws_FnRules.j0 k t569 bt572.1 bt572.2 bt574.1 t576 bt577.1 bt577.2 bt581.1 bt587.1 bt589.2 bt593.2 bt595.1 bt599.1 true)))) else (laws_FnRules.j0 k t569 bt572.1 bt572.2 bt574.1 t576 bt577.1 bt577.2 bt581.1 bt587.1 bt589.2 bt593.2 bt595.1 bt599.1 true))) else (laws_FnRules.j0 k t569 bt572.1 bt572.2 bt574.1 t576 bt577.1 bt577.2 bt581.1 bt587.1 bt589.2 bt593.2 bt595.1 bt599.1 true))) else (laws_FnRules.j0 k t569 bt572.1 bt572.2 bt574.1 t576 bt577.1 bt577.2 bt581.1 bt587.1 bt589.2 bt593.2 bt595.1 bt599.1 true))) else (laws_FnRules.j0 k t569 bt572.1 bt572.2 bt574.1 t576 bt577.1 bt577.2 bt581.1 bt587.1 bt589.2 bt593.2 bt595.1 bt599.1 true)))) else (laws_FnRules.j0 k t569 bt572.1 bt572.2 bt574.1 t576 bt577.1 bt577.2 bt581.1 bt587.1 bt589.2 bt593.2 bt595.1 bt599.1 true))))))))))))))))))
set_option maxHeartbeats 60000000 in
set_option maxRecDepth 100000 in
theorem laws_FnRules.calls (k : Nat) (A0 : Option Addr) (c0 : Nat) (l0 : List Int) (A1 : Option Addr) (c1 : Nat) (l1 : List Int) (r : Bool) (w : World) (hr0 : Kd.C (Kd.int .u8) w A0 l0.length l0) (hc0 : l0.length ≤ c0) (hr1 : Kd.C (Kd.int .u8) w A1 l1.length l1) (hc1 : l1.length ≤ c1) (h : laws_FnRules.f k l0 l1 = some r) (hL : LaidW w) :
  Calls Tryz.prog 3 #[.slice A0 l0.length c0, .slice A1 l1.length c1] w fun e w' => e = .returned (.bool r) ∧ Below w.heap.size w w' := by
 have HLw := am_ hL
 clear hL
 have HR0 := am_ hr0
 have HC0 := am_ hc0
 clear hr0 hc0
 have HR1 := am_ hr1
 have HC1 := am_ hc1
 clear hr1 hc1
 have HB := am_ (Below.refl w.heap.size w)
 have H := h
 unfold laws_FnRules.f at H
 clear h
 by_cases c3 : (wrap64 ((l0.length : Int) + (l1.length : Int))) > 1048576
 ·rw [if_pos c3] at H
  have c3b0 : decide (1048576 < (wrap64 ((l0.length : Int) + (l1.length : Int)))) = true := decide_eq_true c3
  clear c3
  obtain rfl := Option.some.inj H
  go_enter Tryz.func3, Tryz.ntmps3
  go_wp2
  go_ret
  exact ad_ (hb_ HB)
 rw [if_neg c3] at H
 have c3b0 : decide (1048576 < (wrap64 ((l0.length : Int) + (l1.length : Int)))) = false := decide_eq_false c3
 clear c3
 revert H; refine bn_ ?_; rintro t569 A4 H; try dsimp only at H
 revert H; refine bn_ ?_; rintro ⟨t572, t573⟩ A5 H; try dsimp only at H
 revert H; refine bn_ ?_; rintro ⟨t574, t575⟩ A6 H; try dsimp only at H
 revert H; refine bn_ ?_; rintro t576 A7 H; try dsimp only at H
 revert H; refine bn_ ?_; rintro ⟨t577, t578⟩ A8 H; try dsimp only at H
 revert H; refine bn_ ?_; rintro ⟨t581, t582⟩ A9 H; try dsimp only at H
 revert H; refine bn_ ?_; rintro ⟨t585, t586⟩ A10 H; try dsimp only at H
 revert H; refine bn_ ?_; rintro ⟨t587, t588⟩ A11 H; try dsimp only at H
 revert H; refine bn_ ?_; rintro ⟨t589, t590⟩ A12 H; try dsimp only at H
 revert H; refine bn_ ?_; rintro ⟨t593, t594⟩ A13 H; try dsimp only at H
 revert H; refine bn_ ?_; rintro ⟨t595, t596⟩ A14 H; try dsimp only at H
 revert H; refine bn_ ?_; rintro ⟨t597, t598⟩ A15 H; try dsimp only at H
 revert H; refine bn_ ?_; rintro ⟨t599, t600⟩ A16 H; try dsimp only at H
 revert H; refine bn_ ?_; rintro ⟨t601, t602⟩ A17 H; try dsimp only at H
 revert H; refine bn_ ?_; rintro ⟨t605, t606⟩ A18 H; try dsimp only at H
 have HC19 := am_ H
 clear H
 go_enter Tryz.func3, Tryz.ntmps3
 go_upto_region 18 with (first | ((with_reducible refine gk_ 4 ?_); refine gq_ 48 Tryz.func4 #[.slice A0 l0.length c0] ?_; (with_reducible refine (spec_DrawRuleText.calls k _ _ l0 t569 _ ?side1 ?_ A4.out).mono ?_); (case side1 => repeat (first | exact HR0.out | (with_reducible refine Kd.C_alloc ?_ _) | (with_reducible refine Kd.C_drewN ?_ _) | (with_reducible refine Kd.C_drew ?_))); exact HC0.out; rintro e w20 ⟨v570, rfl, ho0, hb⟩; refine ⟨_, rfl, ?_⟩; have HO571 := Kd.R_lo ho0 HB; replace HB := hbs_ HB hb; obtain ⟨Ao21, co21, eo21⟩ := Kd.R_slice HO571.out; subst eo21) | ((with_reducible refine gk_ 5 ?_); refine gq_ 51 Tryz.func5 #[.slice Ao21 t569.length co21] ?_; (with_reducible refine (impl_RuleText.calls k _ _ t569 t572 t573 _ ?_ ?_ A5.out (by exact LaidW.step HLw (hb_ HB))).mono ?_); exact Kd.C_o HO571; exact (Kd.R_reads' HO571.out).2.1; rintro e w22 ⟨rfl, hb⟩; refine ⟨_, rfl, ?_⟩; replace HO571 := Kd.R_b HO571 hb; replace HB := hbs_ HB hb) | ((with_reducible refine gk_ 6 ?_); refine gq_ 56 Tryz.func6 #[.slice Ao21 t569.length co21] ?_; (with_reducible refine (spec_RuleText.calls k _ _ t569 t574 t575 _ ?_ ?_ A6.out).mono ?_); exact Kd.C_o HO571; exact (Kd.R_reads' HO571.out).2.1; rintro e w23 ⟨rfl, hb⟩; refine ⟨_, rfl, ?_⟩; replace HO571 := Kd.R_b HO571 hb; replace HB := hbs_ HB hb) | ((with_reducible refine gk_ 7 ?_); refine gq_ 60 Tryz.func7 #[.slice A1 l1.length c1] ?_; (with_reducible refine (spec_DrawParseRule.calls k _ _ l1 t576 _ ?_ ?_ A7.out).mono ?_); exact Kd.C_w HR1 HB; exact HC1.out; rintro e w24 ⟨rfl, hb⟩; refine ⟨_, rfl, ?_⟩; replace HO571 := Kd.R_b HO571 hb; replace HB := hbs_ HB hb) | ((with_reducible refine gk_ 8 ?_); refine gq_ 63 Tryz.func8 #[.string t576] ?_; (with_reducible refine (impl_ParseRule.calls k t576 t577 t578 _ A8.out (by exact LaidW.step HLw (hb_ HB))).mono ?_); rintro e w25 ⟨v579, rfl, ho0, hb⟩; refine ⟨_, rfl, ?_⟩; have HO580 := Kd.R_lo (Kd.R_nw ho0 HO571) HB; replace HO571 := Kd.R_e HO571 ho0 hb; replace HB := hbs_ HB hb) | ((with_reducible refine gk_ 9 ?_); refine gq_ 68 Tryz.func9 #[.string t576] ?_; (with_reducible refine (spec_ParseRule.calls k t576 t581 t582 _ A9.out).mono ?_); rintro e w26 ⟨v583, rfl, ho0, hb⟩; refine ⟨_, rfl, ?_⟩; have HO584 := Kd.R_lo (Kd.R_nw (Kd.R_nw ho0 HO571) HO580) HB; replace HO571 := Kd.R_e HO571 ho0 hb; replace HO580 := Kd.R_e HO580 ho0 hb; replace HB := hbs_ HB hb) | ((with_reducible refine gk_ 10 ?_); refine gq_ 73 Tryz.func10 #[.string t576] ?_; (with_reducible refine (impl_RightWords.calls k t576 t585 t586 _ A10.out (by exact LaidW.step HLw (hb_ HB))).mono ?_); rintro e w27 ⟨rfl, hb⟩; refine ⟨_, rfl, ?_⟩; replace HO571 := Kd.R_b HO571 hb; replace HO580 := Kd.R_b HO580 hb; replace HO584 := Kd.R_b HO584 hb; replace HB := hbs_ HB hb) | ((with_reducible refine gk_ 11 ?_); refine gq_ 78 Tryz.func11 #[.string t576] ?_; (with_reducible refine (spec_RightWords.calls k t576 t587 t588 _ A11.out).mono ?_); rintro e w28 ⟨rfl, hb⟩; refine ⟨_, rfl, ?_⟩; replace HO571 := Kd.R_b HO571 hb; replace HO580 := Kd.R_b HO580 hb; replace HO584 := Kd.R_b HO584 hb; replace HB := hbs_ HB hb) | ((with_reducible refine gk_ 12 ?_); refine gq_ 83 Tryz.func12 #[.slice A1 l1.length c1] ?_; (with_reducible refine (spec_DrawSizeOfPart.calls k _ _ l1 t589 t590 _ ?_ ?_ A12.out).mono ?_); exact Kd.C_w HR1 HB; exact HC1.out; rintro e w29 ⟨v591, rfl, ho0, hb⟩; refine ⟨_, rfl, ?_⟩; have HO592 := Kd.R_lo (Kd.R_nw (Kd.R_nw (Kd.R_nw ho0 HO571) HO580) HO584) HB; replace HO571 := Kd.R_e HO571 ho0 hb; replace HO580 := Kd.R_e HO580 ho0 hb; replace HO584 := Kd.R_e HO584 ho0 hb; replace HB := hbs_ HB hb; obtain ⟨Ao30, co30, eo30⟩ := Kd.R_slice HO592.out; subst eo30) | ((with_reducible refine gk_ 13 ?_); refine gq_ 89 Tryz.func13 #[.slice Ao30 t589.length co30, .int .i64 t590] ?_; (with_reducible refine (impl_SizeOfPart.calls k _ _ t589 t590 t593 t594 _ ?_ ?_ A13.out).mono ?_); exact Kd.C_o HO592; exact (Kd.R_reads' HO592.out).2.1; rintro e w31 ⟨rfl, hb⟩; refine ⟨_, rfl, ?_⟩; replace HO571 := Kd.R_b HO571 hb; replace HO580 := Kd.R_b HO580 hb; replace HO584 := Kd.R_b HO584 hb; replace HO592 := Kd.R_b HO592 hb; replace HB := hbs_ HB hb) | ((with_reducible refine gk_ 14 ?_); refine gq_ 95 Tryz.func14 #[.slice Ao30 t589.length co30, .int .i64 t590] ?_; (with_reducible refine (spec_SizeOfPart.calls k _ _ t589 t590 t595 t596 _ ?_ ?_ A14.out).mono ?_); exact Kd.C_o HO592; exact (Kd.R_reads' HO592.out).2.1; rintro e w32 ⟨rfl, hb⟩; refine ⟨_, rfl, ?_⟩; replace HO571 := Kd.R_b HO571 hb; replace HO580 := Kd.R_b HO580 hb; replace HO584 := Kd.R_b HO584 hb; replace HO592 := Kd.R_b HO592 hb; replace HB := hbs_ HB hb; try clear HO592) | ((with_reducible refine gk_ 15 ?_); refine gq_ 100 Tryz.func15 #[.slice Ao21 t569.length co21] ?_; (with_reducible refine (impl_DepthOfRule.calls k _ _ t569 t597 t598 _ ?_ ?_ A15.out).mono ?_); exact Kd.C_o HO571; exact (Kd.R_reads' HO571.out).2.1; rintro e w33 ⟨rfl, hb⟩; refine ⟨_, rfl, ?_⟩; replace HO571 := Kd.R_b HO571 hb; replace HO580 := Kd.R_b HO580 hb; replace HO584 := Kd.R_b HO584 hb; replace HB := hbs_ HB hb) | ((with_reducible refine gk_ 16 ?_); refine gq_ 105 Tryz.func16 #[.slice Ao21 t569.length co21] ?_; (with_reducible refine (spec_DepthOfRule.calls k _ _ t569 t599 t600 _ ?_ ?_ A16.out).mono ?_); exact Kd.C_o HO571; exact (Kd.R_reads' HO571.out).2.1; rintro e w34 ⟨rfl, hb⟩; refine ⟨_, rfl, ?_⟩; replace HO571 := Kd.R_b HO571 hb; replace HO580 := Kd.R_b HO580 hb; replace HO584 := Kd.R_b HO584 hb; replace HB := hbs_ HB hb) | ((with_reducible refine gk_ 17 ?_); refine gq_ 110 Tryz.func17 #[.slice Ao21 t569.length co21] ?_; (with_reducible refine (impl_FieldsOfRule.calls k _ _ t569 t601 t602 _ ?_ ?_ A17.out).mono ?_); exact Kd.C_o HO571; exact (Kd.R_reads' HO571.out).2.1; rintro e w35 ⟨v603, rfl, ho0, hb⟩; refine ⟨_, rfl, ?_⟩; have HO604 := Kd.R_lo ho0 HB; replace HO571 := Kd.R_b HO571 hb; replace HO580 := Kd.R_b HO580 hb; replace HO584 := Kd.R_b HO584 hb; replace HB := hbs_ HB hb) | ((with_reducible refine gk_ 18 ?_); refine gq_ 115 Tryz.func18 #[.slice Ao21 t569.length co21] ?_; (with_reducible refine (spec_FieldsOfRule.calls k _ _ t569 t605 t606 _ ?_ ?_ A18.out).mono ?_); exact Kd.C_o HO571; exact (Kd.R_reads' HO571.out).2.1; rintro e w36 ⟨v607, rfl, ho0, hb⟩; refine ⟨_, rfl, ?_⟩; have HO608 := Kd.R_lo (Kd.R_nw ho0 HO604) HB; replace HO571 := Kd.R_b HO571 hb; replace HO580 := Kd.R_b HO580 hb; replace HO584 := Kd.R_b HO584 hb; replace HO604 := Kd.R_e HO604 ho0 hb; replace HB := hbs_ HB hb))
 (try simp only [Act.put, List.setIfInBounds_toArray, List.set_cons_zero, List.set_cons_succ])
 refine wp_cutF [1,1,1,1,1,1,1,1,1,1,1,1,1,1,1,1,1,1,1,1,1,1,1,1,1,1,1,1,1,1,1,1,1,1,1,1,1,1,1,1,1] (fun us wc => ∃ v194 : Value, us[194]? = some v194 ∧ ∃ (kq : Nat) (x194_18 : Bool), v194 = .bool x194_18 ∧ Aside0 (laws_FnRules.j0 kq t569 t572 t573 t574 t576 t577 t578 t581 t587 t590 t594 t595 t599 x194_18 = some r) ∧ Aside0 (kq ≤ k) ∧ Aside0 (Kd.R k73 73 wc w.heap.size (fun k_ => some k_ ≠ (v579 : Value).ownBlock ∧ some k_ ≠ (v583 : Value).ownBlock) (.slice Ao21 t569.length co21) t569) ∧ Aside0 (Kd.R k73 73 wc w.heap.size (fun k_ => some k_ ≠ ((.slice Ao21 t569.length co21) : Value).ownBlock ∧ some k_ ≠ (v583 : Value).ownBlock) v579 t577) ∧ Aside0 (Kd.R k73 73 wc w.heap.size (fun k_ => some k_ ≠ ((.slice Ao21 t569.length co21) : Value).ownBlock ∧ some k_ ≠ (v579 : Value).ownBlock) v583 t581) ∧ Aside0 (Below w.heap.size w wc)) ?first1 ?rest1
 case first1 =>
  intro J_ K_ hJ_ hK_
  have H := HC19.out
  clear HC19
  by_cases c37 : (t573 != t575) = true
  ·rw [if_pos c37] at H
   have c37b0 : (t573 != t575) = true := c37
   obtain ⟨c37b1, c37b2, c37b3⟩ := tn_ c37b0
   clear c37
   (first | rw [c37b0] | (simp only [i64_w, i32_w]; rw [c37b0]) | skip)
   have H' := am_ H
   clear H
   go_wp2
   refine mt_ hJ_ ⟨_, rfl, ?rel1⟩
   case rel1 => exact ⟨_, (true), sr_, H', ⟨by first | omega | exact Nat.le_refl _⟩, ⟨rm_ (h := HO571.out)⟩, ⟨rm_ (h := HO580.out)⟩, ⟨rm_ (h := HO584.out)⟩, ⟨hb_ HB⟩⟩
  rw [if_neg c37] at H
  have c37b0 : (t573 != t575) = false := by simpa using c37
  obtain ⟨c37b1, c37b2⟩ := tm_ c37b0
  clear c37
  (first | rw [c37b0] | (simp only [i64_w, i32_w]; rw [c37b0]) | skip)
  by_cases c38 : t572.toList = t574.toList
  ·rw [if_pos c38] at H
   have c38b0 : (t572.toList == t574.toList) = true := beq_iff_eq.mpr c38
   have c38b1 : (t572.toList != t574.toList) = false := bne_eq_false_iff_eq.mpr c38
   clear c38
   by_cases c39 : (t578 != t582) = true
   ·rw [if_pos c39] at H
    have c39b0 : (t578 != t582) = true := c39
    obtain ⟨c39b1, c39b2, c39b3⟩ := tn_ c39b0
    clear c39
    have H' := am_ H
    clear H
    go_wp2
    refine mt_ hJ_ ⟨_, rfl, ?rel2⟩
    case rel2 => exact ⟨_, (true), sr_, H', ⟨by first | omega | exact Nat.le_refl _⟩, ⟨rm_ (h := HO571.out)⟩, ⟨rm_ (h := HO580.out)⟩, ⟨rm_ (h := HO584.out)⟩, ⟨hb_ HB⟩⟩
   rw [if_neg c39] at H
   have c39b0 : (t578 != t582) = false := by simpa using c39
   obtain ⟨c39b1, c39b2⟩ := tm_ c39b0
   clear c39
   revert H; refine bn_ ?_; rintro t609 A40 H; try dsimp only at H
   by_cases c41 : t609 = true
   ·subst c41
    rw [if_pos rfl] at H
    by_cases c42 : (t586 != t588) = true
    ·rw [if_pos c42] at H
     have c42b0 : (t586 != t588) = true := c42
     obtain ⟨c42b1, c42b2, c42b3⟩ := tn_ c42b0
     clear c42
     have H' := am_ H
     clear H
     obtain ⟨Ao43, co43, eo43⟩ := Kd.R_slice HO580.out
     subst eo43
     obtain ⟨Ao44, co44, eo44⟩ := Kd.R_slice HO584.out
     subst eo44
     go_wp2_with (first | (go_at_call 19; (with_reducible refine (laws_qParts.calls k _ _ t577 _ _ t581 true _ ?_ ?_ ?_ ?_ A40.out).mono ?_); exact Kd.C_o HO580; exact (Kd.R_reads' HO580.out).2.1; exact Kd.C_o HO584; exact (Kd.R_reads' HO584.out).2.1; rintro e w' ⟨rfl, ⟨nd, rfl⟩⟩))
     refine mt_ hJ_ ⟨_, rfl, ?rel3⟩
     case rel3 => exact ⟨_, (true), sr_, H', ⟨by first | omega | exact Nat.le_refl _⟩, ⟨rm_ (h := HO571.out)⟩, ⟨rm_ (h := HO580.out)⟩, ⟨rm_ (h := HO584.out)⟩, ⟨hb_ HB⟩⟩
    rw [if_neg c42] at H
    have c42b0 : (t586 != t588) = false := by simpa using c42
    obtain ⟨c42b1, c42b2⟩ := tm_ c42b0
    clear c42
    by_cases c45 : t585 = t587
    ·refine ?z1_
     let rec p1_ : type_of% ?z1_ := by(
     rw [if_pos c45] at H
     have c45b0 : (t585 == t587) = true := beq_iff_eq.mpr c45
     have c45b1 : (t585 != t587) = false := bne_eq_false_iff_eq.mpr c45
     clear c45
     by_cases c46 : (t594 != t596) = true
     ·rw [if_pos c46] at H
      have c46b0 : (t594 != t596) = true := c46
      obtain ⟨c46b1, c46b2, c46b3⟩ := tn_ c46b0
      clear c46
      have H' := am_ H
      clear H
      obtain ⟨Ao47, co47, eo47⟩ := Kd.R_slice HO580.out
      subst eo47
      obtain ⟨Ao48, co48, eo48⟩ := Kd.R_slice HO584.out
      subst eo48
      go_wp2_with (first | (go_at_call 19; (with_reducible refine (laws_qParts.calls k _ _ t577 _ _ t581 true _ ?_ ?_ ?_ ?_ A40.out).mono ?_); exact Kd.C_o HO580; exact (Kd.R_reads' HO580.out).2.1; exact Kd.C_o HO584; exact (Kd.R_reads' HO584.out).2.1; rintro e w' ⟨rfl, ⟨nd, rfl⟩⟩))
      refine mt_ hJ_ ⟨_, rfl, ?rel4⟩
      case rel4 => exact ⟨_, (true), sr_, H', ⟨by first | omega | exact Nat.le_refl _⟩, ⟨rm_ (h := HO571.out)⟩, ⟨rm_ (h := HO580.out)⟩, ⟨rm_ (h := HO584.out)⟩, ⟨hb_ HB⟩⟩
     rw [if_neg c46] at H
     have c46b0 : (t594 != t596) = false := by simpa using c46
     obtain ⟨c46b1, c46b2⟩ := tm_ c46b0
     clear c46
     by_cases c49 : t593 = t595
     ·rw [if_pos c49] at H
      have c49b0 : (t593 == t595) = true := beq_iff_eq.mpr c49
      have c49b1 : (t593 != t595) = false := bne_eq_false_iff_eq.mpr c49
      clear c49
      by_cases c50 : (t598 != t600) = true
      ·rw [if_pos c50] at H
       have c50b0 : (t598 != t600) = true := c50
       obtain ⟨c50b1, c50b2, c50b3⟩ := tn_ c50b0
       clear c50
       have H' := am_ H
       clear H
       obtain ⟨Ao51, co51, eo51⟩ := Kd.R_slice HO580.out
       subst eo51
       obtain ⟨Ao52, co52, eo52⟩ := Kd.R_slice HO584.out
       subst eo52
       go_wp2_with (first | (go_at_call 19; (with_reducible refine (laws_qParts.calls k _ _ t577 _ _ t581 true _ ?_ ?_ ?_ ?_ A40.out).mono ?_); exact Kd.C_o HO580; exact (Kd.R_reads' HO580.out).2.1; exact Kd.C_o HO584; exact (Kd.R_reads' HO584.out).2.1; rintro e w' ⟨rfl, ⟨nd, rfl⟩⟩))
       refine mt_ hJ_ ⟨_, rfl, ?rel5⟩
       case rel5 => exact ⟨_, (true), sr_, H', ⟨by first | omega | exact Nat.le_refl _⟩, ⟨rm_ (h := HO571.out)⟩, ⟨rm_ (h := HO580.out)⟩, ⟨rm_ (h := HO584.out)⟩, ⟨hb_ HB⟩⟩
      ·rw [if_neg c50] at H
       have c50b0 : (t598 != t600) = false := by simpa using c50
       obtain ⟨c50b1, c50b2⟩ := tm_ c50b0
       clear c50
       by_cases c53 : t597 = t599
       ·rw [if_pos c53] at H
        have c53b0 : (t597 == t599) = true := beq_iff_eq.mpr c53
        have c53b1 : (t597 != t599) = false := bne_eq_false_iff_eq.mpr c53
        clear c53
        by_cases c54 : (t602 != t606) = true
        ·rw [if_pos c54] at H
         have c54b0 : (t602 != t606) = true := c54
         obtain ⟨c54b1, c54b2, c54b3⟩ := tn_ c54b0
         clear c54
         have H' := am_ H
         clear H
         obtain ⟨Ao55, co55, eo55⟩ := Kd.R_slice HO580.out
         subst eo55
         obtain ⟨Ao56, co56, eo56⟩ := Kd.R_slice HO584.out
         subst eo56
         go_wp2_with (first | (go_at_call 19; (with_reducible refine (laws_qParts.calls k _ _ t577 _ _ t581 true _ ?_ ?_ ?_ ?_ A40.out).mono ?_); exact Kd.C_o HO580; exact (Kd.R_reads' HO580.out).2.1; exact Kd.C_o HO584; exact (Kd.R_reads' HO584.out).2.1; rintro e w' ⟨rfl, ⟨nd, rfl⟩⟩))
         refine mt_ hJ_ ⟨_, rfl, ?rel6⟩
         case rel6 => exact ⟨_, (true), sr_, H', ⟨by first | omega | exact Nat.le_refl _⟩, ⟨rm_ (h := HO571.out)⟩, ⟨rm_ (h := HO580.out)⟩, ⟨rm_ (h := HO584.out)⟩, ⟨hb_ HB⟩⟩
        rw [if_neg c54] at H
        have c54b0 : (t602 != t606) = false := by simpa using c54
        obtain ⟨c54b1, c54b2⟩ := tm_ c54b0
        clear c54
        revert H; refine bn_ ?_; rintro t610 A57 H; try dsimp only at H
        by_cases c58 : t610 = true
        ·refine ?z2_
         let rec p2_ : type_of% ?z2_ := by(
         subst c58
         rw [if_pos rfl] at H
         revert H; refine bn_ ?_; rintro t611 A59 H; try dsimp only at H
         revert H; refine bn_ ?_; rintro t612 A60 H; try dsimp only at H
         by_cases c61 : (t611 != t612) = true
         ·rw [if_pos c61] at H
          have c61b0 : (t611 != t612) = true := c61
          obtain ⟨c61b1, c61b2, c61b3⟩ := tn_ c61b0
          clear c61
          have H' := am_ H
          clear H
          obtain ⟨Ao62, co62, eo62⟩ := Kd.R_slice HO580.out
          subst eo62
          obtain ⟨Ao63, co63, eo63⟩ := Kd.R_slice HO584.out
          subst eo63
          go_wp2_with (first | (go_at_call 19; (with_reducible refine (laws_qParts.calls k _ _ t577 _ _ t581 true _ ?_ ?_ ?_ ?_ A40.out).mono ?_); exact Kd.C_o HO580; exact (Kd.R_reads' HO580.out).2.1; exact Kd.C_o HO584; exact (Kd.R_reads' HO584.out).2.1; rintro e w' ⟨rfl, ⟨nd, rfl⟩⟩; obtain ⟨Ao64, co64, eo64⟩ := Kd.R_slice HO604.out; subst eo64; obtain ⟨Ao65, co65, eo65⟩ := Kd.R_slice HO608.out; subst eo65) | (go_at_call 20; (with_reducible refine (laws_qInts.calls k _ _ t601 _ _ t605 true _ ?_ ?_ ?_ ?_ A57.out).mono ?_); exact Kd.C_o HO604; exact (Kd.R_reads' HO604.out).2.1; exact Kd.C_o HO608; exact (Kd.R_reads' HO608.out).2.1; rintro e w' ⟨rfl, ⟨nd, rfl⟩⟩; try clear HO604; try clear HO608) | (go_at_call 21; (with_reducible refine (impl_IsRule.calls k _ _ t569 t611 _ ?_ ?_ A59.out).mono ?_); exact Kd.C_o HO571; exact (Kd.R_reads' HO571.out).2.1; rintro e w66 ⟨rfl, hb⟩; replace HO571 := am_ (Kd.R_below (Kd.R_p HO571) hb); replace HO580 := am_ (Kd.R_below (Kd.R_p HO580) hb); replace HO584 := am_ (Kd.R_below (Kd.R_p HO584) hb); replace HB := am_ (below_step (hb_ HB) hb)) | (go_at_call 22; (with_reducible refine (spec_IsRule.calls k _ _ t569 t612 _ ?_ ?_ A60.out).mono ?_); exact Kd.C_o HO571; exact (Kd.R_reads' HO571.out).2.1; rintro e w67 ⟨rfl, hb⟩; replace HO571 := am_ (Kd.R_below (Kd.R_p HO571) hb); replace HO580 := am_ (Kd.R_below (Kd.R_p HO580) hb); replace HO584 := am_ (Kd.R_below (Kd.R_p HO584) hb); replace HB := am_ (below_step (hb_ HB) hb)))
          refine mt_ hJ_ ⟨_, rfl, ?rel7⟩
          case rel7 => exact ⟨_, (true), sr_, H', ⟨by first | omega | exact Nat.le_refl _⟩, ⟨rm_ (h := HO571.out)⟩, ⟨rm_ (h := HO580.out)⟩, ⟨rm_ (h := HO584.out)⟩, ⟨hb_ HB⟩⟩
         ·rw [if_neg c61] at H
          have c61b0 : (t611 != t612) = false := by simpa using c61
          obtain ⟨c61b1, c61b2⟩ := tm_ c61b0
          clear c61
          by_cases c68 : (t598 != t573) = true
          ·rw [if_pos c68] at H
           have c68b0 : (t598 != t573) = true := c68
           obtain ⟨c68b1, c68b2, c68b3⟩ := tn_ c68b0
           clear c68
           have H' := am_ H
           clear H
           obtain ⟨Ao69, co69, eo69⟩ := Kd.R_slice HO580.out
           subst eo69
           obtain ⟨Ao70, co70, eo70⟩ := Kd.R_slice HO584.out
           subst eo70
           go_wp2_with (first | (go_at_call 19; (with_reducible refine (laws_qParts.calls k _ _ t577 _ _ t581 true _ ?_ ?_ ?_ ?_ A40.out).mono ?_); exact Kd.C_o HO580; exact (Kd.R_reads' HO580.out).2.1; exact Kd.C_o HO584; exact (Kd.R_reads' HO584.out).2.1; rintro e w' ⟨rfl, ⟨nd, rfl⟩⟩; obtain ⟨Ao71, co71, eo71⟩ := Kd.R_slice HO604.out; subst eo71; obtain ⟨Ao72, co72, eo72⟩ := Kd.R_slice HO608.out; subst eo72) | (go_at_call 20; (with_reducible refine (laws_qInts.calls k _ _ t601 _ _ t605 true _ ?_ ?_ ?_ ?_ A57.out).mono ?_); exact Kd.C_o HO604; exact (Kd.R_reads' HO604.out).2.1; exact Kd.C_o HO608; exact (Kd.R_reads' HO608.out).2.1; rintro e w' ⟨rfl, ⟨nd, rfl⟩⟩; try clear HO604; try clear HO608) | (go_at_call 21; (with_reducible refine (impl_IsRule.calls k _ _ t569 t611 _ ?_ ?_ A59.out).mono ?_); exact Kd.C_o HO571; exact (Kd.R_reads' HO571.out).2.1; rintro e w73 ⟨rfl, hb⟩; replace HO571 := am_ (Kd.R_below (Kd.R_p HO571) hb); replace HO580 := am_ (Kd.R_below (Kd.R_p HO580) hb); replace HO584 := am_ (Kd.R_below (Kd.R_p HO584) hb); replace HB := am_ (below_step (hb_ HB) hb)) | (go_at_call 22; (with_reducible refine (spec_IsRule.calls k _ _ t569 t612 _ ?_ ?_ A60.out).mono ?_); exact Kd.C_o HO571; exact (Kd.R_reads' HO571.out).2.1; rintro e w74 ⟨rfl, hb⟩; replace HO571 := am_ (Kd.R_below (Kd.R_p HO571) hb); replace HO580 := am_ (Kd.R_below (Kd.R_p HO580) hb); replace HO584 := am_ (Kd.R_below (Kd.R_p HO584) hb); replace HB := am_ (below_step (hb_ HB) hb)))
           refine mt_ hJ_ ⟨_, rfl, ?rel8⟩
           case rel8 => exact ⟨_, (true), sr_, H', ⟨by first | omega | exact Nat.le_refl _⟩, ⟨rm_ (h := HO571.out)⟩, ⟨rm_ (h := HO580.out)⟩, ⟨rm_ (h := HO584.out)⟩, ⟨hb_ HB⟩⟩
          rw [if_neg c68] at H
          have c68b0 : (t598 != t573) = false := by simpa using c68
          obtain ⟨c68b1, c68b2⟩ := tm_ c68b0
          clear c68
          have H' := am_ H
          clear H
          obtain ⟨Ao75, co75, eo75⟩ := Kd.R_slice HO580.out
          subst eo75
          obtain ⟨Ao76, co76, eo76⟩ := Kd.R_slice HO584.out
          subst eo76
          go_wp2_with (first | (go_at_call 19; (with_reducible refine (laws_qParts.calls k _ _ t577 _ _ t581 true _ ?_ ?_ ?_ ?_ A40.out).mono ?_); exact Kd.C_o HO580; exact (Kd.R_reads' HO580.out).2.1; exact Kd.C_o HO584; exact (Kd.R_reads' HO584.out).2.1; rintro e w' ⟨rfl, ⟨nd, rfl⟩⟩; obtain ⟨Ao77, co77, eo77⟩ := Kd.R_slice HO604.out; subst eo77; obtain ⟨Ao78, co78, eo78⟩ := Kd.R_slice HO608.out; subst eo78) | (go_at_call 20; (with_reducible refine (laws_qInts.calls k _ _ t601 _ _ t605 true _ ?_ ?_ ?_ ?_ A57.out).mono ?_); exact Kd.C_o HO604; exact (Kd.R_reads' HO604.out).2.1; exact Kd.C_o HO608; exact (Kd.R_reads' HO608.out).2.1; rintro e w' ⟨rfl, ⟨nd, rfl⟩⟩; try clear HO604; try clear HO608) | (go_at_call 21; (with_reducible refine (impl_IsRule.calls k _ _ t569 t611 _ ?_ ?_ A59.out).mono ?_); exact Kd.C_o HO571; exact (Kd.R_reads' HO571.out).2.1; rintro e w79 ⟨rfl, hb⟩; replace HO571 := am_ (Kd.R_below (Kd.R_p HO571) hb); replace HO580 := am_ (Kd.R_below (Kd.R_p HO580) hb); replace HO584 := am_ (Kd.R_below (Kd.R_p HO584) hb); replace HB := am_ (below_step (hb_ HB) hb)) | (go_at_call 22; (with_reducible refine (spec_IsRule.calls k _ _ t569 t612 _ ?_ ?_ A60.out).mono ?_); exact Kd.C_o HO571; exact (Kd.R_reads' HO571.out).2.1; rintro e w80 ⟨rfl, hb⟩; replace HO571 := am_ (Kd.R_below (Kd.R_p HO571) hb); replace HO580 := am_ (Kd.R_below (Kd.R_p HO580) hb); replace HO584 := am_ (Kd.R_below (Kd.R_p HO584) hb); replace HB := am_ (below_step (hb_ HB) hb)))
          refine mt_ hJ_ ⟨_, rfl, ?rel9⟩
          case rel9 => exact ⟨_, ((t602 != t573)), sr_, H', ⟨by first | omega | exact Nat.le_refl _⟩, ⟨rm_ (h := HO571.out)⟩, ⟨rm_ (h := HO580.out)⟩, ⟨rm_ (h := HO584.out)⟩, ⟨hb_ HB⟩⟩
         )
         exact p2_
        replace c58 := Bool.eq_false_iff.mpr c58
        subst c58
        rw [if_neg (show ¬ (false = true) by decide)] at H
        have H' := am_ H
        clear H
        obtain ⟨Ao81, co81, eo81⟩ := Kd.R_slice HO580.out
        subst eo81
        obtain ⟨Ao82, co82, eo82⟩ := Kd.R_slice HO584.out
        subst eo82
        go_wp2_with (first | (go_at_call 19; (with_reducible refine (laws_qParts.calls k _ _ t577 _ _ t581 true _ ?_ ?_ ?_ ?_ A40.out).mono ?_); exact Kd.C_o HO580; exact (Kd.R_reads' HO580.out).2.1; exact Kd.C_o HO584; exact (Kd.R_reads' HO584.out).2.1; rintro e w' ⟨rfl, ⟨nd, rfl⟩⟩; obtain ⟨Ao83, co83, eo83⟩ := Kd.R_slice HO604.out; subst eo83; obtain ⟨Ao84, co84, eo84⟩ := Kd.R_slice HO608.out; subst eo84) | (go_at_call 20; (with_reducible refine (laws_qInts.calls k _ _ t601 _ _ t605 false _ ?_ ?_ ?_ ?_ A57.out).mono ?_); exact Kd.C_o HO604; exact (Kd.R_reads' HO604.out).2.1; exact Kd.C_o HO608; exact (Kd.R_reads' HO608.out).2.1; rintro e w' ⟨rfl, ⟨nd, rfl⟩⟩))
        refine mt_ hJ_ ⟨_, rfl, ?rel10⟩
        case rel10 => exact ⟨_, (true), sr_, H', ⟨by first | omega | exact Nat.le_refl _⟩, ⟨rm_ (h := HO571.out)⟩, ⟨rm_ (h := HO580.out)⟩, ⟨rm_ (h := HO584.out)⟩, ⟨hb_ HB⟩⟩
       rw [if_neg c53] at H
       have c53b0 : (t597 == t599) = false := beq_eq_false_iff_ne.mpr c53
       have c53b1 : (t597 != t599) = true := bne_iff_ne.mpr c53
       have H' := am_ H
       clear H
       obtain ⟨Ao85, co85, eo85⟩ := Kd.R_slice HO580.out
       subst eo85
       obtain ⟨Ao86, co86, eo86⟩ := Kd.R_slice HO584.out
       subst eo86
       go_wp2_with (first | (go_at_call 19; (with_reducible refine (laws_qParts.calls k _ _ t577 _ _ t581 true _ ?_ ?_ ?_ ?_ A40.out).mono ?_); exact Kd.C_o HO580; exact (Kd.R_reads' HO580.out).2.1; exact Kd.C_o HO584; exact (Kd.R_reads' HO584.out).2.1; rintro e w' ⟨rfl, ⟨nd, rfl⟩⟩))
       refine mt_ hJ_ ⟨_, rfl, ?rel11⟩
       case rel11 => exact ⟨_, (true), sr_, H', ⟨by first | omega | exact Nat.le_refl _⟩, ⟨rm_ (h := HO571.out)⟩, ⟨rm_ (h := HO580.out)⟩, ⟨rm_ (h := HO584.out)⟩, ⟨hb_ HB⟩⟩
     rw [if_neg c49] at H
     have c49b0 : (t593 == t595) = false := beq_eq_false_iff_ne.mpr c49
     have c49b1 : (t593 != t595) = true := bne_iff_ne.mpr c49
     have H' := am_ H
     clear H
     obtain ⟨Ao87, co87, eo87⟩ := Kd.R_slice HO580.out
     subst eo87
     obtain ⟨Ao88, co88, eo88⟩ := Kd.R_slice HO584.out
     subst eo88
     go_wp2_with (first | (go_at_call 19; (with_reducible refine (laws_qParts.calls k _ _ t577 _ _ t581 true _ ?_ ?_ ?_ ?_ A40.out).mono ?_); exact Kd.C_o HO580; exact (Kd.R_reads' HO580.out).2.1; exact Kd.C_o HO584; exact (Kd.R_reads' HO584.out).2.1; rintro e w' ⟨rfl, ⟨nd, rfl⟩⟩))
     refine mt_ hJ_ ⟨_, rfl, ?rel12⟩
     case rel12 => exact ⟨_, (true), sr_, H', ⟨by first | omega | exact Nat.le_refl _⟩, ⟨rm_ (h := HO571.out)⟩, ⟨rm_ (h := HO580.out)⟩, ⟨rm_ (h := HO584.out)⟩, ⟨hb_ HB⟩⟩
     )
     exact p1_
    rw [if_neg c45] at H
    have c45b0 : (t585 == t587) = false := beq_eq_false_iff_ne.mpr c45
    have c45b1 : (t585 != t587) = true := bne_iff_ne.mpr c45
    have H' := am_ H
    clear H
    obtain ⟨Ao89, co89, eo89⟩ := Kd.R_slice HO580.out
    subst eo89
    obtain ⟨Ao90, co90, eo90⟩ := Kd.R_slice HO584.out
    subst eo90
    go_wp2_with (first | (go_at_call 19; (with_reducible refine (laws_qParts.calls k _ _ t577 _ _ t581 true _ ?_ ?_ ?_ ?_ A40.out).mono ?_); exact Kd.C_o HO580; exact (Kd.R_reads' HO580.out).2.1; exact Kd.C_o HO584; exact (Kd.R_reads' HO584.out).2.1; rintro e w' ⟨rfl, ⟨nd, rfl⟩⟩))
    refine mt_ hJ_ ⟨_, rfl, ?rel13⟩
    case rel13 => exact ⟨_, (true), sr_, H', ⟨by first | omega | exact Nat.le_refl _⟩, ⟨rm_ (h := HO571.out)⟩, ⟨rm_ (h := HO580.out)⟩, ⟨rm_ (h := HO584.out)⟩, ⟨hb_ HB⟩⟩
   ·replace c41 := Bool.eq_false_iff.mpr c41
    subst c41
    rw [if_neg (show ¬ (false = true) by decide)] at H
    have H' := am_ H
    clear H
    obtain ⟨Ao91, co91, eo91⟩ := Kd.R_slice HO580.out
    subst eo91
    obtain ⟨Ao92, co92, eo92⟩ := Kd.R_slice HO584.out
    subst eo92
    go_wp2_with (first | (go_at_call 19; (with_reducible refine (laws_qParts.calls k _ _ t577 _ _ t581 false _ ?_ ?_ ?_ ?_ A40.out).mono ?_); exact Kd.C_o HO580; exact (Kd.R_reads' HO580.out).2.1; exact Kd.C_o HO584; exact (Kd.R_reads' HO584.out).2.1; rintro e w' ⟨rfl, ⟨nd, rfl⟩⟩))
    refine mt_ hJ_ ⟨_, rfl, ?rel14⟩
    case rel14 => exact ⟨_, (true), sr_, H', ⟨by first | omega | exact Nat.le_refl _⟩, ⟨rm_ (h := HO571.out)⟩, ⟨rm_ (h := HO580.out)⟩, ⟨rm_ (h := HO584.out)⟩, ⟨hb_ HB⟩⟩
  rw [if_neg c38] at H
  have c38b0 : (t572.toList == t574.toList) = false := beq_eq_false_iff_ne.mpr c38
  have c38b1 : (t572.toList != t574.toList) = true := bne_iff_ne.mpr c38
  have H' := am_ H
  clear H
  go_wp2
  refine mt_ hJ_ ⟨_, rfl, ?rel15⟩
  case rel15 => exact ⟨_, (true), sr_, H', ⟨by first | omega | exact Nat.le_refl _⟩, ⟨rm_ (h := HO571.out)⟩, ⟨rm_ (h := HO580.out)⟩, ⟨rm_ (h := HO584.out)⟩, ⟨hb_ HB⟩⟩
 case rest1 =>
  repeat intro _
  refine ⟨fun wc hcut => ?_⟩
  obtain ⟨v194, h194_, hcut⟩ := hcut; obtain rfl := Option.some.inj h194_
  clear HC19
  obtain ⟨kq, x194_18, rfl, HA, HJ18, HO_5, HO_11, HO_13, HB⟩ := hcut
  cases kq with
  | zero => exact absurd HA.out (by simp [laws_FnRules.j0])
  | succ kj18 => ?_
  have H := HA.out
  clear HA
  simp only [laws_FnRules.j0] at H
  by_cases c93 : x194_18 = true
  ·subst c93
   rw [if_pos rfl] at H
   obtain rfl := Option.some.inj H
   go_wp2
   go_ret
   exact ad_ (hb_ HB)
  replace c93 := Bool.eq_false_iff.mpr c93
  subst c93
  rw [if_neg (show ¬ (false = true) by decide)] at H
  have HC94 := am_ H
  clear H
  go_upto_if 195 with (fail)
  refine wp_cutF [1,1,1,1,0,1,1,1,1,1,1,1,1,1,1,1,1,1,1,1,1,1,1,1,1,1,1,1,1,1,1,1,1,0,0,0,0,0,0,1,1] (fun us wc => ∃ (kq : Nat), Aside0 (laws_FnRules.j2 kq t569 t572 t573 t574 t590 t594 t595 t599 = some r) ∧ Aside0 (kq ≤ kj18) ∧ Aside0 (Kd.R k73 73 wc w.heap.size (fun _ => True) (.slice Ao21 t569.length co21) t569) ∧ Aside0 (Below w.heap.size w wc)) ?first2 ?rest2
  case first2 =>
   refine ?z3_
   let rec p3_ : type_of% ?z3_ := by(
   intro J_ K_ hJ_ hK_
   have H := HC94.out
   clear HC94
   by_cases c95 : t578 = true
   case neg => replace c95 := Bool.eq_false_iff.mpr c95; subst c95; rw [if_neg (show ¬ (false = true) by decide)] at H; have H' := am_ H; clear H; go_wp2; refine mt_ hJ_ ?rel16; (case rel16 => exact ⟨_, H', ⟨by have := HJ18.out; first | omega | exact Nat.le_refl _⟩, ⟨rm_ (h := HO_5.out)⟩, ⟨hb_ HB⟩⟩)
   subst c95
   rw [if_pos rfl] at H
   revert H; refine bn_ ?_; rintro ⟨t613, t614⟩ A96 H; try dsimp only at H
   revert H; refine bn_ ?_; rintro ⟨t615, t616⟩ A97 H; try dsimp only at H
   have H' := am_ H
   clear H
   obtain ⟨Ao98, co98, eo98⟩ := Kd.R_slice HO_11.out
   subst eo98
   go_wp2_with (first | ((with_reducible refine gk_ 5 ?_); refine gq_ 198 Tryz.func5 #[.slice Ao98 t577.length co98] ?_; (with_reducible refine (impl_RuleText.calls kj18 _ _ t577 t613 t614 _ ?_ ?_ A96.out (by exact LaidW.step HLw (hb_ HB))).mono ?_); exact Kd.C_o HO_11; exact (Kd.R_reads' HO_11.out).2.1; rintro e w99 ⟨rfl, hb⟩; refine ⟨_, rfl, ?_⟩; replace HO_5 := Kd.R_b HO_5 hb; replace HO_11 := Kd.R_b HO_11 hb; replace HO_13 := Kd.R_b HO_13 hb; replace HB := hbs_ HB hb) | ((with_reducible refine gk_ 8 ?_); refine gq_ 203 Tryz.func8 #[.string t613] ?_; (with_reducible refine (impl_ParseRule.calls kj18 t613 t615 t616 _ A97.out (by exact LaidW.step HLw (hb_ HB))).mono ?_); rintro e w100 ⟨v617, rfl, ho0, hb⟩; refine ⟨_, rfl, ?_⟩; have HO618 := Kd.R_lo (Kd.R_nw (Kd.R_nw (Kd.R_nw ho0 HO_5) HO_11) HO_13) HB; replace HO_5 := Kd.R_e HO_5 ho0 hb; replace HO_11 := Kd.R_e HO_11 ho0 hb; replace HO_13 := Kd.R_e HO_13 ho0 hb; replace HB := hbs_ HB hb))
   go_loopg [37, 38] kj18 (fun kq v37 v38 w' => ∃ (x37_2 : Int) (x38_2 : Int), v37 = .int .i64 x37_2 ∧ v38 = .int .i64 x38_2 ∧ Aside0 (laws_FnRules.l0 kq t569 t572 t573 t574 t576 t581 t587 t590 t594 t595 t599 t613 t614 t615 t616 x37_2 x38_2 = some r) ∧ Aside0 (kq ≤ kj18) ∧ Aside0 (Kd.R k73 73 w' w.heap.size (fun k_ => some k_ ≠ (v583 : Value).ownBlock ∧ some k_ ≠ (v617 : Value).ownBlock) (.slice Ao21 t569.length co21) t569) ∧ Aside0 (Kd.R k73 73 w' w.heap.size (fun k_ => some k_ ≠ ((.slice Ao21 t569.length co21) : Value).ownBlock ∧ some k_ ≠ (v617 : Value).ownBlock) v583 t581) ∧ Aside0 (Kd.R k73 73 w' w.heap.size (fun k_ => some k_ ≠ ((.slice Ao21 t569.length co21) : Value).ownBlock ∧ some k_ ≠ (v583 : Value).ownBlock) v617 t615) ∧ Aside0 (Below w.heap.size w w'))
   case atStart => exact ⟨(1), (0), sr_, sr_, H', ⟨Nat.le_refl _⟩, ⟨rm_ (h := HO_5.out)⟩, ⟨rm_ (h := HO_13.out)⟩, ⟨rm_ (h := HO618.out)⟩, ⟨hb_ HB⟩⟩
   clear H'
   obtain ⟨x37_2, x38_2, rfl, rfl, HA, HK2, HO_5, HO_13, HO_35, HB⟩ := hrel
   cases gk with
   | zero => exact absurd HA.out (by simp [laws_FnRules.l0])
   | succ k2 => ?_
   have H := HA.out
   clear HA
   simp only [laws_FnRules.l0] at H
   by_cases c101 : x38_2 < (t576.size : Int)
   ·rw [if_pos c101] at H
    have c101b0 := decide_eq_true c101
    clear c101
    (first | rw [c101b0] | (simp only [i64_w, i32_w]; rw [c101b0]) | skip)
    revert H; refine pd_ fun c102b0 H => ?_
    by_cases c104 : (bt t576 x38_2) = 32
    ·rw [if_pos c104] at H
     have c104b0 : ((bt t576 x38_2) == 32) = true := beq_iff_eq.mpr c104
     have c104b1 : ((bt t576 x38_2) != 32) = false := bne_eq_false_iff_eq.mpr c104
     clear c104
     have H' := am_ H
     clear H
     have p103 : 0 ≤ (x38_2 : Int) := od_
     have q103 : x38_2 < (t576.size : Int) := od_
     have hx103 := bt_at t576 x38_2
     replace p103 := eq_true p103
     replace q103 := eq_true q103
     go_wp2
     go_roundg k2
     case measure => have := HJ18.out; have := HK2.out; omega
     case rel => exact ⟨(wrap64 (x37_2 + 1)), (wrap64 (x38_2 + 1)), sr_, sr_, H', ⟨by have := HJ18.out; have := HK2.out; omega⟩, ⟨Kd.R_p HO_5⟩, ⟨Kd.R_p HO_13⟩, ⟨Kd.R_p HO_35⟩, ⟨hb_ HB⟩⟩
    rw [if_neg c104] at H
    have c104b0 : ((bt t576 x38_2) == 32) = false := beq_eq_false_iff_ne.mpr c104
    have c104b1 : ((bt t576 x38_2) != 32) = true := bne_iff_ne.mpr c104
    have H' := am_ H
    clear H
    have p103 : 0 ≤ (x38_2 : Int) := od_
    have q103 : x38_2 < (t576.size : Int) := od_
    have hx103 := bt_at t576 x38_2
    replace p103 := eq_true p103
    replace q103 := eq_true q103
    go_wp2
    go_roundg k2
    case measure => have := HJ18.out; have := HK2.out; omega
    case rel => exact ⟨(x37_2), (wrap64 (x38_2 + 1)), sr_, sr_, H', ⟨by have := HJ18.out; have := HK2.out; omega⟩, ⟨Kd.R_p HO_5⟩, ⟨Kd.R_p HO_13⟩, ⟨Kd.R_p HO_35⟩, ⟨hb_ HB⟩⟩
   ·rw [if_neg c101] at H
    have c101b0 := decide_eq_false c101
    clear c101
    (first | rw [c101b0] | (simp only [i64_w, i32_w]; rw [c101b0]) | skip)
    by_cases c105 : t614 = true
    case neg => replace c105 := Bool.eq_false_iff.mpr c105; subst c105; rw [if_neg (show ¬ (false = true) by decide)] at H; obtain rfl := Option.some.inj H; go_wp2; go_ret; exact ad_ (hb_ HB)
    subst c105
    rw [if_pos rfl] at H
    by_cases c106 : t616 = true
    case neg => replace c106 := Bool.eq_false_iff.mpr c106; subst c106; rw [if_neg (show ¬ (false = true) by decide)] at H; obtain rfl := Option.some.inj H; go_wp2; go_ret; exact ad_ (hb_ HB)
    subst c106
    rw [if_pos rfl] at H
    revert H; refine bn_ ?_; rintro t619 A107 H; try dsimp only at H
    by_cases c108 : t619 = true
    ·subst c108
     rw [if_pos rfl] at H
     by_cases c109 : t587 = x37_2
     ·rw [if_pos c109] at H
      have c109b0 : (t587 == x37_2) = true := beq_iff_eq.mpr c109
      have c109b1 : (t587 != x37_2) = false := bne_eq_false_iff_eq.mpr c109
      clear c109
      by_cases c110 : (t613.size : Int) > (t576.size : Int)
      ·rw [if_pos c110] at H
       have c110b0 : decide ((t576.size : Int) < (t613.size : Int)) = true := decide_eq_true c110
       have c110b1 : decide (t576.size < t613.size) = true := decide_eq_true (Int.ofNat_lt.mp c110)
       clear c110
       obtain rfl := Option.some.inj H
       obtain ⟨Ao111, co111, eo111⟩ := Kd.R_slice HO_35.out
       subst eo111
       obtain ⟨Ao112, co112, eo112⟩ := Kd.R_slice HO_13.out
       subst eo112
       go_wp2_with (first | (go_at_call 19; (with_reducible refine (laws_qParts.calls k2 _ _ t615 _ _ t581 true _ ?_ ?_ ?_ ?_ A107.out).mono ?_); exact Kd.C_o HO_35; exact (Kd.R_reads' HO_35.out).2.1; exact Kd.C_o HO_13; exact (Kd.R_reads' HO_13.out).2.1; rintro e w' ⟨rfl, ⟨nd, rfl⟩⟩))
       go_ret
       exact ad_ (hb_ HB)
      rw [if_neg c110] at H
      have c110b0 : decide ((t576.size : Int) < (t613.size : Int)) = false := decide_eq_false c110
      have c110b1 : decide (t576.size < t613.size) = false := decide_eq_false (fun h => c110 (Int.ofNat_lt.mpr h))
      clear c110
      have H' := am_ H
      clear H
      obtain ⟨Ao113, co113, eo113⟩ := Kd.R_slice HO_35.out
      subst eo113
      obtain ⟨Ao114, co114, eo114⟩ := Kd.R_slice HO_13.out
      subst eo114
      go_wp2_with (first | (go_at_call 19; (with_reducible refine (laws_qParts.calls k2 _ _ t615 _ _ t581 true _ ?_ ?_ ?_ ?_ A107.out).mono ?_); exact Kd.C_o HO_35; exact (Kd.R_reads' HO_35.out).2.1; exact Kd.C_o HO_13; exact (Kd.R_reads' HO_13.out).2.1; rintro e w' ⟨rfl, ⟨nd, rfl⟩⟩))
      refine mt_ hJ_ ?rel17
      case rel17 => exact ⟨_, H', ⟨by have := HJ18.out; have := HK2.out; first | omega | exact Nat.le_refl _⟩, ⟨rm_ (h := HO_5.out)⟩, ⟨hb_ HB⟩⟩
     rw [if_neg c109] at H
     have c109b0 : (t587 == x37_2) = false := beq_eq_false_iff_ne.mpr c109
     have c109b1 : (t587 != x37_2) = true := bne_iff_ne.mpr c109
     obtain rfl := Option.some.inj H
     obtain ⟨Ao115, co115, eo115⟩ := Kd.R_slice HO_35.out
     subst eo115
     obtain ⟨Ao116, co116, eo116⟩ := Kd.R_slice HO_13.out
     subst eo116
     go_wp2_with (first | (go_at_call 19; (with_reducible refine (laws_qParts.calls k2 _ _ t615 _ _ t581 true _ ?_ ?_ ?_ ?_ A107.out).mono ?_); exact Kd.C_o HO_35; exact (Kd.R_reads' HO_35.out).2.1; exact Kd.C_o HO_13; exact (Kd.R_reads' HO_13.out).2.1; rintro e w' ⟨rfl, ⟨nd, rfl⟩⟩))
     go_ret
     exact ad_ (hb_ HB)
    replace c108 := Bool.eq_false_iff.mpr c108
    subst c108
    rw [if_neg (show ¬ (false = true) by decide)] at H
    obtain rfl := Option.some.inj H
    obtain ⟨Ao117, co117, eo117⟩ := Kd.R_slice HO_35.out
    subst eo117
    obtain ⟨Ao118, co118, eo118⟩ := Kd.R_slice HO_13.out
    subst eo118
    go_wp2_with (first | (go_at_call 19; (with_reducible refine (laws_qParts.calls k2 _ _ t615 _ _ t581 false _ ?_ ?_ ?_ ?_ A107.out).mono ?_); exact Kd.C_o HO_35; exact (Kd.R_reads' HO_35.out).2.1; exact Kd.C_o HO_13; exact (Kd.R_reads' HO_13.out).2.1; rintro e w' ⟨rfl, ⟨nd, rfl⟩⟩))
    go_ret
    exact ad_ (hb_ HB)
   )
   exact p3_
  case rest2 =>
   refine ?z4_
   let rec p4_ : type_of% ?z4_ := by(
   repeat intro _
   refine ⟨fun wc hcut => ?_⟩
   clear HC94
   obtain ⟨kq, HA, HJ93, HO_5, HB⟩ := hcut
   cases kq with
   | zero => exact absurd HA.out (by simp [laws_FnRules.j2])
   | succ kj93 => ?_
   have H := HA.out
   clear HA
   simp only [laws_FnRules.j2] at H
   have HC119 := am_ H
   clear H
   go_upto_region 31 with (fail)
   refine wp_cutF [1,1,1,1,1,1,1,1,1,1,1,1,1,1,1,1,1,1,1,1,1,1,1,1,1,1,1,1,1,1,1,1,1,1,1,1,1,1,1,1,1] (fun us wc => ∃ v252 : Value, us[252]? = some v252 ∧ ∃ (kq : Nat) (x252_118 : Bool), v252 = .bool x252_118 ∧ Aside0 (laws_FnRules.j3 kq t569 t572 t573 t574 t599 x252_118 = some r) ∧ Aside0 (kq ≤ kj93) ∧ Aside0 (Kd.R k73 73 wc w.heap.size (fun _ => True) (.slice Ao21 t569.length co21) t569) ∧ Aside0 (Below w.heap.size w wc)) ?first3 ?rest3
   case first3 =>
    intro J_ K_ hJ_ hK_
    have H := HC119.out
    clear HC119
    by_cases c120 : t594 = true
    case neg => replace c120 := Bool.eq_false_iff.mpr c120; subst c120; rw [if_neg (show ¬ (false = true) by decide)] at H; have H' := am_ H; clear H; go_wp2; refine mt_ hJ_ ⟨_, rfl, ?rel18⟩; (case rel18 => exact ⟨_, (false), sr_, H', ⟨by have := HJ18.out; have := HJ93.out; first | omega | exact Nat.le_refl _⟩, ⟨Kd.R_p HO_5⟩, ⟨hb_ HB⟩⟩)
    subst c120
    rw [if_pos rfl] at H
    by_cases c121 : t595 < 1
    ·rw [if_pos c121] at H
     have c121b0 := decide_eq_true c121
     clear c121
     (first | rw [c121b0] | (simp only [i64_w, i32_w]; rw [c121b0]) | skip)
     have H' := am_ H
     clear H
     go_wp2
     refine mt_ hJ_ ⟨_, rfl, ?rel19⟩
     case rel19 => exact ⟨_, (true), sr_, H', ⟨by have := HJ18.out; have := HJ93.out; first | omega | exact Nat.le_refl _⟩, ⟨Kd.R_p HO_5⟩, ⟨hb_ HB⟩⟩
    rw [if_neg c121] at H
    have c121b0 := decide_eq_false c121
    clear c121
    (first | rw [c121b0] | (simp only [i64_w, i32_w]; rw [c121b0]) | skip)
    have H' := am_ H
    clear H
    go_wp2
    refine mt_ hJ_ ⟨_, rfl, ?rel20⟩
    case rel20 => exact ⟨_, (decide (t595 > (wrap64 (t590 + 1)))), sr_, H', ⟨by have := HJ18.out; have := HJ93.out; first | omega | exact Nat.le_refl _⟩, ⟨Kd.R_p HO_5⟩, ⟨hb_ HB⟩⟩
   repeat intro _
   refine ⟨fun wc hcut => ?_⟩
   obtain ⟨v252, h252_, hcut⟩ := hcut; obtain rfl := Option.some.inj h252_
   clear HC119
   obtain ⟨kq, x252_118, rfl, HA, HJ118, HO_5, HB⟩ := hcut
   cases kq with
   | zero => exact absurd HA.out (by simp [laws_FnRules.j3])
   | succ kj118 => ?_
   have H := HA.out
   clear HA
   simp only [laws_FnRules.j3] at H
   by_cases c122 : x252_118 = true
   ·subst c122
    rw [if_pos rfl] at H
    obtain rfl := Option.some.inj H
    go_wp2
    go_ret
    exact ad_ (hb_ HB)
   replace c122 := Bool.eq_false_iff.mpr c122
   subst c122
   rw [if_neg (show ¬ (false = true) by decide)] at H
   have HC123 := am_ H
   clear H
   go_upto_region 33 with (fail)
   refine wp_cutF [1,1,1,1,1,1,1,1,1,1,1,1,1,1,1,1,1,1,1,1,1,1,1,1,1,1,1,1,1,1,1,1,1,1,1,1,1,1,1,1,1] (fun us wc => ∃ v259 : Value, us[259]? = some v259 ∧ ∃ (kq : Nat) (x259_122 : Bool), v259 = .bool x259_122 ∧ Aside0 (laws_FnRules.j4 kq t569 t572 t599 x259_122 = some r) ∧ Aside0 (kq ≤ kj118) ∧ Aside0 (Kd.R k73 73 wc w.heap.size (fun _ => True) (.slice Ao21 t569.length co21) t569) ∧ Aside0 (Below w.heap.size w wc)) ?first4 ?rest4
   case first4 =>
    intro J_ K_ hJ_ hK_
    have H := HC123.out
    clear HC123
    by_cases c124 : t573 = true
    ·subst c124
     rw [if_pos rfl] at H
     have H' := am_ H
     clear H
     go_wp2
     refine mt_ hJ_ ⟨_, rfl, ?rel21⟩
     case rel21 => exact ⟨_, (decide ((t574.size : Int) > 600)), sr_, H', ⟨by have := HJ18.out; have := HJ93.out; have := HJ118.out; first | omega | exact Nat.le_refl _⟩, ⟨Kd.R_p HO_5⟩, ⟨hb_ HB⟩⟩
    replace c124 := Bool.eq_false_iff.mpr c124
    subst c124
    rw [if_neg (show ¬ (false = true) by decide)] at H
    have H' := am_ H
    clear H
    go_wp2
    refine mt_ hJ_ ⟨_, rfl, ?rel22⟩
    case rel22 => exact ⟨_, (true), sr_, H', ⟨by have := HJ18.out; have := HJ93.out; have := HJ118.out; first | omega | exact Nat.le_refl _⟩, ⟨Kd.R_p HO_5⟩, ⟨hb_ HB⟩⟩
   case rest4 =>
    repeat intro _
    refine ⟨fun wc hcut => ?_⟩
    obtain ⟨v259, h259_, hcut⟩ := hcut; obtain rfl := Option.some.inj h259_
    clear HC123
    obtain ⟨kq, x259_122, rfl, HA, HJ122, HO_5, HB⟩ := hcut
    cases kq with
    | zero => exact absurd HA.out (by simp [laws_FnRules.j4])
    | succ kj122 => ?_
    have H := HA.out
    clear HA
    simp only [laws_FnRules.j4] at H
    by_cases c125 : x259_122 = true
    ·subst c125
     rw [if_pos rfl] at H
     obtain rfl := Option.some.inj H
     go_wp2
     go_ret
     exact ad_ (hb_ HB)
    replace c125 := Bool.eq_false_iff.mpr c125
    subst c125
    rw [if_neg (show ¬ (false = true) by decide)] at H
    revert H; refine bn_ ?_; rintro ⟨t620, t621⟩ A126 H; try dsimp only at H
    by_cases c127 : t621 = true
    ·subst c127
     rw [if_pos rfl] at H
     revert H; refine bn_ ?_; rintro t624 A128 H; try dsimp only at H
     by_cases c129 : t624 = true
     ·subst c129
      rw [if_pos rfl] at H
      by_cases c130 : t599 ≤ 12
      ·rw [if_pos c130] at H
       have c130b0 := decide_eq_true c130
       clear c130
       obtain rfl := Option.some.inj H
       go_wp2_with (first | ((with_reducible refine gk_ 8 ?_); refine gq_ 262 Tryz.func8 #[.string t572] ?_; (with_reducible refine (impl_ParseRule.calls kj122 t572 t620 true _ A126.out (by exact LaidW.step HLw (hb_ HB))).mono ?_); rintro e w131 ⟨v622, rfl, ho0, hb⟩; refine ⟨_, rfl, ?_⟩; have HO623 := Kd.R_lo (Kd.R_nw ho0 HO_5) HB; replace HO_5 := Kd.R_e HO_5 ho0 hb; replace HB := hbs_ HB hb; obtain ⟨Ao132, co132, eo132⟩ := Kd.R_slice HO623.out; subst eo132) | (go_at_call 19; (with_reducible refine (laws_qParts.calls kj122 _ _ t620 _ _ t569 true _ ?_ ?_ ?_ ?_ A128.out).mono ?_); exact Kd.C_o HO623; exact (Kd.R_reads' HO623.out).2.1; exact Kd.C_o HO_5; exact (Kd.R_reads' HO_5.out).2.1; rintro e w' ⟨rfl, ⟨nd, rfl⟩⟩))
       go_ret
       exact ad_ (hb_ HB)
      rw [if_neg c130] at H
      have c130b0 := decide_eq_false c130
      clear c130
      obtain rfl := Option.some.inj H
      go_wp2_with (first | ((with_reducible refine gk_ 8 ?_); refine gq_ 262 Tryz.func8 #[.string t572] ?_; (with_reducible refine (impl_ParseRule.calls kj122 t572 t620 true _ A126.out (by exact LaidW.step HLw (hb_ HB))).mono ?_); rintro e w133 ⟨v622, rfl, ho0, hb⟩; refine ⟨_, rfl, ?_⟩; have HO623 := Kd.R_lo (Kd.R_nw ho0 HO_5) HB; replace HO_5 := Kd.R_e HO_5 ho0 hb; replace HB := hbs_ HB hb; obtain ⟨Ao134, co134, eo134⟩ := Kd.R_slice HO623.out; subst eo134) | (go_at_call 19; (with_reducible refine (laws_qParts.calls kj122 _ _ t620 _ _ t569 true _ ?_ ?_ ?_ ?_ A128.out).mono ?_); exact Kd.C_o HO623; exact (Kd.R_reads' HO623.out).2.1; exact Kd.C_o HO_5; exact (Kd.R_reads' HO_5.out).2.1; rintro e w' ⟨rfl, ⟨nd, rfl⟩⟩))
      go_ret
      exact ad_ (hb_ HB)
     replace c129 := Bool.eq_false_iff.mpr c129
     subst c129
     rw [if_neg (show ¬ (false = true) by decide)] at H
     obtain rfl := Option.some.inj H
     go_wp2_with (first | ((with_reducible refine gk_ 8 ?_); refine gq_ 262 Tryz.func8 #[.string t572] ?_; (with_reducible refine (impl_ParseRule.calls kj122 t572 t620 true _ A126.out (by exact LaidW.step HLw (hb_ HB))).mono ?_); rintro e w135 ⟨v622, rfl, ho0, hb⟩; refine ⟨_, rfl, ?_⟩; have HO623 := Kd.R_lo (Kd.R_nw ho0 HO_5) HB; replace HO_5 := Kd.R_e HO_5 ho0 hb; replace HB := hbs_ HB hb; obtain ⟨Ao136, co136, eo136⟩ := Kd.R_slice HO623.out; subst eo136) | (go_at_call 19; (with_reducible refine (laws_qParts.calls kj122 _ _ t620 _ _ t569 false _ ?_ ?_ ?_ ?_ A128.out).mono ?_); exact Kd.C_o HO623; exact (Kd.R_reads' HO623.out).2.1; exact Kd.C_o HO_5; exact (Kd.R_reads' HO_5.out).2.1; rintro e w' ⟨rfl, ⟨nd, rfl⟩⟩))
     go_ret
     exact ad_ (hb_ HB)
    replace c127 := Bool.eq_false_iff.mpr c127
    subst c127
    rw [if_neg (show ¬ (false = true) by decide)] at H
    obtain rfl := Option.some.inj H
    go_wp2_with (first | ((with_reducible refine gk_ 8 ?_); refine gq_ 262 Tryz.func8 #[.string t572] ?_; (with_reducible refine (impl_ParseRule.calls kj122 t572 t620 false _ A126.out (by exact LaidW.step HLw (hb_ HB))).mono ?_); rintro e w137 ⟨v622, rfl, ho0, hb⟩; refine ⟨_, rfl, ?_⟩; have HO623 := Kd.R_lo (Kd.R_nw ho0 HO_5) HB; replace HO_5 := Kd.R_e HO_5 ho0 hb; replace HB := hbs_ HB hb))
    go_ret
    exact ad_ (hb_ HB)
   )
   exact p4_

/-- THE ONE PURE STATEMENT of laws_FnRules: yours. -/
def laws_FnRules.Pure : Prop := ∀ (l0 : List Int) (l1 : List Int), l0.length ≤ maxLen → l0.length * 1 ≤ 140737488351232 → (∀ x ∈ l0, (Lit.int .u8 x).wf = true) → l1.length ≤ maxLen → l1.length * 1 ≤ 140737488351232 → (∀ x ∈ l1, (Lit.int .u8 x).wf = true) → ∃ k, laws_FnRules.f k l0 l1 = some true
end Go.Proofs.YtihjlepgmppedaaGreatDoor.PFnRules
