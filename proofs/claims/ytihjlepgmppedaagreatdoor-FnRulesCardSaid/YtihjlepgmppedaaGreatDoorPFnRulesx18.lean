-- Laid for this claim by wip/tools/print2.sh, a changed copy of the kit's print (wip/tools/patch_print.py): not by print.sh.
import Derived.Test.YtihjlepgmppedaaGreatDoorPFnRulesx8
import Derived.Test.YtihjlepgmppedaaGreatDoorVFnRules
namespace Go.Proofs.YtihjlepgmppedaaGreatDoor.PFnRules
set_option maxHeartbeats 8000000
set_option maxRecDepth 100000
open Go.RowKit Go.Proofs.YtihjlepgmppedaaGreatDoorW.PrintWords Go.Proofs.YtihjlepgmppedaaGreatDoorW.PrintLast Go.Proofs.YtihjlepgmppedaaGreatDoorW.PrintMore
set_option linter.unusedVariables false
set_option linter.unusedSimpArgs false

/-! ### impl_IsRule: function 21 -/
def impl_IsRule.f (k : Nat) (l0 : List (S73)) : Option (Bool) := (impl_isRule.f k l0).bind fun t567 => (some t567)
theorem impl_IsRule.calls (k : Nat) (A0 : Option Addr) (c0 : Nat) (l0 : List (S73)) (r : Bool) (w : World) (hr0 : Kd.C k73 w A0 l0.length l0) (hc0 : l0.length ≤ c0) (h : impl_IsRule.f k l0 = some r) :
  Calls Tryz.prog 21 #[.slice A0 l0.length c0] w fun e w' => e = .returned (.bool r) ∧ Below w.heap.size w w' := by
 have HR0 := am_ hr0
 have HC0 := am_ hc0
 clear hr0 hc0
 have HB := am_ (Below.refl w.heap.size w)
 have H := h
 unfold impl_IsRule.f at H
 clear h
 revert H; refine bn_ ?_; rintro t567 A2 H; try dsimp only at H
 obtain rfl := Option.some.inj H
 go_enter Tryz.func21, Tryz.ntmps21
 go_wp2_with (first | ((with_reducible refine gk_ 24 ?_); refine gq_ 4 Tryz.func24 #[.slice A0 l0.length c0] ?_; (with_reducible refine (impl_isRule.calls k _ _ l0 t567 _ ?side1 ?_ A2.out).mono ?_); (case side1 => repeat (first | exact HR0.out | (with_reducible refine Kd.C_alloc ?_ _) | (with_reducible refine Kd.C_drewN ?_ _) | (with_reducible refine Kd.C_drew ?_))); exact HC0.out; rintro e w3 ⟨rfl, hb⟩; refine ⟨_, rfl, ?_⟩; replace HB := hbs_ HB hb))
 go_ret
 exact ad_ (hb_ HB)

/-! ### spec_IsRule: function 22 -/
def spec_IsRule.f (k : Nat) (l0 : List (S73)) : Option (Bool) := (spec_ruGood.f k l0).bind fun t568 => (some t568)
theorem spec_IsRule.calls (k : Nat) (A0 : Option Addr) (c0 : Nat) (l0 : List (S73)) (r : Bool) (w : World) (hr0 : Kd.C k73 w A0 l0.length l0) (hc0 : l0.length ≤ c0) (h : spec_IsRule.f k l0 = some r) :
  Calls Tryz.prog 22 #[.slice A0 l0.length c0] w fun e w' => e = .returned (.bool r) ∧ Below w.heap.size w w' := by
 have HR0 := am_ hr0
 have HC0 := am_ hc0
 clear hr0 hc0
 have HB := am_ (Below.refl w.heap.size w)
 have H := h
 unfold spec_IsRule.f at H
 clear h
 revert H; refine bn_ ?_; rintro t568 A2 H; try dsimp only at H
 obtain rfl := Option.some.inj H
 go_enter Tryz.func22, Tryz.ntmps22
 go_wp2_with (first | ((with_reducible refine gk_ 26 ?_); refine gq_ 4 Tryz.func26 #[.slice A0 l0.length c0] ?_; (with_reducible refine (spec_ruGood.calls k _ _ l0 t568 _ ?side1 ?_ A2.out).mono ?_); (case side1 => repeat (first | exact HR0.out | (with_reducible refine Kd.C_alloc ?_ _) | (with_reducible refine Kd.C_drewN ?_ _) | (with_reducible refine Kd.C_drew ?_))); exact HC0.out; rintro e w3 ⟨rfl, hb⟩; refine ⟨_, rfl, ?_⟩; replace HB := hbs_ HB hb))
 go_ret
 exact ad_ (hb_ HB)

end Go.Proofs.YtihjlepgmppedaaGreatDoor.PFnRules
