-- Laid for this claim by wip/tools/print2.sh, a changed copy of the kit's print (wip/tools/patch_print.py): not by print.sh. Changed by wip/fix/wrap.py.
import Derived.Test.YtgeoecfphklcmaaDoorPFnGridsx0
import Derived.Test.YtgeoecfphklcmaaDoorPFnGridsx1
import Derived.Test.YtgeoecfphklcmaaDoorPFnGridsx2
import Derived.Test.YtgeoecfphklcmaaDoorPFnGridsx3
import Derived.Test.YtgeoecfphklcmaaDoorPFnGridsx5
import Derived.Test.YtgeoecfphklcmaaDoorPFnGridsx6
import Derived.Test.YtgeoecfphklcmaaDoorPFnGridsx8
import Derived.Test.YtgeoecfphklcmaaDoorPFnGridsx9
namespace Go.Proofs.YtgeoecfphklcmaaDoor.PFnGrids
open Go.RowKit Go.Proofs.YtgeoecfphklcmaaDoorW.PrintWords Go.Proofs.YtgeoecfphklcmaaDoorW.PrintLast Go.Proofs.YtgeoecfphklcmaaDoorW.PrintMore
attribute [local go_sem] max2_int min2_int max_two min_two max_three min_three max_four min_four   -- for this text's walks alone
set_option linter.unusedVariables false
set_option linter.unusedSimpArgs false

/-! ### laws_FnGrids: function 6 -/
mutual
def laws_FnGrids.j0 : Nat → List Int → Int → Int → Int → Int → Bool → Bool → Int → Int → Int → Option (Bool)
 | 0, _, _, _, _, _, _, _, _, _, _ => none
 | k + 1, x1, x6, x7, x8, x9, x10, x107, x442000, x442001, x442002 => if x107 = true then (some false) else (if x10 = true then ((impl_BlockAt.f x442000 x442001 x442002 x7 x8 x9).bind fun bt452 => ((impl_BlockName.f x442000 x442001 x442002 x6).bind fun bt454 => ((impl_ParseBlock.f k x442000 x442001 x442002 bt454.1).bind fun bt456 => ((impl_BlockCount.f x442000 x442001 x442002).bind fun bt458 => (if bt452.2 = true then (if bt452.1 = x6 then (if bt454.2 = true then (if bt456.2 = true then (if bt456.1 = x6 then (if bt458.2 = true then (laws_FnGrids.j1 k x1 x6 x7 x8 x9 (bt458.1 != (wrap64 ((wrap64 (x442000 * x442001)) * x442002))) x442000 x442001 x442002) else (laws_FnGrids.j1 k x1 x6 x7 x8 x9 true x442000 x442001 x442002)) else (laws_FnGrids.j1 k x1 x6 x7 x8 x9 true x442000 x442001 x442002)) else (laws_FnGrids.j1 k x1 x6 x7 x8 x9 true x442000 x442001 x442002)) else (laws_FnGrids.j1 k x1 x6 x7 x8 x9 true x442000 x442001 x442002)) else (laws_FnGrids.j1 k x1 x6 x7 x8 x9 true x442000 x442001 x442002)) else (laws_FnGrids.j1 k x1 x6 x7 x8 x9 true x442000 x442001 x442002)))))) else (laws_FnGrids.j2 k x1))
def laws_FnGrids.j2 : Nat → List Int → Option (Bool)
 | 0, _ => none
 | k + 1, x1 => (spec_DrawBlockAt.f k x1).bind fun bt470 => ((impl_BlockAt.f bt470.1 bt470.2.1 bt470.2.2.1 bt470.2.2.2.1 bt470.2.2.2.2.1 bt470.2.2.2.2.2).bind fun bt477 => ((spec_BlockAt.f bt470.1 bt470.2.1 bt470.2.2.1 bt470.2.2.2.1 bt470.2.2.2.2.1 bt470.2.2.2.2.2).bind fun bt479 => ((spec_DrawParseBlock.f k x1).bind fun bt481 => ((impl_ParseBlock.f k bt481.1 bt481.2.1 bt481.2.2.1 bt481.2.2.2).bind fun bt486 => ((spec_ParseBlock.f k bt481.1 bt481.2.1 bt481.2.2.1 bt481.2.2.2).bind fun bt488 => ((spec_DrawGridText.f k x1).bind fun bt490 => ((impl_GridText.f bt490.1 bt490.2.1 bt490.2.2).bind fun bt494 => ((spec_GridText.f k bt490.1 bt490.2.1 bt490.2.2).bind fun bt496 => ((spec_DrawLevelBlocks.f k x1).bind fun bt498 => ((impl_LevelBlocks.f k bt498.1 bt498.2.1 bt498.2.2.1 bt498.2.2.2).bind fun bt503 => ((spec_LevelBlocks.f k bt498.1 bt498.2.1 bt498.2.2.1 bt498.2.2.2).bind fun bt507 => ((spec_DrawColumnBlocks.f k x1).bind fun bt511 => ((impl_ColumnBlocks.f k bt511.1 bt511.2.1 bt511.2.2.1 bt511.2.2.2.1 bt511.2.2.2.2).bind fun bt517 => ((spec_ColumnBlocks.f k bt511.1 bt511.2.1 bt511.2.2.1 bt511.2.2.2.1 bt511.2.2.2.2).bind fun bt521 => (if (bt477.2 == bt479.2) = true then (if bt477.1 = bt479.1 then (if (bt486.2 == bt488.2) = true then (if bt486.1 = bt488.1 then (if (bt494.2 == bt496.2) = true then (if bt494.1.toList = bt496.1.toList then (if (bt503.2 == bt507.2) = true then ((laws_sameInts.f k bt503.1 bt507.1).bind fun t525 => (if t525 = true then (if (bt517.2 == bt521.2) = true then ((laws_sameInts.f k bt517.1 bt521.1).bind fun t526 => (some t526)) else (some false)) else (some false))) else (some false)) else (some false)) else (some false)) else (some false)) else (some false)) else (some false)) else (some false))))))))))))))))
def laws_FnGrids.j1 : Nat → List Int → Int → Int → Int → Int → Bool → Int → Int → Int → Option (Bool)
 | 0, _, _, _, _, _, _, _, _, _ => none
 | k + 1, x1, x6, x7, x8, x9, x169, x442000, x442001, x442002 => if x169 = true then (some false) else ((impl_LevelBlocks.f k x442000 x442001 x442002 x9).bind fun bt460 => ((impl_ColumnBlocks.f k x442000 x442001 x442002 x7 x8).bind fun bt464 => (if bt460.2 = true then (if bt464.2 = true then (if (bt460.1.length : Int) = (wrap64 (x442000 * x442001)) then (if (bt464.1.length : Int) = x442002 then ((laws_pIn.f k bt460.1 x6).bind fun t468 => (if t468 = true then ((laws_pIn.f k bt464.1 x6).bind fun t469 => (if t469 = true then (laws_FnGrids.j2 k x1) else (some false))) else (some false))) else (some false)) else (some false)) else (some false)) else (some false))))
end
def laws_FnGrids.f (k : Nat) (l0 : List Int) (l1 : List Int) : Option (Bool) := (laws_big.f l0 l1).bind fun t436 => (if t436 = true then (some true) else ((spec_DrawPlaceOf.f k l0).bind fun bt437 => ((impl_PlaceOf.f bt437.1 bt437.2.1 bt437.2.2.1 bt437.2.2.2).bind fun bt442 => ((spec_PlaceOf.f bt437.1 bt437.2.1 bt437.2.2.1 bt437.2.2.2).bind fun bt446 => (if (bt442.2.2.2 != bt446.2.2.2) = true then (laws_FnGrids.j0 k l1 bt437.2.2.2 bt442.1 bt442.2.1 bt442.2.2.1 bt442.2.2.2 true bt437.1 bt437.2.1 bt437.2.2.1) else (if bt442.1 = bt446.1 then (if bt442.2.1 = bt446.2.1 then (if bt442.2.2.1 = bt446.2.2.1 then ((impl_IsGrid.f bt437.1 bt437.2.1 bt437.2.2.1).bind fun t450 => ((spec_IsGrid.f bt437.1 bt437.2.1 bt437.2.2.1).bind fun t451 => (laws_FnGrids.j0 k l1 bt437.2.2.2 bt442.1 bt442.2.1 bt442.2.2.1 bt442.2.2.2 (t450 != t451) bt437.1 bt437.2.1 bt437.2.2.1))) else (laws_FnGrids.j0 k l1 bt437.2.2.2 bt442.1 bt442.2.1 bt442.2.2.1 bt442.2.2.2 true bt437.1 bt437.2.1 bt437.2.2.1)) else (laws_FnGrids.j0 k l1 bt437.2.2.2 bt442.1 bt442.2.1 bt442.2.2.1 bt442.2.2.2 true bt437.1 bt437.2.1 bt437.2.2.1)) else (laws_FnGrids.j0 k l1 bt437.2.2.2 bt442.1 bt442.2.1 bt442.2.2.1 bt442.2.2.2 true bt437.1 bt437.2.1 bt437.2.2.1)))))))
def laws_FnGrids.T6 : Bool × List (List Nat × List Nat) := (true, [([], []), ([], []), ([0, 1], [0, 1]), ([2], [2]), ([3], [3]), ([3], [3]), ([4, 5, 3], [3, 4, 5]), ([3, 6], [3, 6]), ([7, 3], [7]), ([8], [8]), ([8], [8]), ([9, 10, 8], [8, 9, 10]), ([8, 11], [8, 11]), ([12, 8], [12]), ([13], [13]), ([13], [13]), ([14, 15, 13], [13, 14, 15]), ([13, 16], [13, 16]), ([17, 13], [17]), ([18], [18]), ([19, 18, 18], [18, 19]), ([18], [18]), ([21, 20, 18], [18, 21]), ([20, 22, 18], [18, 20, 22]), ([18, 23], [18, 23])])
def laws_FnGrids.B6 : List Nat := [0, 0, 3, 7, 15, 15, 63, 127, 255, 511, 511, 2047, 4095, 8191, 16383, 16383, 65535, 131071, 262143, 524287, 1048575, 524287, 4194303, 8388607, 16777215]
theorem laws_FnGrids.tab6 : rtab .any (opsOf Tryd.f6 6) = laws_FnGrids.T6 := by kernel_rfl
theorem laws_FnGrids.bits6 : waitsOk laws_FnGrids.T6.2 laws_FnGrids.B6 = true := by kernel_rfl
set_option maxHeartbeats 60000000 in
set_option maxRecDepth 100000 in
theorem laws_FnGrids.calls (k : Nat) (A0 : Option Addr) (c0 : Nat) (l0 : List Int) (A1 : Option Addr) (c1 : Nat) (l1 : List Int) (r : Bool) (w : World) (hr0 : Kd.C (Kd.int .u8) w A0 l0.length l0) (hc0 : l0.length ≤ c0) (hr1 : Kd.C (Kd.int .u8) w A1 l1.length l1) (hc1 : l1.length ≤ c1) (h : laws_FnGrids.f k l0 l1 = some r) :
  Calls Tryd.prog 6 #[.slice A0 l0.length c0, .slice A1 l1.length c1] w fun e w' => e = .returned (.bool r) ∧ Below w.heap.size w w' := by
 have hu26 := Tryd.underlying26
 have HR0 := Aside0.mk hr0
 have HC0 := Aside0.mk hc0
 clear hr0 hc0
 have HR1 := Aside0.mk hr1
 have HC1 := Aside0.mk hc1
 clear hr1 hc1
 have HB := Aside0.mk (Below.refl w.heap.size w)
 have H : ((laws_big.f l0 l1).bind fun t436 => (if t436 = true then (some true) else ((spec_DrawPlaceOf.f k l0).bind fun bt437 => ((impl_PlaceOf.f bt437.1 bt437.2.1 bt437.2.2.1 bt437.2.2.2).bind fun bt442 => ((spec_PlaceOf.f bt437.1 bt437.2.1 bt437.2.2.1 bt437.2.2.2).bind fun bt446 => (if (bt442.2.2.2 != bt446.2.2.2) = true then (laws_FnGrids.j0 k l1 bt437.2.2.2 bt442.1 bt442.2.1 bt442.2.2.1 bt442.2.2.2 true bt437.1 bt437.2.1 bt437.2.2.1) else (if bt442.1 = bt446.1 then (if bt442.2.1 = bt446.2.1 then (if bt442.2.2.1 = bt446.2.2.1 then ((impl_IsGrid.f bt437.1 bt437.2.1 bt437.2.2.1).bind fun t450 => ((spec_IsGrid.f bt437.1 bt437.2.1 bt437.2.2.1).bind fun t451 => (laws_FnGrids.j0 k l1 bt437.2.2.2 bt442.1 bt442.2.1 bt442.2.2.1 bt442.2.2.2 (t450 != t451) bt437.1 bt437.2.1 bt437.2.2.1))) else (laws_FnGrids.j0 k l1 bt437.2.2.2 bt442.1 bt442.2.1 bt442.2.2.1 bt442.2.2.2 true bt437.1 bt437.2.1 bt437.2.2.1)) else (laws_FnGrids.j0 k l1 bt437.2.2.2 bt442.1 bt442.2.1 bt442.2.2.1 bt442.2.2.2 true bt437.1 bt437.2.1 bt437.2.2.1)) else (laws_FnGrids.j0 k l1 bt437.2.2.2 bt442.1 bt442.2.1 bt442.2.2.1 bt442.2.2.2 true bt437.1 bt437.2.1 bt437.2.2.1)))))))) = some r := h
 clear h
 replace H := Option.bind_eq_some_iff.mp H
 obtain ⟨t436, A30, H⟩ := H
 replace H : (if t436 = true then (some true) else ((spec_DrawPlaceOf.f k l0).bind fun bt437 => ((impl_PlaceOf.f bt437.1 bt437.2.1 bt437.2.2.1 bt437.2.2.2).bind fun bt442 => ((spec_PlaceOf.f bt437.1 bt437.2.1 bt437.2.2.1 bt437.2.2.2).bind fun bt446 => (if (bt442.2.2.2 != bt446.2.2.2) = true then (laws_FnGrids.j0 k l1 bt437.2.2.2 bt442.1 bt442.2.1 bt442.2.2.1 bt442.2.2.2 true bt437.1 bt437.2.1 bt437.2.2.1) else (if bt442.1 = bt446.1 then (if bt442.2.1 = bt446.2.1 then (if bt442.2.2.1 = bt446.2.2.1 then ((impl_IsGrid.f bt437.1 bt437.2.1 bt437.2.2.1).bind fun t450 => ((spec_IsGrid.f bt437.1 bt437.2.1 bt437.2.2.1).bind fun t451 => (laws_FnGrids.j0 k l1 bt437.2.2.2 bt442.1 bt442.2.1 bt442.2.2.1 bt442.2.2.2 (t450 != t451) bt437.1 bt437.2.1 bt437.2.2.1))) else (laws_FnGrids.j0 k l1 bt437.2.2.2 bt442.1 bt442.2.1 bt442.2.2.1 bt442.2.2.2 true bt437.1 bt437.2.1 bt437.2.2.1)) else (laws_FnGrids.j0 k l1 bt437.2.2.2 bt442.1 bt442.2.1 bt442.2.2.1 bt442.2.2.2 true bt437.1 bt437.2.1 bt437.2.2.1)) else (laws_FnGrids.j0 k l1 bt437.2.2.2 bt442.1 bt442.2.1 bt442.2.2.1 bt442.2.2.2 true bt437.1 bt437.2.1 bt437.2.2.1))))))) = some r := H
 have A3 := Aside0.mk A30
 clear A30
 by_cases c4 : t436 = true
 ·subst c4
  have H1 : (some true) = some r := by rw [if_pos rfl] at H; exact H
  clear H
  have H := H1
  clear H1
  obtain rfl := Option.some.inj H
  go_enter Tryd.func6, Tryd.ntmps6
  go_wp2_with (first | ((with_reducible refine gate_callee (f := 14) rfl ?_); refine gl_ (some 61) Tryd.func14 #[.slice A0 l0.length c0, .slice A1 l1.length c1] rfl rfl rfl ?_; (with_reducible refine (laws_big.calls _ _ l0 _ _ l1 true _ ?side1 ?side2 ?side3 ?side4 A3.out).mono ?_); (case side1 => repeat (first | exact HR0.out | (with_reducible refine Kd.C_alloc ?_ _) | (with_reducible refine Kd.C_drewN ?_ _) | (with_reducible refine Kd.C_drew ?_))); (case side2 => exact HC0.out); (case side3 => repeat (first | exact HR1.out | (with_reducible refine Kd.C_alloc ?_ _) | (with_reducible refine Kd.C_drewN ?_ _) | (with_reducible refine Kd.C_drew ?_))); (case side4 => exact HC1.out); rintro e w' ⟨rfl, ⟨nd, rfl⟩⟩; refine ⟨_, rfl, ?_⟩))
  go_ret
  exact ⟨by first | rfl | (simp [errW_none, errW_some] <;> rfl) | (simp [*, errW_none, errW_some] <;> rfl), hb_ HB⟩
 ·as_aux_lemma =>
  replace c4 := Bool.eq_false_iff.mpr c4
  subst c4
  have H1 : ((spec_DrawPlaceOf.f k l0).bind fun bt437 => ((impl_PlaceOf.f bt437.1 bt437.2.1 bt437.2.2.1 bt437.2.2.2).bind fun bt442 => ((spec_PlaceOf.f bt437.1 bt437.2.1 bt437.2.2.1 bt437.2.2.2).bind fun bt446 => (if (bt442.2.2.2 != bt446.2.2.2) = true then (laws_FnGrids.j0 k l1 bt437.2.2.2 bt442.1 bt442.2.1 bt442.2.2.1 bt442.2.2.2 true bt437.1 bt437.2.1 bt437.2.2.1) else (if bt442.1 = bt446.1 then (if bt442.2.1 = bt446.2.1 then (if bt442.2.2.1 = bt446.2.2.1 then ((impl_IsGrid.f bt437.1 bt437.2.1 bt437.2.2.1).bind fun t450 => ((spec_IsGrid.f bt437.1 bt437.2.1 bt437.2.2.1).bind fun t451 => (laws_FnGrids.j0 k l1 bt437.2.2.2 bt442.1 bt442.2.1 bt442.2.2.1 bt442.2.2.2 (t450 != t451) bt437.1 bt437.2.1 bt437.2.2.1))) else (laws_FnGrids.j0 k l1 bt437.2.2.2 bt442.1 bt442.2.1 bt442.2.2.1 bt442.2.2.2 true bt437.1 bt437.2.1 bt437.2.2.1)) else (laws_FnGrids.j0 k l1 bt437.2.2.2 bt442.1 bt442.2.1 bt442.2.2.1 bt442.2.2.2 true bt437.1 bt437.2.1 bt437.2.2.1)) else (laws_FnGrids.j0 k l1 bt437.2.2.2 bt442.1 bt442.2.1 bt442.2.2.1 bt442.2.2.2 true bt437.1 bt437.2.1 bt437.2.2.1)))))) = some r := by rw [if_neg (show ¬ (false = true) by decide)] at H; exact H
  clear H
  have H := H1
  clear H1
  replace H := Option.bind_eq_some_iff.mp H
  obtain ⟨⟨t437, t438, t439, t440⟩, A50, H⟩ := H
  replace H : ((impl_PlaceOf.f t437 t438 t439 t440).bind fun bt442 => ((spec_PlaceOf.f t437 t438 t439 t440).bind fun bt446 => (if (bt442.2.2.2 != bt446.2.2.2) = true then (laws_FnGrids.j0 k l1 t440 bt442.1 bt442.2.1 bt442.2.2.1 bt442.2.2.2 true t437 t438 t439) else (if bt442.1 = bt446.1 then (if bt442.2.1 = bt446.2.1 then (if bt442.2.2.1 = bt446.2.2.1 then ((impl_IsGrid.f t437 t438 t439).bind fun t450 => ((spec_IsGrid.f t437 t438 t439).bind fun t451 => (laws_FnGrids.j0 k l1 t440 bt442.1 bt442.2.1 bt442.2.2.1 bt442.2.2.2 (t450 != t451) t437 t438 t439))) else (laws_FnGrids.j0 k l1 t440 bt442.1 bt442.2.1 bt442.2.2.1 bt442.2.2.2 true t437 t438 t439)) else (laws_FnGrids.j0 k l1 t440 bt442.1 bt442.2.1 bt442.2.2.1 bt442.2.2.2 true t437 t438 t439)) else (laws_FnGrids.j0 k l1 t440 bt442.1 bt442.2.1 bt442.2.2.1 bt442.2.2.2 true t437 t438 t439))))) = some r := H
  have A5 := Aside0.mk A50
  clear A50
  replace H := Option.bind_eq_some_iff.mp H
  obtain ⟨⟨t442, t443, t444, t445⟩, A60, H⟩ := H
  replace H : ((spec_PlaceOf.f t437 t438 t439 t440).bind fun bt446 => (if (t445 != bt446.2.2.2) = true then (laws_FnGrids.j0 k l1 t440 t442 t443 t444 t445 true t437 t438 t439) else (if t442 = bt446.1 then (if t443 = bt446.2.1 then (if t444 = bt446.2.2.1 then ((impl_IsGrid.f t437 t438 t439).bind fun t450 => ((spec_IsGrid.f t437 t438 t439).bind fun t451 => (laws_FnGrids.j0 k l1 t440 t442 t443 t444 t445 (t450 != t451) t437 t438 t439))) else (laws_FnGrids.j0 k l1 t440 t442 t443 t444 t445 true t437 t438 t439)) else (laws_FnGrids.j0 k l1 t440 t442 t443 t444 t445 true t437 t438 t439)) else (laws_FnGrids.j0 k l1 t440 t442 t443 t444 t445 true t437 t438 t439)))) = some r := H
  have A6 := Aside0.mk A60
  clear A60
  replace H := Option.bind_eq_some_iff.mp H
  obtain ⟨⟨t446, t447, t448, t449⟩, A70, H⟩ := H
  replace H : (if (t445 != t449) = true then (laws_FnGrids.j0 k l1 t440 t442 t443 t444 t445 true t437 t438 t439) else (if t442 = t446 then (if t443 = t447 then (if t444 = t448 then ((impl_IsGrid.f t437 t438 t439).bind fun t450 => ((spec_IsGrid.f t437 t438 t439).bind fun t451 => (laws_FnGrids.j0 k l1 t440 t442 t443 t444 t445 (t450 != t451) t437 t438 t439))) else (laws_FnGrids.j0 k l1 t440 t442 t443 t444 t445 true t437 t438 t439)) else (laws_FnGrids.j0 k l1 t440 t442 t443 t444 t445 true t437 t438 t439)) else (laws_FnGrids.j0 k l1 t440 t442 t443 t444 t445 true t437 t438 t439))) = some r := H
  have A7 := Aside0.mk A70
  clear A70
  have HC8 := Aside0.mk H
  clear H
  go_enter Tryd.func6, Tryd.ntmps6
  go_upto_region 6 with (first | ((with_reducible refine gate_callee (f := 14) rfl ?_); refine gl_ (some 61) Tryd.func14 #[.slice A0 l0.length c0, .slice A1 l1.length c1] rfl rfl rfl ?_; (with_reducible refine (laws_big.calls _ _ l0 _ _ l1 false _ ?side1 ?side2 ?side3 ?side4 A3.out).mono ?_); (case side1 => repeat (first | exact HR0.out | (with_reducible refine Kd.C_alloc ?_ _) | (with_reducible refine Kd.C_drewN ?_ _) | (with_reducible refine Kd.C_drew ?_))); (case side2 => exact HC0.out); (case side3 => repeat (first | exact HR1.out | (with_reducible refine Kd.C_alloc ?_ _) | (with_reducible refine Kd.C_drewN ?_ _) | (with_reducible refine Kd.C_drew ?_))); (case side4 => exact HC1.out); rintro e w' ⟨rfl, ⟨nd, rfl⟩⟩; refine ⟨_, rfl, ?_⟩) | ((with_reducible refine gate_callee (f := 15) rfl ?_); refine gl_ (some 64) Tryd.func15 #[.slice A0 l0.length c0] rfl rfl rfl ?_; (with_reducible refine (spec_DrawPlaceOf.calls k _ _ l0 t437 t438 t439 t440 _ ?side1 ?side2 A5.out).mono ?_); (case side1 => repeat (first | exact HR0.out | (with_reducible refine Kd.C_alloc ?_ _) | (with_reducible refine Kd.C_drewN ?_ _) | (with_reducible refine Kd.C_drew ?_))); (case side2 => exact HC0.out); rintro e w9 ⟨rfl, hb⟩; refine ⟨_, rfl, ?_⟩; replace HB := hbs_ HB hb; (try clear hb); (try clear hb2); (try clear hk); (try clear hi)) | ((with_reducible refine gate_dst (N := 5) rfl ?_); (try (refine gate_guard (by rfl) ?_; dsimp only)); refine box_event ?hg (N := 5) ?hd (cs := #[.int .i64 0, .int .i64 0, .int .i64 0]) (t := 26) ?hr ?_; (case hd => rfl); (case hg => rfl); (case hr => first | (go_simp; done) | (go_simp; rfl)); intro gb441 hg w10 hbox hb; have BK441 := Aside0.mk (hbox); have GW441 := gs_ hg HB; have GE441 := gs_ hg HB; replace HB := hbs_ HB hb; clear hb hbox hg; obtain ⟨hcz11_0, hcz11_1, hcz11_2, hfz11_0, hfz11_1, hfz11_2⟩ := bx3 BK441) | ((with_reducible refine gate_callee (f := 16) rfl ?_); refine gl_ (some 70) Tryd.func16 #[.agg #[.int .i64 t437, .int .i64 t438, .int .i64 t439], .int .i64 t440] rfl rfl rfl ?_; (with_reducible refine (impl_PlaceOf.calls t437 t438 t439 t440 t442 t443 t444 t445 _ A6.out).mono ?_); rintro e w12 ⟨rfl, hb⟩; refine ⟨_, rfl, ?_⟩; replace BK441 := Aside0.mk (blk_below (g := gb441) (o := .cells #[.int .i64 t437, .int .i64 t438, .int .i64 t439] 26 (0, 0)) (kpq_ (kputs BK441 [(0, _), (1, _), (2, _)])) hb); replace HB := hbs_ HB hb; (try clear hb); (try clear hb2); (try clear hk); (try clear hi); obtain ⟨hcz13_0, hcz13_1, hcz13_2, hfz13_0, hfz13_1, hfz13_2⟩ := bx3 BK441) | ((with_reducible refine gate_callee (f := 17) rfl ?_); refine gl_ (some 78) Tryd.func17 #[.agg #[.int .i64 t437, .int .i64 t438, .int .i64 t439], .int .i64 t440] rfl rfl rfl ?_; (with_reducible refine (spec_PlaceOf.calls t437 t438 t439 t440 t446 t447 t448 t449 _ A7.out).mono ?_); rintro e w14 ⟨rfl, hb⟩; refine ⟨_, rfl, ?_⟩; replace BK441 := kb_ BK441 hb; replace HB := hbs_ HB hb; (try clear hb); (try clear hb2); (try clear hk); (try clear hi)))
  (try simp only [Act.put, List.setIfInBounds_toArray, List.set_cons_zero, List.set_cons_succ])
  go_cut [107] (fun v107 wc => ∃ (kq : Nat) (x107_7 : Bool), v107 = .bool x107_7 ∧ Aside0 (laws_FnGrids.j0 kq l1 t440 t442 t443 t444 t445 x107_7 t437 t438 t439 = some r) ∧ Aside0 (kq ≤ k) ∧ Aside0 (wc.heap[gb441]? = some (.cells #[.int .i64 t437, .int .i64 t438, .int .i64 t439] 26 (0, 0))) ∧ Aside0 (Below w.heap.size w wc))
  case first => as_aux_lemma =>
   have H := HC8.out
   clear HC8
   by_cases c15 : (t445 != t449) = true
   ·rw [if_pos c15] at H
    have c15b0 : (t445 != t449) = true := c15
    (try (have c15b1 : decide (t445 = t449) = false := by simpa using c15))
    (try (have c15b2 : (t445 == t449) = false := by simpa using c15))
    (try (have c15b3 : ¬ (t445 = t449) := by simpa using c15))
    clear c15
    (first | rw [c15b0] | (simp only [i64_w, i32_w]; rw [c15b0]) | skip)
    have H' := Aside0.mk H
    clear H
    try go_wp2
    have n0_ := Aside0.mk (blk_drew BK441.out)
    have n1_ := Aside0.mk (below_drew1 HB.out)
    clear BK441
    clear HB
    have BK441 := n0_
    have HB := n1_
    clear n0_ n1_
    refine start_ (n := 25) (S := fun w' => True) (ds := []) #[false, false, false, false, false, false, false, false, false, false, false, false, false, false, false, false, false, false, false, false, false, false, false, false, false] (by kernel_rfl) rfl rfl trivial (fun hHeld => ?_); refine with_tabW laws_FnGrids.tab6 laws_FnGrids.bits6 (fun HT_ HW_ => ?_)
    generalize w14.drew = w16 at BK441 HB hHeld ⊢
    refine pure_ (i := 0) (N := some 83) (v := ?_) (a' := ?_) #[true, false, false, false, false, false, false, false, false, false, false, false, false, false, false, false, false, false, false, false, false, false, false, false, false] rfl rfl (any_of HT_.out (by kernel_rfl)) (fun _ _ _ h => h) (Or.inl ⟨by rfl, ?_⟩) ?_ ?_
    rotate_left
    ·intro w'
     go_simp
     with_reducible rfl
    rotate_left
    ·simp only [Act.put, List.setIfInBounds_toArray, List.set_cons_zero, List.set_cons_succ, i64_w, i32_w]
     rfl
    refine pure_ (i := 1) (N := some 84) (v := ?_) (a' := ?_) #[true, true, false, false, false, false, false, false, false, false, false, false, false, false, false, false, false, false, false, false, false, false, false, false, false] rfl rfl (any_of HT_.out (by kernel_rfl)) (fun _ _ _ h => h) (Or.inl ⟨by rfl, ?_⟩) ?_ ?_
    rotate_left
    ·intro w'
     go_simp
     with_reducible rfl
    rotate_left
    ·simp only [Act.put, List.setIfInBounds_toArray, List.set_cons_zero, List.set_cons_succ, i64_w, i32_w]
     rfl
    refine pure_ (i := 2) (N := some 85) (v := ?_) (a' := ?_) #[true, true, true, false, false, false, false, false, false, false, false, false, false, false, false, false, false, false, false, false, false, false, false, false, false] rfl rfl (any_of HT_.out (by kernel_rfl)) (fun _ _ _ h => h) (Or.inl ⟨by rfl, ?_⟩) ?_ ?_
    rotate_left
    ·intro w'
     go_simp
     with_reducible rfl
    rotate_left
    ·simp only [Act.put, List.setIfInBounds_toArray, List.set_cons_zero, List.set_cons_succ, i64_w, i32_w]
     rfl
    refine pure_ (i := 3) (N := some 86) (v := ?_) (a' := ?_) #[true, true, true, true, false, false, false, false, false, false, false, false, false, false, false, false, false, false, false, false, false, false, false, false, false] rfl rfl (any_of HT_.out (by kernel_rfl)) (fun _ _ _ h => h) (Or.inl ⟨by rfl, ?_⟩) ?_ ?_
    rotate_left
    ·intro w'
     go_simp
     with_reducible rfl
    rotate_left
    ·simp only [Act.put, List.setIfInBounds_toArray, List.set_cons_zero, List.set_cons_succ, i64_w, i32_w]
     rfl
    refine pure_ (i := 4) (N := some 87) (v := undef) (a' := ?_) #[true, true, true, true, true, false, false, false, false, false, false, false, false, false, false, false, false, false, false, false, false, false, false, false, false] rfl rfl (any_of HT_.out (by kernel_rfl)) (fun _ _ _ h => h) (Or.inr ⟨by rfl, rfl⟩) ?_ ?_
    rotate_left
    ·simp only [Act.put, List.setIfInBounds_toArray, List.set_cons_zero, List.set_cons_succ, i64_w, i32_w]
     rfl
    refine pure_ (i := 5) (N := some 88) (v := undef) (a' := ?_) #[true, true, true, true, true, true, false, false, false, false, false, false, false, false, false, false, false, false, false, false, false, false, false, false, false] rfl rfl (any_of HT_.out (by kernel_rfl)) (fun _ _ _ h => h) (Or.inr ⟨by rfl, rfl⟩) ?_ ?_
    rotate_left
    ·simp only [Act.put, List.setIfInBounds_toArray, List.set_cons_zero, List.set_cons_succ, i64_w, i32_w]
     rfl
    refine pure_ (i := 6) (N := some 89) (v := undef) (a' := ?_) #[true, true, true, true, true, true, true, false, false, false, false, false, false, false, false, false, false, false, false, false, false, false, false, false, false] rfl rfl (any_of HT_.out (by kernel_rfl)) (fun _ _ _ h => h) (Or.inr ⟨by rfl, rfl⟩) ?_ ?_
    rotate_left
    ·simp only [Act.put, List.setIfInBounds_toArray, List.set_cons_zero, List.set_cons_succ, i64_w, i32_w]
     rfl
    refine pure_ (i := 7) (N := some 90) (v := ?_) (a' := ?_) #[true, true, true, true, true, true, true, true, false, false, false, false, false, false, false, false, false, false, false, false, false, false, false, false, false] rfl rfl (any_of HT_.out (by kernel_rfl)) (fun _ _ _ h => h) (Or.inl ⟨by rfl, ?_⟩) ?_ ?_
    rotate_left
    ·intro w'
     go_simp
     with_reducible rfl
    rotate_left
    ·simp only [Act.put, List.setIfInBounds_toArray, List.set_cons_zero, List.set_cons_succ, i64_w, i32_w]
     rfl
    refine pure_ (i := 8) (N := some 91) (v := ?_) (a' := ?_) #[true, true, true, true, true, true, true, true, true, false, false, false, false, false, false, false, false, false, false, false, false, false, false, false, false] rfl rfl (any_of HT_.out (by kernel_rfl)) (fun _ _ _ h => h) (Or.inl ⟨by rfl, ?_⟩) ?_ ?_
    rotate_left
    ·intro w'
     go_simp
     with_reducible rfl
    rotate_left
    ·simp only [Act.put, List.setIfInBounds_toArray, List.set_cons_zero, List.set_cons_succ, i64_w, i32_w]
     rfl
    refine pure_ (i := 9) (N := some 92) (v := undef) (a' := ?_) #[true, true, true, true, true, true, true, true, true, true, false, false, false, false, false, false, false, false, false, false, false, false, false, false, false] rfl rfl (any_of HT_.out (by kernel_rfl)) (fun _ _ _ h => h) (Or.inr ⟨by rfl, rfl⟩) ?_ ?_
    rotate_left
    ·simp only [Act.put, List.setIfInBounds_toArray, List.set_cons_zero, List.set_cons_succ, i64_w, i32_w]
     rfl
    refine pure_ (i := 10) (N := some 93) (v := undef) (a' := ?_) #[true, true, true, true, true, true, true, true, true, true, true, false, false, false, false, false, false, false, false, false, false, false, false, false, false] rfl rfl (any_of HT_.out (by kernel_rfl)) (fun _ _ _ h => h) (Or.inr ⟨by rfl, rfl⟩) ?_ ?_
    rotate_left
    ·simp only [Act.put, List.setIfInBounds_toArray, List.set_cons_zero, List.set_cons_succ, i64_w, i32_w]
     rfl
    refine pure_ (i := 11) (N := some 94) (v := undef) (a' := ?_) #[true, true, true, true, true, true, true, true, true, true, true, true, false, false, false, false, false, false, false, false, false, false, false, false, false] rfl rfl (any_of HT_.out (by kernel_rfl)) (fun _ _ _ h => h) (Or.inr ⟨by rfl, rfl⟩) ?_ ?_
    rotate_left
    ·simp only [Act.put, List.setIfInBounds_toArray, List.set_cons_zero, List.set_cons_succ, i64_w, i32_w]
     rfl
    refine pure_ (i := 12) (N := some 95) (v := ?_) (a' := ?_) #[true, true, true, true, true, true, true, true, true, true, true, true, true, false, false, false, false, false, false, false, false, false, false, false, false] rfl rfl (any_of HT_.out (by kernel_rfl)) (fun _ _ _ h => h) (Or.inl ⟨by rfl, ?_⟩) ?_ ?_
    rotate_left
    ·intro w'
     go_simp
     with_reducible rfl
    rotate_left
    ·simp only [Act.put, List.setIfInBounds_toArray, List.set_cons_zero, List.set_cons_succ, i64_w, i32_w]
     rfl
    refine pure_ (i := 13) (N := some 96) (v := ?_) (a' := ?_) #[true, true, true, true, true, true, true, true, true, true, true, true, true, true, false, false, false, false, false, false, false, false, false, false, false] rfl rfl (any_of HT_.out (by kernel_rfl)) (fun _ _ _ h => h) (Or.inl ⟨by rfl, ?_⟩) ?_ ?_
    rotate_left
    ·intro w'
     go_simp
     with_reducible rfl
    rotate_left
    ·simp only [Act.put, List.setIfInBounds_toArray, List.set_cons_zero, List.set_cons_succ, i64_w, i32_w]
     rfl
    refine pure_ (i := 14) (N := some 97) (v := undef) (a' := ?_) #[true, true, true, true, true, true, true, true, true, true, true, true, true, true, true, false, false, false, false, false, false, false, false, false, false] rfl rfl (any_of HT_.out (by kernel_rfl)) (fun _ _ _ h => h) (Or.inr ⟨by rfl, rfl⟩) ?_ ?_
    rotate_left
    ·simp only [Act.put, List.setIfInBounds_toArray, List.set_cons_zero, List.set_cons_succ, i64_w, i32_w]
     rfl
    refine pure_ (i := 15) (N := some 98) (v := undef) (a' := ?_) #[true, true, true, true, true, true, true, true, true, true, true, true, true, true, true, true, false, false, false, false, false, false, false, false, false] rfl rfl (any_of HT_.out (by kernel_rfl)) (fun _ _ _ h => h) (Or.inr ⟨by rfl, rfl⟩) ?_ ?_
    rotate_left
    ·simp only [Act.put, List.setIfInBounds_toArray, List.set_cons_zero, List.set_cons_succ, i64_w, i32_w]
     rfl
    refine pure_ (i := 16) (N := some 99) (v := undef) (a' := ?_) #[true, true, true, true, true, true, true, true, true, true, true, true, true, true, true, true, true, false, false, false, false, false, false, false, false] rfl rfl (any_of HT_.out (by kernel_rfl)) (fun _ _ _ h => h) (Or.inr ⟨by rfl, rfl⟩) ?_ ?_
    rotate_left
    ·simp only [Act.put, List.setIfInBounds_toArray, List.set_cons_zero, List.set_cons_succ, i64_w, i32_w]
     rfl
    refine pure_ (i := 17) (N := some 100) (v := ?_) (a' := ?_) #[true, true, true, true, true, true, true, true, true, true, true, true, true, true, true, true, true, true, false, false, false, false, false, false, false] rfl rfl (any_of HT_.out (by kernel_rfl)) (fun _ _ _ h => h) (Or.inl ⟨by rfl, ?_⟩) ?_ ?_
    rotate_left
    ·intro w'
     go_simp
     with_reducible rfl
    rotate_left
    ·simp only [Act.put, List.setIfInBounds_toArray, List.set_cons_zero, List.set_cons_succ, i64_w, i32_w]
     rfl
    refine pure_ (i := 18) (N := some 101) (v := ?_) (a' := ?_) #[true, true, true, true, true, true, true, true, true, true, true, true, true, true, true, true, true, true, true, false, false, false, false, false, false] rfl rfl (any_of HT_.out (by kernel_rfl)) (fun _ _ _ h => h) (Or.inl ⟨by rfl, ?_⟩) ?_ ?_
    rotate_left
    ·intro w'
     go_simp
     with_reducible rfl
    rotate_left
    ·simp only [Act.put, List.setIfInBounds_toArray, List.set_cons_zero, List.set_cons_succ, i64_w, i32_w]
     rfl
    refine pure_ (i := 19) (N := some 102) (v := undef) (a' := ?_) #[true, true, true, true, true, true, true, true, true, true, true, true, true, true, true, true, true, true, true, true, false, false, false, false, false] rfl rfl (any_of HT_.out (by kernel_rfl)) (fun _ _ _ h => h) (Or.inr ⟨by rfl, rfl⟩) ?_ ?_
    rotate_left
    ·simp only [Act.put, List.setIfInBounds_toArray, List.set_cons_zero, List.set_cons_succ, i64_w, i32_w]
     rfl
    refine pure_ (i := 20) (N := some 103) (v := undef) (a' := ?_) #[true, true, true, true, true, true, true, true, true, true, true, true, true, true, true, true, true, true, true, true, true, false, false, false, false] rfl rfl (any_of HT_.out (by kernel_rfl)) (fun _ _ _ h => h) (Or.inr ⟨by rfl, rfl⟩) ?_ ?_
    rotate_left
    ·simp only [Act.put, List.setIfInBounds_toArray, List.set_cons_zero, List.set_cons_succ, i64_w, i32_w]
     rfl
    refine pure_ (i := 21) (N := some 104) (v := undef) (a' := ?_) #[true, true, true, true, true, true, true, true, true, true, true, true, true, true, true, true, true, true, true, true, true, true, false, false, false] rfl rfl (any_of HT_.out (by kernel_rfl)) (fun _ _ _ h => h) (Or.inr ⟨by rfl, rfl⟩) ?_ ?_
    rotate_left
    ·simp only [Act.put, List.setIfInBounds_toArray, List.set_cons_zero, List.set_cons_succ, i64_w, i32_w]
     rfl
    refine pure_ (i := 22) (N := some 105) (v := undef) (a' := ?_) #[true, true, true, true, true, true, true, true, true, true, true, true, true, true, true, true, true, true, true, true, true, true, true, false, false] rfl rfl (any_of HT_.out (by kernel_rfl)) (fun _ _ _ h => h) (Or.inr ⟨by rfl, rfl⟩) ?_ ?_
    rotate_left
    ·simp only [Act.put, List.setIfInBounds_toArray, List.set_cons_zero, List.set_cons_succ, i64_w, i32_w]
     rfl
    refine pure_ (i := 23) (N := some 106) (v := undef) (a' := ?_) #[true, true, true, true, true, true, true, true, true, true, true, true, true, true, true, true, true, true, true, true, true, true, true, true, false] rfl rfl (any_of HT_.out (by kernel_rfl)) (fun _ _ _ h => h) (Or.inr ⟨by rfl, rfl⟩) ?_ ?_
    rotate_left
    ·simp only [Act.put, List.setIfInBounds_toArray, List.set_cons_zero, List.set_cons_succ, i64_w, i32_w]
     rfl
    refine pure_ (i := 24) (N := some 107) (v := ?_) (a' := ?_) #[true, true, true, true, true, true, true, true, true, true, true, true, true, true, true, true, true, true, true, true, true, true, true, true, true] rfl rfl (any_of HT_.out (by kernel_rfl)) (fun _ _ _ h => h) (Or.inl ⟨by rfl, ?_⟩) ?_ ?_
    rotate_left
    ·intro w'
     go_simp
     with_reducible rfl
    rotate_left
    ·simp only [Act.put, List.setIfInBounds_toArray, List.set_cons_zero, List.set_cons_succ, i64_w, i32_w]
     rfl
    refine done_ (done_of HT_.out (by kernel_rfl)) ?_
    try go_wp2
    go_meet
    case rel => exact ⟨_, (true), (by first | rfl | (simp; done) | (simp [*]; done)), H', ⟨by first | omega | exact Nat.le_refl _⟩, ⟨kp_ BK441⟩, ⟨hb_ HB⟩⟩
   ·as_aux_lemma =>
    rw [if_neg c15] at H
    have c15b0 : (t445 != t449) = false := by simpa using c15
    (try (have c15b1 : decide (t445 = t449) = true := by simpa using c15))
    (try (have c15b2 : (t445 == t449) = true := by simpa using c15))
    clear c15
    (first | rw [c15b0] | (simp only [i64_w, i32_w]; rw [c15b0]) | skip)
    by_cases c17 : t442 = t446
    ·rw [if_pos c17] at H
     have c17b0 : (t442 == t446) = true := beq_iff_eq.mpr c17
     have c17b1 : (t442 != t446) = false := bne_eq_false_iff_eq.mpr c17
     clear c17
     by_cases c18 : t443 = t447
     ·rw [if_pos c18] at H
      have c18b0 : (t443 == t447) = true := beq_iff_eq.mpr c18
      have c18b1 : (t443 != t447) = false := bne_eq_false_iff_eq.mpr c18
      clear c18
      by_cases c19 : t444 = t448
      ·rw [if_pos c19] at H
       have c19b0 : (t444 == t448) = true := beq_iff_eq.mpr c19
       have c19b1 : (t444 != t448) = false := bne_eq_false_iff_eq.mpr c19
       clear c19
       replace H := Option.bind_eq_some_iff.mp H
       obtain ⟨t450, A200, H⟩ := H
       replace H : ((spec_IsGrid.f t437 t438 t439).bind fun t451 => (laws_FnGrids.j0 k l1 t440 t442 t443 t444 t445 (t450 != t451) t437 t438 t439)) = some r := H
       have A20 := Aside0.mk A200
       clear A200
       replace H := Option.bind_eq_some_iff.mp H
       obtain ⟨t451, A210, H⟩ := H
       replace H : (laws_FnGrids.j0 k l1 t440 t442 t443 t444 t445 (t450 != t451) t437 t438 t439) = some r := H
       have A21 := Aside0.mk A210
       clear A210
       have H' := Aside0.mk H
       clear H
       try go_wp2
       have n0_ := Aside0.mk (blk_drew BK441.out)
       have n1_ := Aside0.mk (below_drew1 HB.out)
       clear BK441
       clear HB
       have BK441 := n0_
       have HB := n1_
       clear n0_ n1_
       refine start_ (n := 25) (S := fun w' => w'.cell? ⟨gb441, 0, none⟩ = some (.int .i64 t437) ∧ w'.cell? ⟨gb441, 1, none⟩ = some (.int .i64 t438) ∧ w'.cell? ⟨gb441, 2, none⟩ = some (.int .i64 t439)) (ds := []) #[false, false, false, false, false, false, false, false, false, false, false, false, false, false, false, false, false, false, false, false, false, false, false, false, false] (by kernel_rfl) rfl rfl ⟨(blk_cell BK441.out 0).trans rfl, (blk_cell BK441.out 1).trans rfl, (blk_cell BK441.out 2).trans rfl⟩ (fun hHeld => ?_); refine with_tabW laws_FnGrids.tab6 laws_FnGrids.bits6 (fun HT_ HW_ => ?_)
       generalize w14.drew = w22 at BK441 HB hHeld ⊢
       refine pure_ (i := 0) (N := some 83) (v := ?_) (a' := ?_) #[true, false, false, false, false, false, false, false, false, false, false, false, false, false, false, false, false, false, false, false, false, false, false, false, false] rfl rfl (any_of HT_.out (by kernel_rfl)) (fun _ _ _ h => h) (Or.inl ⟨by rfl, ?_⟩) ?_ ?_
       rotate_left
       ·intro w'
        go_simp
        with_reducible rfl
       rotate_left
       ·simp only [Act.put, List.setIfInBounds_toArray, List.set_cons_zero, List.set_cons_succ, i64_w, i32_w]
        rfl
       refine pure_ (i := 1) (N := some 84) (v := ?_) (a' := ?_) #[true, true, false, false, false, false, false, false, false, false, false, false, false, false, false, false, false, false, false, false, false, false, false, false, false] rfl rfl (any_of HT_.out (by kernel_rfl)) (fun _ _ _ h => h) (Or.inl ⟨by rfl, ?_⟩) ?_ ?_
       rotate_left
       ·intro w'
        go_simp
        with_reducible rfl
       rotate_left
       ·simp only [Act.put, List.setIfInBounds_toArray, List.set_cons_zero, List.set_cons_succ, i64_w, i32_w]
        rfl
       refine pure_ (i := 2) (N := some 85) (v := ?_) (a' := ?_) #[true, true, true, false, false, false, false, false, false, false, false, false, false, false, false, false, false, false, false, false, false, false, false, false, false] rfl rfl (any_of HT_.out (by kernel_rfl)) (fun _ _ _ h => h) (Or.inl ⟨by rfl, ?_⟩) ?_ ?_
       rotate_left
       ·intro w'
        go_simp
        with_reducible rfl
       rotate_left
       ·simp only [Act.put, List.setIfInBounds_toArray, List.set_cons_zero, List.set_cons_succ, i64_w, i32_w]
        rfl
       refine pure_ (i := 3) (N := some 86) (v := ?_) (a' := ?_) #[true, true, true, true, false, false, false, false, false, false, false, false, false, false, false, false, false, false, false, false, false, false, false, false, false] rfl rfl (any_of HT_.out (by kernel_rfl)) (fun _ _ _ h => h) (Or.inl ⟨by rfl, ?_⟩) ?_ ?_
       rotate_left
       ·intro w'
        go_simp
        with_reducible rfl
       rotate_left
       ·simp only [Act.put, List.setIfInBounds_toArray, List.set_cons_zero, List.set_cons_succ, i64_w, i32_w]
        rfl
       refine pure_ (i := 4) (N := some 87) (v := ?_) (a' := ?_) #[true, true, true, true, true, false, false, false, false, false, false, false, false, false, false, false, false, false, false, false, false, false, false, false, false] rfl rfl (any_of HT_.out (by kernel_rfl)) (fun _ _ _ h => h) (Or.inl ⟨by rfl, ?_⟩) ?_ ?_
       rotate_left
       ·intro w'
        go_simp
        with_reducible rfl
       rotate_left
       ·simp only [Act.put, List.setIfInBounds_toArray, List.set_cons_zero, List.set_cons_succ, i64_w, i32_w]
        rfl
       refine pure_ (i := 5) (N := some 88) (v := ?_) (a' := ?_) #[true, true, true, true, true, true, false, false, false, false, false, false, false, false, false, false, false, false, false, false, false, false, false, false, false] rfl rfl (any_of HT_.out (by kernel_rfl)) (fun _ _ _ h => h) (Or.inl ⟨by rfl, ?_⟩) ?_ ?_
       rotate_left
       ·intro w'
        go_simp
        with_reducible rfl
       rotate_left
       ·simp only [Act.put, List.setIfInBounds_toArray, List.set_cons_zero, List.set_cons_succ, i64_w, i32_w]
        rfl
       refine pure_ (i := 6) (N := some 89) (v := ?_) (a' := ?_) #[true, true, true, true, true, true, true, false, false, false, false, false, false, false, false, false, false, false, false, false, false, false, false, false, false] rfl rfl (any_of HT_.out (by kernel_rfl)) (fun _ _ _ h => h) (Or.inl ⟨by rfl, ?_⟩) ?_ ?_
       rotate_left
       ·intro w'
        go_simp
        with_reducible rfl
       rotate_left
       ·simp only [Act.put, List.setIfInBounds_toArray, List.set_cons_zero, List.set_cons_succ, i64_w, i32_w]
        rfl
       refine pure_ (i := 7) (N := some 90) (v := ?_) (a' := ?_) #[true, true, true, true, true, true, true, true, false, false, false, false, false, false, false, false, false, false, false, false, false, false, false, false, false] rfl rfl (any_of HT_.out (by kernel_rfl)) (fun _ _ _ h => h) (Or.inl ⟨by rfl, ?_⟩) ?_ ?_
       rotate_left
       ·intro w'
        go_simp
        with_reducible rfl
       rotate_left
       ·simp only [Act.put, List.setIfInBounds_toArray, List.set_cons_zero, List.set_cons_succ, i64_w, i32_w]
        rfl
       refine pure_ (i := 8) (N := some 91) (v := ?_) (a' := ?_) #[true, true, true, true, true, true, true, true, true, false, false, false, false, false, false, false, false, false, false, false, false, false, false, false, false] rfl rfl (any_of HT_.out (by kernel_rfl)) (fun _ _ _ h => h) (Or.inl ⟨by rfl, ?_⟩) ?_ ?_
       rotate_left
       ·intro w'
        go_simp
        with_reducible rfl
       rotate_left
       ·simp only [Act.put, List.setIfInBounds_toArray, List.set_cons_zero, List.set_cons_succ, i64_w, i32_w]
        rfl
       refine pure_ (i := 9) (N := some 92) (v := ?_) (a' := ?_) #[true, true, true, true, true, true, true, true, true, true, false, false, false, false, false, false, false, false, false, false, false, false, false, false, false] rfl rfl (any_of HT_.out (by kernel_rfl)) (fun _ _ _ h => h) (Or.inl ⟨by rfl, ?_⟩) ?_ ?_
       rotate_left
       ·intro w'
        go_simp
        with_reducible rfl
       rotate_left
       ·simp only [Act.put, List.setIfInBounds_toArray, List.set_cons_zero, List.set_cons_succ, i64_w, i32_w]
        rfl
       refine pure_ (i := 10) (N := some 93) (v := ?_) (a' := ?_) #[true, true, true, true, true, true, true, true, true, true, true, false, false, false, false, false, false, false, false, false, false, false, false, false, false] rfl rfl (any_of HT_.out (by kernel_rfl)) (fun _ _ _ h => h) (Or.inl ⟨by rfl, ?_⟩) ?_ ?_
       rotate_left
       ·intro w'
        go_simp
        with_reducible rfl
       rotate_left
       ·simp only [Act.put, List.setIfInBounds_toArray, List.set_cons_zero, List.set_cons_succ, i64_w, i32_w]
        rfl
       refine pure_ (i := 11) (N := some 94) (v := ?_) (a' := ?_) #[true, true, true, true, true, true, true, true, true, true, true, true, false, false, false, false, false, false, false, false, false, false, false, false, false] rfl rfl (any_of HT_.out (by kernel_rfl)) (fun _ _ _ h => h) (Or.inl ⟨by rfl, ?_⟩) ?_ ?_
       rotate_left
       ·intro w'
        go_simp
        with_reducible rfl
       rotate_left
       ·simp only [Act.put, List.setIfInBounds_toArray, List.set_cons_zero, List.set_cons_succ, i64_w, i32_w]
        rfl
       refine pure_ (i := 12) (N := some 95) (v := ?_) (a' := ?_) #[true, true, true, true, true, true, true, true, true, true, true, true, true, false, false, false, false, false, false, false, false, false, false, false, false] rfl rfl (any_of HT_.out (by kernel_rfl)) (fun _ _ _ h => h) (Or.inl ⟨by rfl, ?_⟩) ?_ ?_
       rotate_left
       ·intro w'
        go_simp
        with_reducible rfl
       rotate_left
       ·simp only [Act.put, List.setIfInBounds_toArray, List.set_cons_zero, List.set_cons_succ, i64_w, i32_w]
        rfl
       refine pure_ (i := 13) (N := some 96) (v := ?_) (a' := ?_) #[true, true, true, true, true, true, true, true, true, true, true, true, true, true, false, false, false, false, false, false, false, false, false, false, false] rfl rfl (any_of HT_.out (by kernel_rfl)) (fun _ _ _ h => h) (Or.inl ⟨by rfl, ?_⟩) ?_ ?_
       rotate_left
       ·intro w'
        go_simp
        with_reducible rfl
       rotate_left
       ·simp only [Act.put, List.setIfInBounds_toArray, List.set_cons_zero, List.set_cons_succ, i64_w, i32_w]
        rfl
       refine pure_ (i := 14) (N := some 97) (v := ?_) (a' := ?_) #[true, true, true, true, true, true, true, true, true, true, true, true, true, true, true, false, false, false, false, false, false, false, false, false, false] rfl rfl (any_of HT_.out (by kernel_rfl)) (fun _ _ _ h => h) (Or.inl ⟨by rfl, ?_⟩) ?_ ?_
       rotate_left
       ·intro w'
        go_simp
        with_reducible rfl
       rotate_left
       ·simp only [Act.put, List.setIfInBounds_toArray, List.set_cons_zero, List.set_cons_succ, i64_w, i32_w]
        rfl
       refine pure_ (i := 15) (N := some 98) (v := ?_) (a' := ?_) #[true, true, true, true, true, true, true, true, true, true, true, true, true, true, true, true, false, false, false, false, false, false, false, false, false] rfl rfl (any_of HT_.out (by kernel_rfl)) (fun _ _ _ h => h) (Or.inl ⟨by rfl, ?_⟩) ?_ ?_
       rotate_left
       ·intro w'
        go_simp
        with_reducible rfl
       rotate_left
       ·simp only [Act.put, List.setIfInBounds_toArray, List.set_cons_zero, List.set_cons_succ, i64_w, i32_w]
        rfl
       refine pure_ (i := 16) (N := some 99) (v := ?_) (a' := ?_) #[true, true, true, true, true, true, true, true, true, true, true, true, true, true, true, true, true, false, false, false, false, false, false, false, false] rfl rfl (any_of HT_.out (by kernel_rfl)) (fun _ _ _ h => h) (Or.inl ⟨by rfl, ?_⟩) ?_ ?_
       rotate_left
       ·intro w'
        go_simp
        with_reducible rfl
       rotate_left
       ·simp only [Act.put, List.setIfInBounds_toArray, List.set_cons_zero, List.set_cons_succ, i64_w, i32_w]
        rfl
       refine pure_ (i := 17) (N := some 100) (v := ?_) (a' := ?_) #[true, true, true, true, true, true, true, true, true, true, true, true, true, true, true, true, true, true, false, false, false, false, false, false, false] rfl rfl (any_of HT_.out (by kernel_rfl)) (fun _ _ _ h => h) (Or.inl ⟨by rfl, ?_⟩) ?_ ?_
       rotate_left
       ·intro w'
        go_simp
        with_reducible rfl
       rotate_left
       ·simp only [Act.put, List.setIfInBounds_toArray, List.set_cons_zero, List.set_cons_succ, i64_w, i32_w]
        rfl
       refine pure_ (i := 18) (N := some 101) (v := ?_) (a' := ?_) #[true, true, true, true, true, true, true, true, true, true, true, true, true, true, true, true, true, true, true, false, false, false, false, false, false] rfl rfl (any_of HT_.out (by kernel_rfl)) (fun _ _ _ h => h) (Or.inl ⟨by rfl, ?_⟩) ?_ ?_
       rotate_left
       ·intro w'
        go_simp
        with_reducible rfl
       rotate_left
       ·simp only [Act.put, List.setIfInBounds_toArray, List.set_cons_zero, List.set_cons_succ, i64_w, i32_w]
        rfl
       refine take_ (i := 19) (N := some 102) (v := ?_) (a' := ?_) #[true, true, true, true, true, true, true, true, true, true, true, true, true, true, true, true, true, true, true, true, false, false, false, false, false] rfl rfl (take_ofW HT_.out HW_.out (by kernel_rfl)) (fun _ _ _ h => h) (Or.inl ⟨by rfl, ?_⟩) hHeld ?_ ?_
       rotate_left
       ·rintro w' ⟨s0, s1, s2⟩
        go_simp
        with_reducible rfl
       rotate_left
       ·simp only [Act.put, List.setIfInBounds_toArray, List.set_cons_zero, List.set_cons_succ, i64_w, i32_w]
        rfl
       refine take_ (i := 21) (N := some 104) (v := ?_) (a' := ?_) #[true, true, true, true, true, true, true, true, true, true, true, true, true, true, true, true, true, true, true, true, false, true, false, false, false] rfl rfl (take_ofW HT_.out HW_.out (by kernel_rfl)) (fun _ _ _ h => h) (Or.inl ⟨by rfl, ?_⟩) hHeld ?_ ?_
       rotate_left
       ·rintro w' ⟨s0, s1, s2⟩
        go_simp
        with_reducible rfl
       rotate_left
       ·simp only [Act.put, List.setIfInBounds_toArray, List.set_cons_zero, List.set_cons_succ, i64_w, i32_w]
        rfl
       refine one_ (i := 20) (N := some 103) #[true, true, true, true, true, true, true, true, true, true, true, true, true, true, true, true, true, true, true, true, true, true, false, false, false] rfl rfl (one_of HT_.out (by kernel_rfl)) (by decide) (fun K hK => ?_)
       refine goes_ Tryd.func18 (by kernel_rfl) rfl #[.agg #[.int .i64 t437, .int .i64 t438, .int .i64 t439]] (by rfl) rfl rfl (by (try simp only [List.map_toArray, List.map_cons, List.map_nil]); first | done | rfl | (simp only [List.length_drop, List.length_take]; rfl)) ?_
       with_reducible refine (impl_IsGrid.calls t437 t438 t439 t450 _ A20.out).mono ?_
       rintro e w23 ⟨rfl, hb⟩
       refine ⟨_, rfl, ?_⟩
       have n0_ := Aside0.mk (blk_below (kp_ BK441) hb)
       have n1_ := Aside0.mk (below_step (hb_ HB) hb)
       clear BK441
       clear HB
       have BK441 := n0_
       have HB := n1_
       clear n0_ n1_
       (try clear hb)
       (try clear hb2)
       (try clear hk)
       (try clear hi)
       refine hK.out _ _ ⟨(blk_cell BK441.out 0).trans rfl, (blk_cell BK441.out 1).trans rfl, (blk_cell BK441.out 2).trans rfl⟩ (fun hHeld => ?_)
       clear hK K
       refine norm_ (a' := ?_) ?_ ?_
       rotate_left
       ·show Act.put _ (some 103) _ = _
        simp only [Act.put, List.setIfInBounds_toArray, List.set_cons_zero, List.set_cons_succ, i64_w, i32_w]
        rfl
       refine one_ (i := 22) (N := some 105) #[true, true, true, true, true, true, true, true, true, true, true, true, true, true, true, true, true, true, true, true, true, true, true, false, false] rfl rfl (one_of HT_.out (by kernel_rfl)) (by decide) (fun K hK => ?_)
       refine goes_ Tryd.func19 (by kernel_rfl) rfl #[.agg #[.int .i64 t437, .int .i64 t438, .int .i64 t439]] (by rfl) rfl rfl (by (try simp only [List.map_toArray, List.map_cons, List.map_nil]); first | done | rfl | (simp only [List.length_drop, List.length_take]; rfl)) ?_
       with_reducible refine (spec_IsGrid.calls t437 t438 t439 t451 _ A21.out).mono ?_
       rintro e w24 ⟨rfl, hb⟩
       refine ⟨_, rfl, ?_⟩
       have n0_ := Aside0.mk (blk_below (kp_ BK441) hb)
       have n1_ := Aside0.mk (below_step (hb_ HB) hb)
       clear BK441
       clear HB
       have BK441 := n0_
       have HB := n1_
       clear n0_ n1_
       (try clear hb)
       (try clear hb2)
       (try clear hk)
       (try clear hi)
       refine hK.out _ _ ⟨(blk_cell BK441.out 0).trans rfl, (blk_cell BK441.out 1).trans rfl, (blk_cell BK441.out 2).trans rfl⟩ (fun hHeld => ?_)
       clear hK K
       refine norm_ (a' := ?_) ?_ ?_
       rotate_left
       ·show Act.put _ (some 105) _ = _
        simp only [Act.put, List.setIfInBounds_toArray, List.set_cons_zero, List.set_cons_succ, i64_w, i32_w]
        rfl
       refine pure_ (i := 23) (N := some 106) (v := ?_) (a' := ?_) #[true, true, true, true, true, true, true, true, true, true, true, true, true, true, true, true, true, true, true, true, true, true, true, true, false] rfl rfl (any_of HT_.out (by kernel_rfl)) (fun _ _ _ h => h) (Or.inl ⟨by rfl, ?_⟩) ?_ ?_
       rotate_left
       ·intro w'
        go_simp
        with_reducible rfl
       rotate_left
       ·simp only [Act.put, List.setIfInBounds_toArray, List.set_cons_zero, List.set_cons_succ, i64_w, i32_w]
        rfl
       refine pure_ (i := 24) (N := some 107) (v := ?_) (a' := ?_) #[true, true, true, true, true, true, true, true, true, true, true, true, true, true, true, true, true, true, true, true, true, true, true, true, true] rfl rfl (any_of HT_.out (by kernel_rfl)) (fun _ _ _ h => h) (Or.inl ⟨by rfl, ?_⟩) ?_ ?_
       rotate_left
       ·intro w'
        go_simp
        with_reducible rfl
       rotate_left
       ·simp only [Act.put, List.setIfInBounds_toArray, List.set_cons_zero, List.set_cons_succ, i64_w, i32_w]
        rfl
       refine done_ (done_of HT_.out (by kernel_rfl)) ?_
       try go_wp2
       go_meet
       case rel => exact ⟨_, ((t450 != t451)), (by first | rfl | (simp; done) | (simp [*]; done)), H', ⟨by first | omega | exact Nat.le_refl _⟩, ⟨kp_ BK441⟩, ⟨hb_ HB⟩⟩
      ·as_aux_lemma =>
       rw [if_neg c19] at H
       have c19b0 : (t444 == t448) = false := beq_eq_false_iff_ne.mpr c19
       have c19b1 : (t444 != t448) = true := bne_iff_ne.mpr c19
       have H' := Aside0.mk H
       clear H
       try go_wp2
       have n0_ := Aside0.mk (blk_drew BK441.out)
       have n1_ := Aside0.mk (below_drew1 HB.out)
       clear BK441
       clear HB
       have BK441 := n0_
       have HB := n1_
       clear n0_ n1_
       refine start_ (n := 25) (S := fun w' => True) (ds := []) #[false, false, false, false, false, false, false, false, false, false, false, false, false, false, false, false, false, false, false, false, false, false, false, false, false] (by kernel_rfl) rfl rfl trivial (fun hHeld => ?_); refine with_tabW laws_FnGrids.tab6 laws_FnGrids.bits6 (fun HT_ HW_ => ?_)
       generalize w14.drew = w25 at BK441 HB hHeld ⊢
       refine pure_ (i := 0) (N := some 83) (v := ?_) (a' := ?_) #[true, false, false, false, false, false, false, false, false, false, false, false, false, false, false, false, false, false, false, false, false, false, false, false, false] rfl rfl (any_of HT_.out (by kernel_rfl)) (fun _ _ _ h => h) (Or.inl ⟨by rfl, ?_⟩) ?_ ?_
       rotate_left
       ·intro w'
        go_simp
        with_reducible rfl
       rotate_left
       ·simp only [Act.put, List.setIfInBounds_toArray, List.set_cons_zero, List.set_cons_succ, i64_w, i32_w]
        rfl
       refine pure_ (i := 1) (N := some 84) (v := ?_) (a' := ?_) #[true, true, false, false, false, false, false, false, false, false, false, false, false, false, false, false, false, false, false, false, false, false, false, false, false] rfl rfl (any_of HT_.out (by kernel_rfl)) (fun _ _ _ h => h) (Or.inl ⟨by rfl, ?_⟩) ?_ ?_
       rotate_left
       ·intro w'
        go_simp
        with_reducible rfl
       rotate_left
       ·simp only [Act.put, List.setIfInBounds_toArray, List.set_cons_zero, List.set_cons_succ, i64_w, i32_w]
        rfl
       refine pure_ (i := 2) (N := some 85) (v := ?_) (a' := ?_) #[true, true, true, false, false, false, false, false, false, false, false, false, false, false, false, false, false, false, false, false, false, false, false, false, false] rfl rfl (any_of HT_.out (by kernel_rfl)) (fun _ _ _ h => h) (Or.inl ⟨by rfl, ?_⟩) ?_ ?_
       rotate_left
       ·intro w'
        go_simp
        with_reducible rfl
       rotate_left
       ·simp only [Act.put, List.setIfInBounds_toArray, List.set_cons_zero, List.set_cons_succ, i64_w, i32_w]
        rfl
       refine pure_ (i := 3) (N := some 86) (v := ?_) (a' := ?_) #[true, true, true, true, false, false, false, false, false, false, false, false, false, false, false, false, false, false, false, false, false, false, false, false, false] rfl rfl (any_of HT_.out (by kernel_rfl)) (fun _ _ _ h => h) (Or.inl ⟨by rfl, ?_⟩) ?_ ?_
       rotate_left
       ·intro w'
        go_simp
        with_reducible rfl
       rotate_left
       ·simp only [Act.put, List.setIfInBounds_toArray, List.set_cons_zero, List.set_cons_succ, i64_w, i32_w]
        rfl
       refine pure_ (i := 4) (N := some 87) (v := ?_) (a' := ?_) #[true, true, true, true, true, false, false, false, false, false, false, false, false, false, false, false, false, false, false, false, false, false, false, false, false] rfl rfl (any_of HT_.out (by kernel_rfl)) (fun _ _ _ h => h) (Or.inl ⟨by rfl, ?_⟩) ?_ ?_
       rotate_left
       ·intro w'
        go_simp
        with_reducible rfl
       rotate_left
       ·simp only [Act.put, List.setIfInBounds_toArray, List.set_cons_zero, List.set_cons_succ, i64_w, i32_w]
        rfl
       refine pure_ (i := 5) (N := some 88) (v := ?_) (a' := ?_) #[true, true, true, true, true, true, false, false, false, false, false, false, false, false, false, false, false, false, false, false, false, false, false, false, false] rfl rfl (any_of HT_.out (by kernel_rfl)) (fun _ _ _ h => h) (Or.inl ⟨by rfl, ?_⟩) ?_ ?_
       rotate_left
       ·intro w'
        go_simp
        with_reducible rfl
       rotate_left
       ·simp only [Act.put, List.setIfInBounds_toArray, List.set_cons_zero, List.set_cons_succ, i64_w, i32_w]
        rfl
       refine pure_ (i := 6) (N := some 89) (v := ?_) (a' := ?_) #[true, true, true, true, true, true, true, false, false, false, false, false, false, false, false, false, false, false, false, false, false, false, false, false, false] rfl rfl (any_of HT_.out (by kernel_rfl)) (fun _ _ _ h => h) (Or.inl ⟨by rfl, ?_⟩) ?_ ?_
       rotate_left
       ·intro w'
        go_simp
        with_reducible rfl
       rotate_left
       ·simp only [Act.put, List.setIfInBounds_toArray, List.set_cons_zero, List.set_cons_succ, i64_w, i32_w]
        rfl
       refine pure_ (i := 7) (N := some 90) (v := ?_) (a' := ?_) #[true, true, true, true, true, true, true, true, false, false, false, false, false, false, false, false, false, false, false, false, false, false, false, false, false] rfl rfl (any_of HT_.out (by kernel_rfl)) (fun _ _ _ h => h) (Or.inl ⟨by rfl, ?_⟩) ?_ ?_
       rotate_left
       ·intro w'
        go_simp
        with_reducible rfl
       rotate_left
       ·simp only [Act.put, List.setIfInBounds_toArray, List.set_cons_zero, List.set_cons_succ, i64_w, i32_w]
        rfl
       refine pure_ (i := 8) (N := some 91) (v := ?_) (a' := ?_) #[true, true, true, true, true, true, true, true, true, false, false, false, false, false, false, false, false, false, false, false, false, false, false, false, false] rfl rfl (any_of HT_.out (by kernel_rfl)) (fun _ _ _ h => h) (Or.inl ⟨by rfl, ?_⟩) ?_ ?_
       rotate_left
       ·intro w'
        go_simp
        with_reducible rfl
       rotate_left
       ·simp only [Act.put, List.setIfInBounds_toArray, List.set_cons_zero, List.set_cons_succ, i64_w, i32_w]
        rfl
       refine pure_ (i := 9) (N := some 92) (v := ?_) (a' := ?_) #[true, true, true, true, true, true, true, true, true, true, false, false, false, false, false, false, false, false, false, false, false, false, false, false, false] rfl rfl (any_of HT_.out (by kernel_rfl)) (fun _ _ _ h => h) (Or.inl ⟨by rfl, ?_⟩) ?_ ?_
       rotate_left
       ·intro w'
        go_simp
        with_reducible rfl
       rotate_left
       ·simp only [Act.put, List.setIfInBounds_toArray, List.set_cons_zero, List.set_cons_succ, i64_w, i32_w]
        rfl
       refine pure_ (i := 10) (N := some 93) (v := ?_) (a' := ?_) #[true, true, true, true, true, true, true, true, true, true, true, false, false, false, false, false, false, false, false, false, false, false, false, false, false] rfl rfl (any_of HT_.out (by kernel_rfl)) (fun _ _ _ h => h) (Or.inl ⟨by rfl, ?_⟩) ?_ ?_
       rotate_left
       ·intro w'
        go_simp
        with_reducible rfl
       rotate_left
       ·simp only [Act.put, List.setIfInBounds_toArray, List.set_cons_zero, List.set_cons_succ, i64_w, i32_w]
        rfl
       refine pure_ (i := 11) (N := some 94) (v := ?_) (a' := ?_) #[true, true, true, true, true, true, true, true, true, true, true, true, false, false, false, false, false, false, false, false, false, false, false, false, false] rfl rfl (any_of HT_.out (by kernel_rfl)) (fun _ _ _ h => h) (Or.inl ⟨by rfl, ?_⟩) ?_ ?_
       rotate_left
       ·intro w'
        go_simp
        with_reducible rfl
       rotate_left
       ·simp only [Act.put, List.setIfInBounds_toArray, List.set_cons_zero, List.set_cons_succ, i64_w, i32_w]
        rfl
       refine pure_ (i := 12) (N := some 95) (v := ?_) (a' := ?_) #[true, true, true, true, true, true, true, true, true, true, true, true, true, false, false, false, false, false, false, false, false, false, false, false, false] rfl rfl (any_of HT_.out (by kernel_rfl)) (fun _ _ _ h => h) (Or.inl ⟨by rfl, ?_⟩) ?_ ?_
       rotate_left
       ·intro w'
        go_simp
        with_reducible rfl
       rotate_left
       ·simp only [Act.put, List.setIfInBounds_toArray, List.set_cons_zero, List.set_cons_succ, i64_w, i32_w]
        rfl
       refine pure_ (i := 13) (N := some 96) (v := ?_) (a' := ?_) #[true, true, true, true, true, true, true, true, true, true, true, true, true, true, false, false, false, false, false, false, false, false, false, false, false] rfl rfl (any_of HT_.out (by kernel_rfl)) (fun _ _ _ h => h) (Or.inl ⟨by rfl, ?_⟩) ?_ ?_
       rotate_left
       ·intro w'
        go_simp
        with_reducible rfl
       rotate_left
       ·simp only [Act.put, List.setIfInBounds_toArray, List.set_cons_zero, List.set_cons_succ, i64_w, i32_w]
        rfl
       refine pure_ (i := 14) (N := some 97) (v := ?_) (a' := ?_) #[true, true, true, true, true, true, true, true, true, true, true, true, true, true, true, false, false, false, false, false, false, false, false, false, false] rfl rfl (any_of HT_.out (by kernel_rfl)) (fun _ _ _ h => h) (Or.inl ⟨by rfl, ?_⟩) ?_ ?_
       rotate_left
       ·intro w'
        go_simp
        with_reducible rfl
       rotate_left
       ·simp only [Act.put, List.setIfInBounds_toArray, List.set_cons_zero, List.set_cons_succ, i64_w, i32_w]
        rfl
       refine pure_ (i := 15) (N := some 98) (v := ?_) (a' := ?_) #[true, true, true, true, true, true, true, true, true, true, true, true, true, true, true, true, false, false, false, false, false, false, false, false, false] rfl rfl (any_of HT_.out (by kernel_rfl)) (fun _ _ _ h => h) (Or.inl ⟨by rfl, ?_⟩) ?_ ?_
       rotate_left
       ·intro w'
        go_simp
        with_reducible rfl
       rotate_left
       ·simp only [Act.put, List.setIfInBounds_toArray, List.set_cons_zero, List.set_cons_succ, i64_w, i32_w]
        rfl
       refine pure_ (i := 16) (N := some 99) (v := ?_) (a' := ?_) #[true, true, true, true, true, true, true, true, true, true, true, true, true, true, true, true, true, false, false, false, false, false, false, false, false] rfl rfl (any_of HT_.out (by kernel_rfl)) (fun _ _ _ h => h) (Or.inl ⟨by rfl, ?_⟩) ?_ ?_
       rotate_left
       ·intro w'
        go_simp
        with_reducible rfl
       rotate_left
       ·simp only [Act.put, List.setIfInBounds_toArray, List.set_cons_zero, List.set_cons_succ, i64_w, i32_w]
        rfl
       refine pure_ (i := 17) (N := some 100) (v := ?_) (a' := ?_) #[true, true, true, true, true, true, true, true, true, true, true, true, true, true, true, true, true, true, false, false, false, false, false, false, false] rfl rfl (any_of HT_.out (by kernel_rfl)) (fun _ _ _ h => h) (Or.inl ⟨by rfl, ?_⟩) ?_ ?_
       rotate_left
       ·intro w'
        go_simp
        with_reducible rfl
       rotate_left
       ·simp only [Act.put, List.setIfInBounds_toArray, List.set_cons_zero, List.set_cons_succ, i64_w, i32_w]
        rfl
       refine pure_ (i := 18) (N := some 101) (v := ?_) (a' := ?_) #[true, true, true, true, true, true, true, true, true, true, true, true, true, true, true, true, true, true, true, false, false, false, false, false, false] rfl rfl (any_of HT_.out (by kernel_rfl)) (fun _ _ _ h => h) (Or.inl ⟨by rfl, ?_⟩) ?_ ?_
       rotate_left
       ·intro w'
        go_simp
        with_reducible rfl
       rotate_left
       ·simp only [Act.put, List.setIfInBounds_toArray, List.set_cons_zero, List.set_cons_succ, i64_w, i32_w]
        rfl
       refine pure_ (i := 19) (N := some 102) (v := undef) (a' := ?_) #[true, true, true, true, true, true, true, true, true, true, true, true, true, true, true, true, true, true, true, true, false, false, false, false, false] rfl rfl (any_of HT_.out (by kernel_rfl)) (fun _ _ _ h => h) (Or.inr ⟨by rfl, rfl⟩) ?_ ?_
       rotate_left
       ·simp only [Act.put, List.setIfInBounds_toArray, List.set_cons_zero, List.set_cons_succ, i64_w, i32_w]
        rfl
       refine pure_ (i := 20) (N := some 103) (v := undef) (a' := ?_) #[true, true, true, true, true, true, true, true, true, true, true, true, true, true, true, true, true, true, true, true, true, false, false, false, false] rfl rfl (any_of HT_.out (by kernel_rfl)) (fun _ _ _ h => h) (Or.inr ⟨by rfl, rfl⟩) ?_ ?_
       rotate_left
       ·simp only [Act.put, List.setIfInBounds_toArray, List.set_cons_zero, List.set_cons_succ, i64_w, i32_w]
        rfl
       refine pure_ (i := 21) (N := some 104) (v := undef) (a' := ?_) #[true, true, true, true, true, true, true, true, true, true, true, true, true, true, true, true, true, true, true, true, true, true, false, false, false] rfl rfl (any_of HT_.out (by kernel_rfl)) (fun _ _ _ h => h) (Or.inr ⟨by rfl, rfl⟩) ?_ ?_
       rotate_left
       ·simp only [Act.put, List.setIfInBounds_toArray, List.set_cons_zero, List.set_cons_succ, i64_w, i32_w]
        rfl
       refine pure_ (i := 22) (N := some 105) (v := undef) (a' := ?_) #[true, true, true, true, true, true, true, true, true, true, true, true, true, true, true, true, true, true, true, true, true, true, true, false, false] rfl rfl (any_of HT_.out (by kernel_rfl)) (fun _ _ _ h => h) (Or.inr ⟨by rfl, rfl⟩) ?_ ?_
       rotate_left
       ·simp only [Act.put, List.setIfInBounds_toArray, List.set_cons_zero, List.set_cons_succ, i64_w, i32_w]
        rfl
       refine pure_ (i := 23) (N := some 106) (v := undef) (a' := ?_) #[true, true, true, true, true, true, true, true, true, true, true, true, true, true, true, true, true, true, true, true, true, true, true, true, false] rfl rfl (any_of HT_.out (by kernel_rfl)) (fun _ _ _ h => h) (Or.inr ⟨by rfl, rfl⟩) ?_ ?_
       rotate_left
       ·simp only [Act.put, List.setIfInBounds_toArray, List.set_cons_zero, List.set_cons_succ, i64_w, i32_w]
        rfl
       refine pure_ (i := 24) (N := some 107) (v := ?_) (a' := ?_) #[true, true, true, true, true, true, true, true, true, true, true, true, true, true, true, true, true, true, true, true, true, true, true, true, true] rfl rfl (any_of HT_.out (by kernel_rfl)) (fun _ _ _ h => h) (Or.inl ⟨by rfl, ?_⟩) ?_ ?_
       rotate_left
       ·intro w'
        go_simp
        with_reducible rfl
       rotate_left
       ·simp only [Act.put, List.setIfInBounds_toArray, List.set_cons_zero, List.set_cons_succ, i64_w, i32_w]
        rfl
       refine done_ (done_of HT_.out (by kernel_rfl)) ?_
       try go_wp2
       go_meet
       case rel => exact ⟨_, (true), (by first | rfl | (simp; done) | (simp [*]; done)), H', ⟨by first | omega | exact Nat.le_refl _⟩, ⟨kp_ BK441⟩, ⟨hb_ HB⟩⟩
     ·as_aux_lemma =>
      rw [if_neg c18] at H
      have c18b0 : (t443 == t447) = false := beq_eq_false_iff_ne.mpr c18
      have c18b1 : (t443 != t447) = true := bne_iff_ne.mpr c18
      have H' := Aside0.mk H
      clear H
      try go_wp2
      have n0_ := Aside0.mk (blk_drew BK441.out)
      have n1_ := Aside0.mk (below_drew1 HB.out)
      clear BK441
      clear HB
      have BK441 := n0_
      have HB := n1_
      clear n0_ n1_
      refine start_ (n := 25) (S := fun w' => True) (ds := []) #[false, false, false, false, false, false, false, false, false, false, false, false, false, false, false, false, false, false, false, false, false, false, false, false, false] (by kernel_rfl) rfl rfl trivial (fun hHeld => ?_); refine with_tabW laws_FnGrids.tab6 laws_FnGrids.bits6 (fun HT_ HW_ => ?_)
      generalize w14.drew = w26 at BK441 HB hHeld ⊢
      refine pure_ (i := 0) (N := some 83) (v := ?_) (a' := ?_) #[true, false, false, false, false, false, false, false, false, false, false, false, false, false, false, false, false, false, false, false, false, false, false, false, false] rfl rfl (any_of HT_.out (by kernel_rfl)) (fun _ _ _ h => h) (Or.inl ⟨by rfl, ?_⟩) ?_ ?_
      rotate_left
      ·intro w'
       go_simp
       with_reducible rfl
      rotate_left
      ·simp only [Act.put, List.setIfInBounds_toArray, List.set_cons_zero, List.set_cons_succ, i64_w, i32_w]
       rfl
      refine pure_ (i := 1) (N := some 84) (v := ?_) (a' := ?_) #[true, true, false, false, false, false, false, false, false, false, false, false, false, false, false, false, false, false, false, false, false, false, false, false, false] rfl rfl (any_of HT_.out (by kernel_rfl)) (fun _ _ _ h => h) (Or.inl ⟨by rfl, ?_⟩) ?_ ?_
      rotate_left
      ·intro w'
       go_simp
       with_reducible rfl
      rotate_left
      ·simp only [Act.put, List.setIfInBounds_toArray, List.set_cons_zero, List.set_cons_succ, i64_w, i32_w]
       rfl
      refine pure_ (i := 2) (N := some 85) (v := ?_) (a' := ?_) #[true, true, true, false, false, false, false, false, false, false, false, false, false, false, false, false, false, false, false, false, false, false, false, false, false] rfl rfl (any_of HT_.out (by kernel_rfl)) (fun _ _ _ h => h) (Or.inl ⟨by rfl, ?_⟩) ?_ ?_
      rotate_left
      ·intro w'
       go_simp
       with_reducible rfl
      rotate_left
      ·simp only [Act.put, List.setIfInBounds_toArray, List.set_cons_zero, List.set_cons_succ, i64_w, i32_w]
       rfl
      refine pure_ (i := 3) (N := some 86) (v := ?_) (a' := ?_) #[true, true, true, true, false, false, false, false, false, false, false, false, false, false, false, false, false, false, false, false, false, false, false, false, false] rfl rfl (any_of HT_.out (by kernel_rfl)) (fun _ _ _ h => h) (Or.inl ⟨by rfl, ?_⟩) ?_ ?_
      rotate_left
      ·intro w'
       go_simp
       with_reducible rfl
      rotate_left
      ·simp only [Act.put, List.setIfInBounds_toArray, List.set_cons_zero, List.set_cons_succ, i64_w, i32_w]
       rfl
      refine pure_ (i := 4) (N := some 87) (v := ?_) (a' := ?_) #[true, true, true, true, true, false, false, false, false, false, false, false, false, false, false, false, false, false, false, false, false, false, false, false, false] rfl rfl (any_of HT_.out (by kernel_rfl)) (fun _ _ _ h => h) (Or.inl ⟨by rfl, ?_⟩) ?_ ?_
      rotate_left
      ·intro w'
       go_simp
       with_reducible rfl
      rotate_left
      ·simp only [Act.put, List.setIfInBounds_toArray, List.set_cons_zero, List.set_cons_succ, i64_w, i32_w]
       rfl
      refine pure_ (i := 5) (N := some 88) (v := ?_) (a' := ?_) #[true, true, true, true, true, true, false, false, false, false, false, false, false, false, false, false, false, false, false, false, false, false, false, false, false] rfl rfl (any_of HT_.out (by kernel_rfl)) (fun _ _ _ h => h) (Or.inl ⟨by rfl, ?_⟩) ?_ ?_
      rotate_left
      ·intro w'
       go_simp
       with_reducible rfl
      rotate_left
      ·simp only [Act.put, List.setIfInBounds_toArray, List.set_cons_zero, List.set_cons_succ, i64_w, i32_w]
       rfl
      refine pure_ (i := 6) (N := some 89) (v := ?_) (a' := ?_) #[true, true, true, true, true, true, true, false, false, false, false, false, false, false, false, false, false, false, false, false, false, false, false, false, false] rfl rfl (any_of HT_.out (by kernel_rfl)) (fun _ _ _ h => h) (Or.inl ⟨by rfl, ?_⟩) ?_ ?_
      rotate_left
      ·intro w'
       go_simp
       with_reducible rfl
      rotate_left
      ·simp only [Act.put, List.setIfInBounds_toArray, List.set_cons_zero, List.set_cons_succ, i64_w, i32_w]
       rfl
      refine pure_ (i := 7) (N := some 90) (v := ?_) (a' := ?_) #[true, true, true, true, true, true, true, true, false, false, false, false, false, false, false, false, false, false, false, false, false, false, false, false, false] rfl rfl (any_of HT_.out (by kernel_rfl)) (fun _ _ _ h => h) (Or.inl ⟨by rfl, ?_⟩) ?_ ?_
      rotate_left
      ·intro w'
       go_simp
       with_reducible rfl
      rotate_left
      ·simp only [Act.put, List.setIfInBounds_toArray, List.set_cons_zero, List.set_cons_succ, i64_w, i32_w]
       rfl
      refine pure_ (i := 8) (N := some 91) (v := ?_) (a' := ?_) #[true, true, true, true, true, true, true, true, true, false, false, false, false, false, false, false, false, false, false, false, false, false, false, false, false] rfl rfl (any_of HT_.out (by kernel_rfl)) (fun _ _ _ h => h) (Or.inl ⟨by rfl, ?_⟩) ?_ ?_
      rotate_left
      ·intro w'
       go_simp
       with_reducible rfl
      rotate_left
      ·simp only [Act.put, List.setIfInBounds_toArray, List.set_cons_zero, List.set_cons_succ, i64_w, i32_w]
       rfl
      refine pure_ (i := 9) (N := some 92) (v := ?_) (a' := ?_) #[true, true, true, true, true, true, true, true, true, true, false, false, false, false, false, false, false, false, false, false, false, false, false, false, false] rfl rfl (any_of HT_.out (by kernel_rfl)) (fun _ _ _ h => h) (Or.inl ⟨by rfl, ?_⟩) ?_ ?_
      rotate_left
      ·intro w'
       go_simp
       with_reducible rfl
      rotate_left
      ·simp only [Act.put, List.setIfInBounds_toArray, List.set_cons_zero, List.set_cons_succ, i64_w, i32_w]
       rfl
      refine pure_ (i := 10) (N := some 93) (v := ?_) (a' := ?_) #[true, true, true, true, true, true, true, true, true, true, true, false, false, false, false, false, false, false, false, false, false, false, false, false, false] rfl rfl (any_of HT_.out (by kernel_rfl)) (fun _ _ _ h => h) (Or.inl ⟨by rfl, ?_⟩) ?_ ?_
      rotate_left
      ·intro w'
       go_simp
       with_reducible rfl
      rotate_left
      ·simp only [Act.put, List.setIfInBounds_toArray, List.set_cons_zero, List.set_cons_succ, i64_w, i32_w]
       rfl
      refine pure_ (i := 11) (N := some 94) (v := ?_) (a' := ?_) #[true, true, true, true, true, true, true, true, true, true, true, true, false, false, false, false, false, false, false, false, false, false, false, false, false] rfl rfl (any_of HT_.out (by kernel_rfl)) (fun _ _ _ h => h) (Or.inl ⟨by rfl, ?_⟩) ?_ ?_
      rotate_left
      ·intro w'
       go_simp
       with_reducible rfl
      rotate_left
      ·simp only [Act.put, List.setIfInBounds_toArray, List.set_cons_zero, List.set_cons_succ, i64_w, i32_w]
       rfl
      refine pure_ (i := 12) (N := some 95) (v := ?_) (a' := ?_) #[true, true, true, true, true, true, true, true, true, true, true, true, true, false, false, false, false, false, false, false, false, false, false, false, false] rfl rfl (any_of HT_.out (by kernel_rfl)) (fun _ _ _ h => h) (Or.inl ⟨by rfl, ?_⟩) ?_ ?_
      rotate_left
      ·intro w'
       go_simp
       with_reducible rfl
      rotate_left
      ·simp only [Act.put, List.setIfInBounds_toArray, List.set_cons_zero, List.set_cons_succ, i64_w, i32_w]
       rfl
      refine pure_ (i := 13) (N := some 96) (v := ?_) (a' := ?_) #[true, true, true, true, true, true, true, true, true, true, true, true, true, true, false, false, false, false, false, false, false, false, false, false, false] rfl rfl (any_of HT_.out (by kernel_rfl)) (fun _ _ _ h => h) (Or.inl ⟨by rfl, ?_⟩) ?_ ?_
      rotate_left
      ·intro w'
       go_simp
       with_reducible rfl
      rotate_left
      ·simp only [Act.put, List.setIfInBounds_toArray, List.set_cons_zero, List.set_cons_succ, i64_w, i32_w]
       rfl
      refine pure_ (i := 14) (N := some 97) (v := undef) (a' := ?_) #[true, true, true, true, true, true, true, true, true, true, true, true, true, true, true, false, false, false, false, false, false, false, false, false, false] rfl rfl (any_of HT_.out (by kernel_rfl)) (fun _ _ _ h => h) (Or.inr ⟨by rfl, rfl⟩) ?_ ?_
      rotate_left
      ·simp only [Act.put, List.setIfInBounds_toArray, List.set_cons_zero, List.set_cons_succ, i64_w, i32_w]
       rfl
      refine pure_ (i := 15) (N := some 98) (v := undef) (a' := ?_) #[true, true, true, true, true, true, true, true, true, true, true, true, true, true, true, true, false, false, false, false, false, false, false, false, false] rfl rfl (any_of HT_.out (by kernel_rfl)) (fun _ _ _ h => h) (Or.inr ⟨by rfl, rfl⟩) ?_ ?_
      rotate_left
      ·simp only [Act.put, List.setIfInBounds_toArray, List.set_cons_zero, List.set_cons_succ, i64_w, i32_w]
       rfl
      refine pure_ (i := 16) (N := some 99) (v := undef) (a' := ?_) #[true, true, true, true, true, true, true, true, true, true, true, true, true, true, true, true, true, false, false, false, false, false, false, false, false] rfl rfl (any_of HT_.out (by kernel_rfl)) (fun _ _ _ h => h) (Or.inr ⟨by rfl, rfl⟩) ?_ ?_
      rotate_left
      ·simp only [Act.put, List.setIfInBounds_toArray, List.set_cons_zero, List.set_cons_succ, i64_w, i32_w]
       rfl
      refine pure_ (i := 17) (N := some 100) (v := ?_) (a' := ?_) #[true, true, true, true, true, true, true, true, true, true, true, true, true, true, true, true, true, true, false, false, false, false, false, false, false] rfl rfl (any_of HT_.out (by kernel_rfl)) (fun _ _ _ h => h) (Or.inl ⟨by rfl, ?_⟩) ?_ ?_
      rotate_left
      ·intro w'
       go_simp
       with_reducible rfl
      rotate_left
      ·simp only [Act.put, List.setIfInBounds_toArray, List.set_cons_zero, List.set_cons_succ, i64_w, i32_w]
       rfl
      refine pure_ (i := 18) (N := some 101) (v := ?_) (a' := ?_) #[true, true, true, true, true, true, true, true, true, true, true, true, true, true, true, true, true, true, true, false, false, false, false, false, false] rfl rfl (any_of HT_.out (by kernel_rfl)) (fun _ _ _ h => h) (Or.inl ⟨by rfl, ?_⟩) ?_ ?_
      rotate_left
      ·intro w'
       go_simp
       with_reducible rfl
      rotate_left
      ·simp only [Act.put, List.setIfInBounds_toArray, List.set_cons_zero, List.set_cons_succ, i64_w, i32_w]
       rfl
      refine pure_ (i := 19) (N := some 102) (v := undef) (a' := ?_) #[true, true, true, true, true, true, true, true, true, true, true, true, true, true, true, true, true, true, true, true, false, false, false, false, false] rfl rfl (any_of HT_.out (by kernel_rfl)) (fun _ _ _ h => h) (Or.inr ⟨by rfl, rfl⟩) ?_ ?_
      rotate_left
      ·simp only [Act.put, List.setIfInBounds_toArray, List.set_cons_zero, List.set_cons_succ, i64_w, i32_w]
       rfl
      refine pure_ (i := 20) (N := some 103) (v := undef) (a' := ?_) #[true, true, true, true, true, true, true, true, true, true, true, true, true, true, true, true, true, true, true, true, true, false, false, false, false] rfl rfl (any_of HT_.out (by kernel_rfl)) (fun _ _ _ h => h) (Or.inr ⟨by rfl, rfl⟩) ?_ ?_
      rotate_left
      ·simp only [Act.put, List.setIfInBounds_toArray, List.set_cons_zero, List.set_cons_succ, i64_w, i32_w]
       rfl
      refine pure_ (i := 21) (N := some 104) (v := undef) (a' := ?_) #[true, true, true, true, true, true, true, true, true, true, true, true, true, true, true, true, true, true, true, true, true, true, false, false, false] rfl rfl (any_of HT_.out (by kernel_rfl)) (fun _ _ _ h => h) (Or.inr ⟨by rfl, rfl⟩) ?_ ?_
      rotate_left
      ·simp only [Act.put, List.setIfInBounds_toArray, List.set_cons_zero, List.set_cons_succ, i64_w, i32_w]
       rfl
      refine pure_ (i := 22) (N := some 105) (v := undef) (a' := ?_) #[true, true, true, true, true, true, true, true, true, true, true, true, true, true, true, true, true, true, true, true, true, true, true, false, false] rfl rfl (any_of HT_.out (by kernel_rfl)) (fun _ _ _ h => h) (Or.inr ⟨by rfl, rfl⟩) ?_ ?_
      rotate_left
      ·simp only [Act.put, List.setIfInBounds_toArray, List.set_cons_zero, List.set_cons_succ, i64_w, i32_w]
       rfl
      refine pure_ (i := 23) (N := some 106) (v := undef) (a' := ?_) #[true, true, true, true, true, true, true, true, true, true, true, true, true, true, true, true, true, true, true, true, true, true, true, true, false] rfl rfl (any_of HT_.out (by kernel_rfl)) (fun _ _ _ h => h) (Or.inr ⟨by rfl, rfl⟩) ?_ ?_
      rotate_left
      ·simp only [Act.put, List.setIfInBounds_toArray, List.set_cons_zero, List.set_cons_succ, i64_w, i32_w]
       rfl
      refine pure_ (i := 24) (N := some 107) (v := ?_) (a' := ?_) #[true, true, true, true, true, true, true, true, true, true, true, true, true, true, true, true, true, true, true, true, true, true, true, true, true] rfl rfl (any_of HT_.out (by kernel_rfl)) (fun _ _ _ h => h) (Or.inl ⟨by rfl, ?_⟩) ?_ ?_
      rotate_left
      ·intro w'
       go_simp
       with_reducible rfl
      rotate_left
      ·simp only [Act.put, List.setIfInBounds_toArray, List.set_cons_zero, List.set_cons_succ, i64_w, i32_w]
       rfl
      refine done_ (done_of HT_.out (by kernel_rfl)) ?_
      try go_wp2
      go_meet
      case rel => exact ⟨_, (true), (by first | rfl | (simp; done) | (simp [*]; done)), H', ⟨by first | omega | exact Nat.le_refl _⟩, ⟨kp_ BK441⟩, ⟨hb_ HB⟩⟩
    ·as_aux_lemma =>
     rw [if_neg c17] at H
     have c17b0 : (t442 == t446) = false := beq_eq_false_iff_ne.mpr c17
     have c17b1 : (t442 != t446) = true := bne_iff_ne.mpr c17
     have H' := Aside0.mk H
     clear H
     try go_wp2
     have n0_ := Aside0.mk (blk_drew BK441.out)
     have n1_ := Aside0.mk (below_drew1 HB.out)
     clear BK441
     clear HB
     have BK441 := n0_
     have HB := n1_
     clear n0_ n1_
     refine start_ (n := 25) (S := fun w' => True) (ds := []) #[false, false, false, false, false, false, false, false, false, false, false, false, false, false, false, false, false, false, false, false, false, false, false, false, false] (by kernel_rfl) rfl rfl trivial (fun hHeld => ?_); refine with_tabW laws_FnGrids.tab6 laws_FnGrids.bits6 (fun HT_ HW_ => ?_)
     generalize w14.drew = w27 at BK441 HB hHeld ⊢
     refine pure_ (i := 0) (N := some 83) (v := ?_) (a' := ?_) #[true, false, false, false, false, false, false, false, false, false, false, false, false, false, false, false, false, false, false, false, false, false, false, false, false] rfl rfl (any_of HT_.out (by kernel_rfl)) (fun _ _ _ h => h) (Or.inl ⟨by rfl, ?_⟩) ?_ ?_
     rotate_left
     ·intro w'
      go_simp
      with_reducible rfl
     rotate_left
     ·simp only [Act.put, List.setIfInBounds_toArray, List.set_cons_zero, List.set_cons_succ, i64_w, i32_w]
      rfl
     refine pure_ (i := 1) (N := some 84) (v := ?_) (a' := ?_) #[true, true, false, false, false, false, false, false, false, false, false, false, false, false, false, false, false, false, false, false, false, false, false, false, false] rfl rfl (any_of HT_.out (by kernel_rfl)) (fun _ _ _ h => h) (Or.inl ⟨by rfl, ?_⟩) ?_ ?_
     rotate_left
     ·intro w'
      go_simp
      with_reducible rfl
     rotate_left
     ·simp only [Act.put, List.setIfInBounds_toArray, List.set_cons_zero, List.set_cons_succ, i64_w, i32_w]
      rfl
     refine pure_ (i := 2) (N := some 85) (v := ?_) (a' := ?_) #[true, true, true, false, false, false, false, false, false, false, false, false, false, false, false, false, false, false, false, false, false, false, false, false, false] rfl rfl (any_of HT_.out (by kernel_rfl)) (fun _ _ _ h => h) (Or.inl ⟨by rfl, ?_⟩) ?_ ?_
     rotate_left
     ·intro w'
      go_simp
      with_reducible rfl
     rotate_left
     ·simp only [Act.put, List.setIfInBounds_toArray, List.set_cons_zero, List.set_cons_succ, i64_w, i32_w]
      rfl
     refine pure_ (i := 3) (N := some 86) (v := ?_) (a' := ?_) #[true, true, true, true, false, false, false, false, false, false, false, false, false, false, false, false, false, false, false, false, false, false, false, false, false] rfl rfl (any_of HT_.out (by kernel_rfl)) (fun _ _ _ h => h) (Or.inl ⟨by rfl, ?_⟩) ?_ ?_
     rotate_left
     ·intro w'
      go_simp
      with_reducible rfl
     rotate_left
     ·simp only [Act.put, List.setIfInBounds_toArray, List.set_cons_zero, List.set_cons_succ, i64_w, i32_w]
      rfl
     refine pure_ (i := 4) (N := some 87) (v := ?_) (a' := ?_) #[true, true, true, true, true, false, false, false, false, false, false, false, false, false, false, false, false, false, false, false, false, false, false, false, false] rfl rfl (any_of HT_.out (by kernel_rfl)) (fun _ _ _ h => h) (Or.inl ⟨by rfl, ?_⟩) ?_ ?_
     rotate_left
     ·intro w'
      go_simp
      with_reducible rfl
     rotate_left
     ·simp only [Act.put, List.setIfInBounds_toArray, List.set_cons_zero, List.set_cons_succ, i64_w, i32_w]
      rfl
     refine pure_ (i := 5) (N := some 88) (v := ?_) (a' := ?_) #[true, true, true, true, true, true, false, false, false, false, false, false, false, false, false, false, false, false, false, false, false, false, false, false, false] rfl rfl (any_of HT_.out (by kernel_rfl)) (fun _ _ _ h => h) (Or.inl ⟨by rfl, ?_⟩) ?_ ?_
     rotate_left
     ·intro w'
      go_simp
      with_reducible rfl
     rotate_left
     ·simp only [Act.put, List.setIfInBounds_toArray, List.set_cons_zero, List.set_cons_succ, i64_w, i32_w]
      rfl
     refine pure_ (i := 6) (N := some 89) (v := ?_) (a' := ?_) #[true, true, true, true, true, true, true, false, false, false, false, false, false, false, false, false, false, false, false, false, false, false, false, false, false] rfl rfl (any_of HT_.out (by kernel_rfl)) (fun _ _ _ h => h) (Or.inl ⟨by rfl, ?_⟩) ?_ ?_
     rotate_left
     ·intro w'
      go_simp
      with_reducible rfl
     rotate_left
     ·simp only [Act.put, List.setIfInBounds_toArray, List.set_cons_zero, List.set_cons_succ, i64_w, i32_w]
      rfl
     refine pure_ (i := 7) (N := some 90) (v := ?_) (a' := ?_) #[true, true, true, true, true, true, true, true, false, false, false, false, false, false, false, false, false, false, false, false, false, false, false, false, false] rfl rfl (any_of HT_.out (by kernel_rfl)) (fun _ _ _ h => h) (Or.inl ⟨by rfl, ?_⟩) ?_ ?_
     rotate_left
     ·intro w'
      go_simp
      with_reducible rfl
     rotate_left
     ·simp only [Act.put, List.setIfInBounds_toArray, List.set_cons_zero, List.set_cons_succ, i64_w, i32_w]
      rfl
     refine pure_ (i := 8) (N := some 91) (v := ?_) (a' := ?_) #[true, true, true, true, true, true, true, true, true, false, false, false, false, false, false, false, false, false, false, false, false, false, false, false, false] rfl rfl (any_of HT_.out (by kernel_rfl)) (fun _ _ _ h => h) (Or.inl ⟨by rfl, ?_⟩) ?_ ?_
     rotate_left
     ·intro w'
      go_simp
      with_reducible rfl
     rotate_left
     ·simp only [Act.put, List.setIfInBounds_toArray, List.set_cons_zero, List.set_cons_succ, i64_w, i32_w]
      rfl
     refine pure_ (i := 9) (N := some 92) (v := undef) (a' := ?_) #[true, true, true, true, true, true, true, true, true, true, false, false, false, false, false, false, false, false, false, false, false, false, false, false, false] rfl rfl (any_of HT_.out (by kernel_rfl)) (fun _ _ _ h => h) (Or.inr ⟨by rfl, rfl⟩) ?_ ?_
     rotate_left
     ·simp only [Act.put, List.setIfInBounds_toArray, List.set_cons_zero, List.set_cons_succ, i64_w, i32_w]
      rfl
     refine pure_ (i := 10) (N := some 93) (v := undef) (a' := ?_) #[true, true, true, true, true, true, true, true, true, true, true, false, false, false, false, false, false, false, false, false, false, false, false, false, false] rfl rfl (any_of HT_.out (by kernel_rfl)) (fun _ _ _ h => h) (Or.inr ⟨by rfl, rfl⟩) ?_ ?_
     rotate_left
     ·simp only [Act.put, List.setIfInBounds_toArray, List.set_cons_zero, List.set_cons_succ, i64_w, i32_w]
      rfl
     refine pure_ (i := 11) (N := some 94) (v := undef) (a' := ?_) #[true, true, true, true, true, true, true, true, true, true, true, true, false, false, false, false, false, false, false, false, false, false, false, false, false] rfl rfl (any_of HT_.out (by kernel_rfl)) (fun _ _ _ h => h) (Or.inr ⟨by rfl, rfl⟩) ?_ ?_
     rotate_left
     ·simp only [Act.put, List.setIfInBounds_toArray, List.set_cons_zero, List.set_cons_succ, i64_w, i32_w]
      rfl
     refine pure_ (i := 12) (N := some 95) (v := ?_) (a' := ?_) #[true, true, true, true, true, true, true, true, true, true, true, true, true, false, false, false, false, false, false, false, false, false, false, false, false] rfl rfl (any_of HT_.out (by kernel_rfl)) (fun _ _ _ h => h) (Or.inl ⟨by rfl, ?_⟩) ?_ ?_
     rotate_left
     ·intro w'
      go_simp
      with_reducible rfl
     rotate_left
     ·simp only [Act.put, List.setIfInBounds_toArray, List.set_cons_zero, List.set_cons_succ, i64_w, i32_w]
      rfl
     refine pure_ (i := 13) (N := some 96) (v := ?_) (a' := ?_) #[true, true, true, true, true, true, true, true, true, true, true, true, true, true, false, false, false, false, false, false, false, false, false, false, false] rfl rfl (any_of HT_.out (by kernel_rfl)) (fun _ _ _ h => h) (Or.inl ⟨by rfl, ?_⟩) ?_ ?_
     rotate_left
     ·intro w'
      go_simp
      with_reducible rfl
     rotate_left
     ·simp only [Act.put, List.setIfInBounds_toArray, List.set_cons_zero, List.set_cons_succ, i64_w, i32_w]
      rfl
     refine pure_ (i := 14) (N := some 97) (v := undef) (a' := ?_) #[true, true, true, true, true, true, true, true, true, true, true, true, true, true, true, false, false, false, false, false, false, false, false, false, false] rfl rfl (any_of HT_.out (by kernel_rfl)) (fun _ _ _ h => h) (Or.inr ⟨by rfl, rfl⟩) ?_ ?_
     rotate_left
     ·simp only [Act.put, List.setIfInBounds_toArray, List.set_cons_zero, List.set_cons_succ, i64_w, i32_w]
      rfl
     refine pure_ (i := 15) (N := some 98) (v := undef) (a' := ?_) #[true, true, true, true, true, true, true, true, true, true, true, true, true, true, true, true, false, false, false, false, false, false, false, false, false] rfl rfl (any_of HT_.out (by kernel_rfl)) (fun _ _ _ h => h) (Or.inr ⟨by rfl, rfl⟩) ?_ ?_
     rotate_left
     ·simp only [Act.put, List.setIfInBounds_toArray, List.set_cons_zero, List.set_cons_succ, i64_w, i32_w]
      rfl
     refine pure_ (i := 16) (N := some 99) (v := undef) (a' := ?_) #[true, true, true, true, true, true, true, true, true, true, true, true, true, true, true, true, true, false, false, false, false, false, false, false, false] rfl rfl (any_of HT_.out (by kernel_rfl)) (fun _ _ _ h => h) (Or.inr ⟨by rfl, rfl⟩) ?_ ?_
     rotate_left
     ·simp only [Act.put, List.setIfInBounds_toArray, List.set_cons_zero, List.set_cons_succ, i64_w, i32_w]
      rfl
     refine pure_ (i := 17) (N := some 100) (v := ?_) (a' := ?_) #[true, true, true, true, true, true, true, true, true, true, true, true, true, true, true, true, true, true, false, false, false, false, false, false, false] rfl rfl (any_of HT_.out (by kernel_rfl)) (fun _ _ _ h => h) (Or.inl ⟨by rfl, ?_⟩) ?_ ?_
     rotate_left
     ·intro w'
      go_simp
      with_reducible rfl
     rotate_left
     ·simp only [Act.put, List.setIfInBounds_toArray, List.set_cons_zero, List.set_cons_succ, i64_w, i32_w]
      rfl
     refine pure_ (i := 18) (N := some 101) (v := ?_) (a' := ?_) #[true, true, true, true, true, true, true, true, true, true, true, true, true, true, true, true, true, true, true, false, false, false, false, false, false] rfl rfl (any_of HT_.out (by kernel_rfl)) (fun _ _ _ h => h) (Or.inl ⟨by rfl, ?_⟩) ?_ ?_
     rotate_left
     ·intro w'
      go_simp
      with_reducible rfl
     rotate_left
     ·simp only [Act.put, List.setIfInBounds_toArray, List.set_cons_zero, List.set_cons_succ, i64_w, i32_w]
      rfl
     refine pure_ (i := 19) (N := some 102) (v := undef) (a' := ?_) #[true, true, true, true, true, true, true, true, true, true, true, true, true, true, true, true, true, true, true, true, false, false, false, false, false] rfl rfl (any_of HT_.out (by kernel_rfl)) (fun _ _ _ h => h) (Or.inr ⟨by rfl, rfl⟩) ?_ ?_
     rotate_left
     ·simp only [Act.put, List.setIfInBounds_toArray, List.set_cons_zero, List.set_cons_succ, i64_w, i32_w]
      rfl
     refine pure_ (i := 20) (N := some 103) (v := undef) (a' := ?_) #[true, true, true, true, true, true, true, true, true, true, true, true, true, true, true, true, true, true, true, true, true, false, false, false, false] rfl rfl (any_of HT_.out (by kernel_rfl)) (fun _ _ _ h => h) (Or.inr ⟨by rfl, rfl⟩) ?_ ?_
     rotate_left
     ·simp only [Act.put, List.setIfInBounds_toArray, List.set_cons_zero, List.set_cons_succ, i64_w, i32_w]
      rfl
     refine pure_ (i := 21) (N := some 104) (v := undef) (a' := ?_) #[true, true, true, true, true, true, true, true, true, true, true, true, true, true, true, true, true, true, true, true, true, true, false, false, false] rfl rfl (any_of HT_.out (by kernel_rfl)) (fun _ _ _ h => h) (Or.inr ⟨by rfl, rfl⟩) ?_ ?_
     rotate_left
     ·simp only [Act.put, List.setIfInBounds_toArray, List.set_cons_zero, List.set_cons_succ, i64_w, i32_w]
      rfl
     refine pure_ (i := 22) (N := some 105) (v := undef) (a' := ?_) #[true, true, true, true, true, true, true, true, true, true, true, true, true, true, true, true, true, true, true, true, true, true, true, false, false] rfl rfl (any_of HT_.out (by kernel_rfl)) (fun _ _ _ h => h) (Or.inr ⟨by rfl, rfl⟩) ?_ ?_
     rotate_left
     ·simp only [Act.put, List.setIfInBounds_toArray, List.set_cons_zero, List.set_cons_succ, i64_w, i32_w]
      rfl
     refine pure_ (i := 23) (N := some 106) (v := undef) (a' := ?_) #[true, true, true, true, true, true, true, true, true, true, true, true, true, true, true, true, true, true, true, true, true, true, true, true, false] rfl rfl (any_of HT_.out (by kernel_rfl)) (fun _ _ _ h => h) (Or.inr ⟨by rfl, rfl⟩) ?_ ?_
     rotate_left
     ·simp only [Act.put, List.setIfInBounds_toArray, List.set_cons_zero, List.set_cons_succ, i64_w, i32_w]
      rfl
     refine pure_ (i := 24) (N := some 107) (v := ?_) (a' := ?_) #[true, true, true, true, true, true, true, true, true, true, true, true, true, true, true, true, true, true, true, true, true, true, true, true, true] rfl rfl (any_of HT_.out (by kernel_rfl)) (fun _ _ _ h => h) (Or.inl ⟨by rfl, ?_⟩) ?_ ?_
     rotate_left
     ·intro w'
      go_simp
      with_reducible rfl
     rotate_left
     ·simp only [Act.put, List.setIfInBounds_toArray, List.set_cons_zero, List.set_cons_succ, i64_w, i32_w]
      rfl
     refine done_ (done_of HT_.out (by kernel_rfl)) ?_
     try go_wp2
     go_meet
     case rel => exact ⟨_, (true), (by first | rfl | (simp; done) | (simp [*]; done)), H', ⟨by first | omega | exact Nat.le_refl _⟩, ⟨kp_ BK441⟩, ⟨hb_ HB⟩⟩
  case rest => as_aux_lemma =>
   clear HC8
   (try clear c1); (try clear p2); (try clear c17); (try clear c17b0); (try clear c17b1); (try clear c18); (try clear c18b0); (try clear c18b1); (try clear c19); (try clear c19b0); (try clear c19b1); (try clear hcz11_0); (try clear hcz11_1); (try clear hcz11_2); (try clear hcz13_0); (try clear hcz13_1); (try clear hcz13_2); (try clear hfz11_0); (try clear hfz11_1); (try clear hfz11_2); (try clear hfz13_0); (try clear hfz13_1); (try clear hfz13_2)
   obtain ⟨kq, x107_7, rfl, HA, HJ7, BK441, HB⟩ := hcut
   cases kq with
   | zero => exact absurd HA.out (by simp [laws_FnGrids.j0])
   | succ kj7 => as_aux_lemma =>
    have H := HA.out
    clear HA
    simp only [laws_FnGrids.j0] at H
    by_cases c28 : x107_7 = true
    ·subst c28
     have H1 : (some false) = some r := by rw [if_pos rfl] at H; exact H
     clear H
     have H := H1
     clear H1
     obtain rfl := Option.some.inj H
     go_wp2
     go_ret
     exact ⟨by first | rfl | (simp [errW_none, errW_some] <;> rfl) | (simp [*, errW_none, errW_some] <;> rfl), hb_ HB⟩
    ·as_aux_lemma =>
     replace c28 := Bool.eq_false_iff.mpr c28
     subst c28
     have H1 : (if t445 = true then ((impl_BlockAt.f t437 t438 t439 t442 t443 t444).bind fun bt452 => ((impl_BlockName.f t437 t438 t439 t440).bind fun bt454 => ((impl_ParseBlock.f kj7 t437 t438 t439 bt454.1).bind fun bt456 => ((impl_BlockCount.f t437 t438 t439).bind fun bt458 => (if bt452.2 = true then (if bt452.1 = t440 then (if bt454.2 = true then (if bt456.2 = true then (if bt456.1 = t440 then (if bt458.2 = true then (laws_FnGrids.j1 kj7 l1 t440 t442 t443 t444 (bt458.1 != (wrap64 ((wrap64 (t437 * t438)) * t439))) t437 t438 t439) else (laws_FnGrids.j1 kj7 l1 t440 t442 t443 t444 true t437 t438 t439)) else (laws_FnGrids.j1 kj7 l1 t440 t442 t443 t444 true t437 t438 t439)) else (laws_FnGrids.j1 kj7 l1 t440 t442 t443 t444 true t437 t438 t439)) else (laws_FnGrids.j1 kj7 l1 t440 t442 t443 t444 true t437 t438 t439)) else (laws_FnGrids.j1 kj7 l1 t440 t442 t443 t444 true t437 t438 t439)) else (laws_FnGrids.j1 kj7 l1 t440 t442 t443 t444 true t437 t438 t439)))))) else (laws_FnGrids.j2 kj7 l1)) = some r := by rw [if_neg (show ¬ (false = true) by decide)] at H; exact H
     clear H
     have H := H1
     clear H1
     have HC29 := Aside0.mk H
     clear H
     go_upto_if 108 with (fail)
     go_cut [] (fun wc => ∃ (kq : Nat), Aside0 (laws_FnGrids.j2 kq l1 = some r) ∧ Aside0 (kq ≤ kj7) ∧ Aside0 (Below w.heap.size w wc))
     case first =>
      have H := HC29.out
      clear HC29
      by_cases c30 : t445 = true
      ·subst c30
       have H1 : ((impl_BlockAt.f t437 t438 t439 t442 t443 t444).bind fun bt452 => ((impl_BlockName.f t437 t438 t439 t440).bind fun bt454 => ((impl_ParseBlock.f kj7 t437 t438 t439 bt454.1).bind fun bt456 => ((impl_BlockCount.f t437 t438 t439).bind fun bt458 => (if bt452.2 = true then (if bt452.1 = t440 then (if bt454.2 = true then (if bt456.2 = true then (if bt456.1 = t440 then (if bt458.2 = true then (laws_FnGrids.j1 kj7 l1 t440 t442 t443 t444 (bt458.1 != (wrap64 ((wrap64 (t437 * t438)) * t439))) t437 t438 t439) else (laws_FnGrids.j1 kj7 l1 t440 t442 t443 t444 true t437 t438 t439)) else (laws_FnGrids.j1 kj7 l1 t440 t442 t443 t444 true t437 t438 t439)) else (laws_FnGrids.j1 kj7 l1 t440 t442 t443 t444 true t437 t438 t439)) else (laws_FnGrids.j1 kj7 l1 t440 t442 t443 t444 true t437 t438 t439)) else (laws_FnGrids.j1 kj7 l1 t440 t442 t443 t444 true t437 t438 t439)) else (laws_FnGrids.j1 kj7 l1 t440 t442 t443 t444 true t437 t438 t439)))))) = some r := by rw [if_pos rfl] at H; exact H
       clear H
       have H := H1
       clear H1
       replace H := Option.bind_eq_some_iff.mp H
       obtain ⟨⟨t452, t453⟩, A310, H⟩ := H
       replace H : ((impl_BlockName.f t437 t438 t439 t440).bind fun bt454 => ((impl_ParseBlock.f kj7 t437 t438 t439 bt454.1).bind fun bt456 => ((impl_BlockCount.f t437 t438 t439).bind fun bt458 => (if t453 = true then (if t452 = t440 then (if bt454.2 = true then (if bt456.2 = true then (if bt456.1 = t440 then (if bt458.2 = true then (laws_FnGrids.j1 kj7 l1 t440 t442 t443 t444 (bt458.1 != (wrap64 ((wrap64 (t437 * t438)) * t439))) t437 t438 t439) else (laws_FnGrids.j1 kj7 l1 t440 t442 t443 t444 true t437 t438 t439)) else (laws_FnGrids.j1 kj7 l1 t440 t442 t443 t444 true t437 t438 t439)) else (laws_FnGrids.j1 kj7 l1 t440 t442 t443 t444 true t437 t438 t439)) else (laws_FnGrids.j1 kj7 l1 t440 t442 t443 t444 true t437 t438 t439)) else (laws_FnGrids.j1 kj7 l1 t440 t442 t443 t444 true t437 t438 t439)) else (laws_FnGrids.j1 kj7 l1 t440 t442 t443 t444 true t437 t438 t439))))) = some r := H
       have A31 := Aside0.mk A310
       clear A310
       replace H := Option.bind_eq_some_iff.mp H
       obtain ⟨⟨t454, t455⟩, A320, H⟩ := H
       replace H : ((impl_ParseBlock.f kj7 t437 t438 t439 t454).bind fun bt456 => ((impl_BlockCount.f t437 t438 t439).bind fun bt458 => (if t453 = true then (if t452 = t440 then (if t455 = true then (if bt456.2 = true then (if bt456.1 = t440 then (if bt458.2 = true then (laws_FnGrids.j1 kj7 l1 t440 t442 t443 t444 (bt458.1 != (wrap64 ((wrap64 (t437 * t438)) * t439))) t437 t438 t439) else (laws_FnGrids.j1 kj7 l1 t440 t442 t443 t444 true t437 t438 t439)) else (laws_FnGrids.j1 kj7 l1 t440 t442 t443 t444 true t437 t438 t439)) else (laws_FnGrids.j1 kj7 l1 t440 t442 t443 t444 true t437 t438 t439)) else (laws_FnGrids.j1 kj7 l1 t440 t442 t443 t444 true t437 t438 t439)) else (laws_FnGrids.j1 kj7 l1 t440 t442 t443 t444 true t437 t438 t439)) else (laws_FnGrids.j1 kj7 l1 t440 t442 t443 t444 true t437 t438 t439)))) = some r := H
       have A32 := Aside0.mk A320
       clear A320
       replace H := Option.bind_eq_some_iff.mp H
       obtain ⟨⟨t456, t457⟩, A330, H⟩ := H
       replace H : ((impl_BlockCount.f t437 t438 t439).bind fun bt458 => (if t453 = true then (if t452 = t440 then (if t455 = true then (if t457 = true then (if t456 = t440 then (if bt458.2 = true then (laws_FnGrids.j1 kj7 l1 t440 t442 t443 t444 (bt458.1 != (wrap64 ((wrap64 (t437 * t438)) * t439))) t437 t438 t439) else (laws_FnGrids.j1 kj7 l1 t440 t442 t443 t444 true t437 t438 t439)) else (laws_FnGrids.j1 kj7 l1 t440 t442 t443 t444 true t437 t438 t439)) else (laws_FnGrids.j1 kj7 l1 t440 t442 t443 t444 true t437 t438 t439)) else (laws_FnGrids.j1 kj7 l1 t440 t442 t443 t444 true t437 t438 t439)) else (laws_FnGrids.j1 kj7 l1 t440 t442 t443 t444 true t437 t438 t439)) else (laws_FnGrids.j1 kj7 l1 t440 t442 t443 t444 true t437 t438 t439))) = some r := H
       have A33 := Aside0.mk A330
       clear A330
       replace H := Option.bind_eq_some_iff.mp H
       obtain ⟨⟨t458, t459⟩, A340, H⟩ := H
       replace H : (if t453 = true then (if t452 = t440 then (if t455 = true then (if t457 = true then (if t456 = t440 then (if t459 = true then (laws_FnGrids.j1 kj7 l1 t440 t442 t443 t444 (t458 != (wrap64 ((wrap64 (t437 * t438)) * t439))) t437 t438 t439) else (laws_FnGrids.j1 kj7 l1 t440 t442 t443 t444 true t437 t438 t439)) else (laws_FnGrids.j1 kj7 l1 t440 t442 t443 t444 true t437 t438 t439)) else (laws_FnGrids.j1 kj7 l1 t440 t442 t443 t444 true t437 t438 t439)) else (laws_FnGrids.j1 kj7 l1 t440 t442 t443 t444 true t437 t438 t439)) else (laws_FnGrids.j1 kj7 l1 t440 t442 t443 t444 true t437 t438 t439)) else (laws_FnGrids.j1 kj7 l1 t440 t442 t443 t444 true t437 t438 t439)) = some r := H
       have A34 := Aside0.mk A340
       clear A340
       have HC35 := Aside0.mk H
       clear H
       have hcz36_0 : wc.cell? ⟨gb441, 0, none⟩ = some (.int .i64 t437) := (blk_cell BK441.out 0).trans rfl
       have hcz36_1 : wc.cell? ⟨gb441, 1, none⟩ = some (.int .i64 t438) := (blk_cell BK441.out 1).trans rfl
       have hcz36_2 : wc.cell? ⟨gb441, 2, none⟩ = some (.int .i64 t439) := (blk_cell BK441.out 2).trans rfl
       have hfz36_0 := blk_frozen BK441.out 0
       have hfz36_1 := blk_frozen BK441.out 1
       have hfz36_2 := blk_frozen BK441.out 2
       go_upto_region 13 with (first | ((with_reducible refine gate_callee (f := 20) rfl ?_); refine gl_ (some 114) Tryd.func20 #[.agg #[.int .i64 t437, .int .i64 t438, .int .i64 t439], .int .i64 t442, .int .i64 t443, .int .i64 t444] rfl rfl rfl ?_; (with_reducible refine (impl_BlockAt.calls t437 t438 t439 t442 t443 t444 t452 t453 _ A31.out).mono ?_); rintro e w37 ⟨rfl, hb⟩; refine ⟨_, rfl, ?_⟩; replace BK441 := kb_ BK441 hb; replace HB := hbs_ HB hb; (try clear hb); (try clear hb2); (try clear hk); (try clear hi); obtain ⟨hcz38_0, hcz38_1, hcz38_2, hfz38_0, hfz38_1, hfz38_2⟩ := bx3 BK441) | ((with_reducible refine gate_callee (f := 9) rfl ?_); refine gl_ (some 120) Tryd.func9 #[.agg #[.int .i64 t437, .int .i64 t438, .int .i64 t439], .int .i64 t440] rfl rfl rfl ?_; (with_reducible refine (impl_BlockName.calls t437 t438 t439 t440 t454 t455 _ A32.out).mono ?_); rintro e w39 ⟨rfl, hb⟩; refine ⟨_, rfl, ?_⟩; replace BK441 := kb_ BK441 hb; replace HB := hbs_ HB hb; (try clear hb); (try clear hb2); (try clear hk); (try clear hi); obtain ⟨hcz40_0, hcz40_1, hcz40_2, hfz40_0, hfz40_1, hfz40_2⟩ := bx3 BK441) | ((with_reducible refine gate_callee (f := 11) rfl ?_); refine gl_ (some 126) Tryd.func11 #[.agg #[.int .i64 t437, .int .i64 t438, .int .i64 t439], .string t454] rfl rfl rfl ?_; (with_reducible refine (impl_ParseBlock.calls kj7 t437 t438 t439 t454 t456 t457 _ A33.out).mono ?_); rintro e w41 ⟨rfl, hb⟩; refine ⟨_, rfl, ?_⟩; replace BK441 := kb_ BK441 hb; replace HB := hbs_ HB hb; (try clear hb); (try clear hb2); (try clear hk); (try clear hi); obtain ⟨hcz42_0, hcz42_1, hcz42_2, hfz42_0, hfz42_1, hfz42_2⟩ := bx3 BK441) | ((with_reducible refine gate_callee (f := 21) rfl ?_); refine gl_ (some 131) Tryd.func21 #[.agg #[.int .i64 t437, .int .i64 t438, .int .i64 t439]] rfl rfl rfl ?_; (with_reducible refine (impl_BlockCount.calls t437 t438 t439 t458 t459 _ A34.out).mono ?_); rintro e w43 ⟨rfl, hb⟩; refine ⟨_, rfl, ?_⟩; replace BK441 := kb_ BK441 hb; replace HB := hbs_ HB hb; (try clear hb); (try clear hb2); (try clear hk); (try clear hi)))
       (try simp only [Act.put, List.setIfInBounds_toArray, List.set_cons_zero, List.set_cons_succ])
       go_cut [169] (fun v169 wc => ∃ (kq : Nat) (x169_34 : Bool), v169 = .bool x169_34 ∧ Aside0 (laws_FnGrids.j1 kq l1 t440 t442 t443 t444 x169_34 t437 t438 t439 = some r) ∧ Aside0 (kq ≤ kj7) ∧ Aside0 (wc.heap[gb441]? = some (.cells #[.int .i64 t437, .int .i64 t438, .int .i64 t439] 26 (0, 0))) ∧ Aside0 (Below w.heap.size w wc))
       case first => as_aux_lemma =>
        have H := HC35.out
        clear HC35
        by_cases c44 : t453 = true
        ·subst c44
         have H1 : (if t452 = t440 then (if t455 = true then (if t457 = true then (if t456 = t440 then (if t459 = true then (laws_FnGrids.j1 kj7 l1 t440 t442 t443 t444 (t458 != (wrap64 ((wrap64 (t437 * t438)) * t439))) t437 t438 t439) else (laws_FnGrids.j1 kj7 l1 t440 t442 t443 t444 true t437 t438 t439)) else (laws_FnGrids.j1 kj7 l1 t440 t442 t443 t444 true t437 t438 t439)) else (laws_FnGrids.j1 kj7 l1 t440 t442 t443 t444 true t437 t438 t439)) else (laws_FnGrids.j1 kj7 l1 t440 t442 t443 t444 true t437 t438 t439)) else (laws_FnGrids.j1 kj7 l1 t440 t442 t443 t444 true t437 t438 t439)) = some r := by rw [if_pos rfl] at H; exact H
         clear H
         have H := H1
         clear H1
         by_cases c45 : t452 = t440
         ·rw [if_pos c45] at H
          have c45b0 : (t452 == t440) = true := beq_iff_eq.mpr c45
          have c45b1 : (t452 != t440) = false := bne_eq_false_iff_eq.mpr c45
          clear c45
          (first | rw [c45b0] | (simp only [i64_w, i32_w]; rw [c45b0]) | skip)
          by_cases c46 : t455 = true
          ·subst c46
           have H1 : (if t457 = true then (if t456 = t440 then (if t459 = true then (laws_FnGrids.j1 kj7 l1 t440 t442 t443 t444 (t458 != (wrap64 ((wrap64 (t437 * t438)) * t439))) t437 t438 t439) else (laws_FnGrids.j1 kj7 l1 t440 t442 t443 t444 true t437 t438 t439)) else (laws_FnGrids.j1 kj7 l1 t440 t442 t443 t444 true t437 t438 t439)) else (laws_FnGrids.j1 kj7 l1 t440 t442 t443 t444 true t437 t438 t439)) = some r := by rw [if_pos rfl] at H; exact H
           clear H
           have H := H1
           clear H1
           by_cases c47 : t457 = true
           ·as_aux_lemma =>
            subst c47
            have H1 : (if t456 = t440 then (if t459 = true then (laws_FnGrids.j1 kj7 l1 t440 t442 t443 t444 (t458 != (wrap64 ((wrap64 (t437 * t438)) * t439))) t437 t438 t439) else (laws_FnGrids.j1 kj7 l1 t440 t442 t443 t444 true t437 t438 t439)) else (laws_FnGrids.j1 kj7 l1 t440 t442 t443 t444 true t437 t438 t439)) = some r := by rw [if_pos rfl] at H; exact H
            clear H
            have H := H1
            clear H1
            by_cases c48 : t456 = t440
            ·rw [if_pos c48] at H
             have c48b0 : (t456 == t440) = true := beq_iff_eq.mpr c48
             have c48b1 : (t456 != t440) = false := bne_eq_false_iff_eq.mpr c48
             clear c48
             by_cases c49 : t459 = true
             ·subst c49
              have H1 : (laws_FnGrids.j1 kj7 l1 t440 t442 t443 t444 (t458 != (wrap64 ((wrap64 (t437 * t438)) * t439))) t437 t438 t439) = some r := by rw [if_pos rfl] at H; exact H
              clear H
              have H := H1
              clear H1
              have H' := Aside0.mk H
              clear H
              have hcz50_0 : w43.cell? ⟨gb441, 0, none⟩ = some (.int .i64 t437) := (blk_cell BK441.out 0).trans rfl
              have hcz50_1 : w43.cell? ⟨gb441, 1, none⟩ = some (.int .i64 t438) := (blk_cell BK441.out 1).trans rfl
              have hcz50_2 : w43.cell? ⟨gb441, 2, none⟩ = some (.int .i64 t439) := (blk_cell BK441.out 2).trans rfl
              have hfz50_0 := blk_frozen BK441.out 0
              have hfz50_1 := blk_frozen BK441.out 1
              have hfz50_2 := blk_frozen BK441.out 2
              go_wp2
              go_meet
              case rel => exact ⟨_, ((t458 != (wrap64 ((wrap64 (t437 * t438)) * t439)))), (by first | rfl | (simp; done) | (simp [*]; done)), H', ⟨by have := HJ7.out; first | omega | exact Nat.le_refl _⟩, ⟨kp_ BK441⟩, ⟨hb_ HB⟩⟩
             ·replace c49 := Bool.eq_false_iff.mpr c49
              subst c49
              have H1 : (laws_FnGrids.j1 kj7 l1 t440 t442 t443 t444 true t437 t438 t439) = some r := by rw [if_neg (show ¬ (false = true) by decide)] at H; exact H
              clear H
              have H := H1
              clear H1
              have H' := Aside0.mk H
              clear H
              go_wp2
              go_meet
              case rel => exact ⟨_, (true), (by first | rfl | (simp; done) | (simp [*]; done)), H', ⟨by have := HJ7.out; first | omega | exact Nat.le_refl _⟩, ⟨kp_ BK441⟩, ⟨hb_ HB⟩⟩
            ·rw [if_neg c48] at H
             have c48b0 : (t456 == t440) = false := beq_eq_false_iff_ne.mpr c48
             have c48b1 : (t456 != t440) = true := bne_iff_ne.mpr c48
             have H' := Aside0.mk H
             clear H
             go_wp2
             go_meet
             case rel => exact ⟨_, (true), (by first | rfl | (simp; done) | (simp [*]; done)), H', ⟨by have := HJ7.out; first | omega | exact Nat.le_refl _⟩, ⟨kp_ BK441⟩, ⟨hb_ HB⟩⟩
           ·replace c47 := Bool.eq_false_iff.mpr c47
            subst c47
            have H1 : (laws_FnGrids.j1 kj7 l1 t440 t442 t443 t444 true t437 t438 t439) = some r := by rw [if_neg (show ¬ (false = true) by decide)] at H; exact H
            clear H
            have H := H1
            clear H1
            have H' := Aside0.mk H
            clear H
            go_wp2
            go_meet
            case rel => exact ⟨_, (true), (by first | rfl | (simp; done) | (simp [*]; done)), H', ⟨by have := HJ7.out; first | omega | exact Nat.le_refl _⟩, ⟨kp_ BK441⟩, ⟨hb_ HB⟩⟩
          ·replace c46 := Bool.eq_false_iff.mpr c46
           subst c46
           have H1 : (laws_FnGrids.j1 kj7 l1 t440 t442 t443 t444 true t437 t438 t439) = some r := by rw [if_neg (show ¬ (false = true) by decide)] at H; exact H
           clear H
           have H := H1
           clear H1
           have H' := Aside0.mk H
           clear H
           go_wp2
           go_meet
           case rel => exact ⟨_, (true), (by first | rfl | (simp; done) | (simp [*]; done)), H', ⟨by have := HJ7.out; first | omega | exact Nat.le_refl _⟩, ⟨kp_ BK441⟩, ⟨hb_ HB⟩⟩
         ·rw [if_neg c45] at H
          have c45b0 : (t452 == t440) = false := beq_eq_false_iff_ne.mpr c45
          have c45b1 : (t452 != t440) = true := bne_iff_ne.mpr c45
          (first | rw [c45b0] | (simp only [i64_w, i32_w]; rw [c45b0]) | skip)
          have H' := Aside0.mk H
          clear H
          go_wp2
          go_meet
          case rel => exact ⟨_, (true), (by first | rfl | (simp; done) | (simp [*]; done)), H', ⟨by have := HJ7.out; first | omega | exact Nat.le_refl _⟩, ⟨kp_ BK441⟩, ⟨hb_ HB⟩⟩
        ·replace c44 := Bool.eq_false_iff.mpr c44
         subst c44
         have H1 : (laws_FnGrids.j1 kj7 l1 t440 t442 t443 t444 true t437 t438 t439) = some r := by rw [if_neg (show ¬ (false = true) by decide)] at H; exact H
         clear H
         have H := H1
         clear H1
         have H' := Aside0.mk H
         clear H
         go_wp2
         go_meet
         case rel => exact ⟨_, (true), (by first | rfl | (simp; done) | (simp [*]; done)), H', ⟨by have := HJ7.out; first | omega | exact Nat.le_refl _⟩, ⟨kp_ BK441⟩, ⟨hb_ HB⟩⟩
       case rest => as_aux_lemma =>
        clear HC35
        (try clear c1); (try clear c2); (try clear p2); (try clear c3); (try clear c4); (try clear p6); (try clear c9); (try clear c11); (try clear c17); (try clear c17b0); (try clear c17b1); (try clear c18); (try clear c18b0); (try clear c18b1); (try clear c19); (try clear c19b0); (try clear c19b1); (try clear c20); (try clear c21); (try clear c28); (try clear c30); (try clear c44); (try clear c45); (try clear c45b0); (try clear c45b1); (try clear c46); (try clear c47); (try clear c48); (try clear c48b0); (try clear c48b1); (try clear c49); (try clear hcz36_0); (try clear hcz36_1); (try clear hcz36_2); (try clear hcz38_0); (try clear hcz38_1); (try clear hcz38_2); (try clear hcz40_0); (try clear hcz40_1); (try clear hcz40_2); (try clear hcz42_0); (try clear hcz42_1); (try clear hcz42_2); (try clear hfz36_0); (try clear hfz36_1); (try clear hfz36_2); (try clear hfz38_0); (try clear hfz38_1); (try clear hfz38_2); (try clear hfz40_0); (try clear hfz40_1); (try clear hfz40_2); (try clear hfz42_0); (try clear hfz42_1); (try clear hfz42_2)
        obtain ⟨kq, x169_34, rfl, HA, HJ34, BK441, HB⟩ := hcut
        cases kq with
        | zero => exact absurd HA.out (by simp [laws_FnGrids.j1])
        | succ kj34 =>
         have H := HA.out
         clear HA
         simp only [laws_FnGrids.j1] at H
         by_cases c51 : x169_34 = true
         ·subst c51
          have H1 : (some false) = some r := by rw [if_pos rfl] at H; exact H
          clear H
          have H := H1
          clear H1
          obtain rfl := Option.some.inj H
          go_wp2
          go_ret
          exact ⟨by first | rfl | (simp [errW_none, errW_some] <;> rfl) | (simp [*, errW_none, errW_some] <;> rfl), hb_ HB⟩
         ·as_aux_lemma =>
          replace c51 := Bool.eq_false_iff.mpr c51
          subst c51
          have H1 : ((impl_LevelBlocks.f kj34 t437 t438 t439 t444).bind fun bt460 => ((impl_ColumnBlocks.f kj34 t437 t438 t439 t442 t443).bind fun bt464 => (if bt460.2 = true then (if bt464.2 = true then (if (bt460.1.length : Int) = (wrap64 (t437 * t438)) then (if (bt464.1.length : Int) = t439 then ((laws_pIn.f kj34 bt460.1 t440).bind fun t468 => (if t468 = true then ((laws_pIn.f kj34 bt464.1 t440).bind fun t469 => (if t469 = true then (laws_FnGrids.j2 kj34 l1) else (some false))) else (some false))) else (some false)) else (some false)) else (some false)) else (some false)))) = some r := by rw [if_neg (show ¬ (false = true) by decide)] at H; exact H
          clear H
          have H := H1
          clear H1
          replace H := Option.bind_eq_some_iff.mp H
          obtain ⟨⟨t460, t463⟩, A520, H⟩ := H
          replace H : ((impl_ColumnBlocks.f kj34 t437 t438 t439 t442 t443).bind fun bt464 => (if t463 = true then (if bt464.2 = true then (if (t460.length : Int) = (wrap64 (t437 * t438)) then (if (bt464.1.length : Int) = t439 then ((laws_pIn.f kj34 t460 t440).bind fun t468 => (if t468 = true then ((laws_pIn.f kj34 bt464.1 t440).bind fun t469 => (if t469 = true then (laws_FnGrids.j2 kj34 l1) else (some false))) else (some false))) else (some false)) else (some false)) else (some false)) else (some false))) = some r := H
          have A52 := Aside0.mk A520
          clear A520
          replace H := Option.bind_eq_some_iff.mp H
          obtain ⟨⟨t464, t467⟩, A530, H⟩ := H
          replace H : (if t463 = true then (if t467 = true then (if (t460.length : Int) = (wrap64 (t437 * t438)) then (if (t464.length : Int) = t439 then ((laws_pIn.f kj34 t460 t440).bind fun t468 => (if t468 = true then ((laws_pIn.f kj34 t464 t440).bind fun t469 => (if t469 = true then (laws_FnGrids.j2 kj34 l1) else (some false))) else (some false))) else (some false)) else (some false)) else (some false)) else (some false)) = some r := H
          have A53 := Aside0.mk A530
          clear A530
          by_cases c54 : t463 = true
          ·subst c54
           have H1 : (if t467 = true then (if (t460.length : Int) = (wrap64 (t437 * t438)) then (if (t464.length : Int) = t439 then ((laws_pIn.f kj34 t460 t440).bind fun t468 => (if t468 = true then ((laws_pIn.f kj34 t464 t440).bind fun t469 => (if t469 = true then (laws_FnGrids.j2 kj34 l1) else (some false))) else (some false))) else (some false)) else (some false)) else (some false)) = some r := by rw [if_pos rfl] at H; exact H
           clear H
           have H := H1
           clear H1
           by_cases c55 : t467 = true
           ·as_aux_lemma =>
            subst c55
            have H1 : (if (t460.length : Int) = (wrap64 (t437 * t438)) then (if (t464.length : Int) = t439 then ((laws_pIn.f kj34 t460 t440).bind fun t468 => (if t468 = true then ((laws_pIn.f kj34 t464 t440).bind fun t469 => (if t469 = true then (laws_FnGrids.j2 kj34 l1) else (some false))) else (some false))) else (some false)) else (some false)) = some r := by rw [if_pos rfl] at H; exact H
            clear H
            have H := H1
            clear H1
            by_cases c56 : (t460.length : Int) = (wrap64 (t437 * t438))
            ·rw [if_pos c56] at H
             have c56b0 : ((t460.length : Int) == (wrap64 (t437 * t438))) = true := beq_iff_eq.mpr c56
             have c56b1 : ((t460.length : Int) != (wrap64 (t437 * t438))) = false := bne_eq_false_iff_eq.mpr c56
             clear c56
             by_cases c57 : (t464.length : Int) = t439
             ·rw [if_pos c57] at H
              have c57b0 : ((t464.length : Int) == t439) = true := beq_iff_eq.mpr c57
              have c57b1 : ((t464.length : Int) != t439) = false := bne_eq_false_iff_eq.mpr c57
              clear c57
              replace H := Option.bind_eq_some_iff.mp H
              obtain ⟨t468, A580, H⟩ := H
              replace H : (if t468 = true then ((laws_pIn.f kj34 t464 t440).bind fun t469 => (if t469 = true then (laws_FnGrids.j2 kj34 l1) else (some false))) else (some false)) = some r := H
              have A58 := Aside0.mk A580
              clear A580
              by_cases c59 : t468 = true
              ·as_aux_lemma =>
               subst c59
               have H1 : ((laws_pIn.f kj34 t464 t440).bind fun t469 => (if t469 = true then (laws_FnGrids.j2 kj34 l1) else (some false))) = some r := by rw [if_pos rfl] at H; exact H
               clear H
               have H := H1
               clear H1
               replace H := Option.bind_eq_some_iff.mp H
               obtain ⟨t469, A600, H⟩ := H
               replace H : (if t469 = true then (laws_FnGrids.j2 kj34 l1) else (some false)) = some r := H
               have A60 := Aside0.mk A600
               clear A600
               by_cases c61 : t469 = true
               ·subst c61
                have H1 : (laws_FnGrids.j2 kj34 l1) = some r := by rw [if_pos rfl] at H; exact H
                clear H
                have H := H1
                clear H1
                have H' := Aside0.mk H
                clear H
                have hcz62_0 : wc.cell? ⟨gb441, 0, none⟩ = some (.int .i64 t437) := (blk_cell BK441.out 0).trans rfl
                have hcz62_1 : wc.cell? ⟨gb441, 1, none⟩ = some (.int .i64 t438) := (blk_cell BK441.out 1).trans rfl
                have hcz62_2 : wc.cell? ⟨gb441, 2, none⟩ = some (.int .i64 t439) := (blk_cell BK441.out 2).trans rfl
                have hfz62_0 := blk_frozen BK441.out 0
                have hfz62_1 := blk_frozen BK441.out 1
                have hfz62_2 := blk_frozen BK441.out 2
                go_wp2_with (first | ((with_reducible refine gate_callee (f := 22) rfl ?_); refine gl_ (some 173) Tryd.func22 #[.agg #[.int .i64 t437, .int .i64 t438, .int .i64 t439], .int .i64 t444] rfl rfl rfl ?_; (with_reducible refine (impl_LevelBlocks.calls kj34 t437 t438 t439 t444 t460 true _ A52.out).mono ?_); rintro e w63 ⟨v461, rfl, ho0, hb⟩; refine ⟨_, rfl, ?_⟩; have HO462 := Kd.R_lo ho0 HB; replace BK441 := kb_ BK441 hb; replace HB := hbs_ HB hb; (try clear hb); (try clear hb2); (try clear hk); (try clear hi); (try clear ho0); obtain ⟨hcz64_0, hcz64_1, hcz64_2, hfz64_0, hfz64_1, hfz64_2⟩ := bx3 BK441) | ((with_reducible refine gate_callee (f := 23) rfl ?_); refine gl_ (some 180) Tryd.func23 #[.agg #[.int .i64 t437, .int .i64 t438, .int .i64 t439], .int .i64 t442, .int .i64 t443] rfl rfl rfl ?_; (with_reducible refine (impl_ColumnBlocks.calls kj34 t437 t438 t439 t442 t443 t464 true _ A53.out).mono ?_); rintro e w65 ⟨v465, rfl, ho0, hb⟩; refine ⟨_, rfl, ?_⟩; have HO466 := Kd.R_lo (Kd.R_nw ho0 HO462) HB; replace HO462 := Kd.R_e HO462 ho0 hb; replace BK441 := kb_ BK441 hb; replace HB := hbs_ HB hb; (try clear hb); (try clear hb2); (try clear hk); (try clear hi); (try clear ho0); obtain ⟨Ao66, co66, eo66⟩ := Kd.R_slice HO462.out; subst eo66; obtain ⟨hcz67_0, hcz67_1, hcz67_2, hfz67_0, hfz67_1, hfz67_2⟩ := bx3 BK441; obtain ⟨Ao68, co68, eo68⟩ := Kd.R_slice HO466.out; subst eo68) | (go_at_call 24; (with_reducible refine (laws_pIn.calls kj34 _ _ t460 t440 true _ ?side1 ?side2 A58.out).mono ?_); (case side1 => exact Kd.C_o HO462); (case side2 => exact (Kd.R_reads' HO462.out).2.1); rintro e w' ⟨rfl, ⟨nd, rfl⟩⟩; try clear HO462) | (go_at_call 24; (with_reducible refine (laws_pIn.calls kj34 _ _ t464 t440 true _ ?side1 ?side2 A60.out).mono ?_); (case side1 => exact Kd.C_o HO466); (case side2 => exact (Kd.R_reads' HO466.out).2.1); rintro e w' ⟨rfl, ⟨nd, rfl⟩⟩))
                go_meet
                case rel => exact ⟨_, H', ⟨by have := HJ7.out; have := HJ34.out; first | omega | exact Nat.le_refl _⟩, ⟨hb_ HB⟩⟩
               ·as_aux_lemma =>
                replace c61 := Bool.eq_false_iff.mpr c61
                subst c61
                have H1 : (some false) = some r := by rw [if_neg (show ¬ (false = true) by decide)] at H; exact H
                clear H
                have H := H1
                clear H1
                obtain rfl := Option.some.inj H
                have hcz69_0 : wc.cell? ⟨gb441, 0, none⟩ = some (.int .i64 t437) := (blk_cell BK441.out 0).trans rfl
                have hcz69_1 : wc.cell? ⟨gb441, 1, none⟩ = some (.int .i64 t438) := (blk_cell BK441.out 1).trans rfl
                have hcz69_2 : wc.cell? ⟨gb441, 2, none⟩ = some (.int .i64 t439) := (blk_cell BK441.out 2).trans rfl
                have hfz69_0 := blk_frozen BK441.out 0
                have hfz69_1 := blk_frozen BK441.out 1
                have hfz69_2 := blk_frozen BK441.out 2
                go_wp2_with (first | ((with_reducible refine gate_callee (f := 22) rfl ?_); refine gl_ (some 173) Tryd.func22 #[.agg #[.int .i64 t437, .int .i64 t438, .int .i64 t439], .int .i64 t444] rfl rfl rfl ?_; (with_reducible refine (impl_LevelBlocks.calls kj34 t437 t438 t439 t444 t460 true _ A52.out).mono ?_); rintro e w70 ⟨v461, rfl, ho0, hb⟩; refine ⟨_, rfl, ?_⟩; have HO462 := Kd.R_lo ho0 HB; replace BK441 := kb_ BK441 hb; replace HB := hbs_ HB hb; (try clear hb); (try clear hb2); (try clear hk); (try clear hi); (try clear ho0); obtain ⟨hcz71_0, hcz71_1, hcz71_2, hfz71_0, hfz71_1, hfz71_2⟩ := bx3 BK441) | ((with_reducible refine gate_callee (f := 23) rfl ?_); refine gl_ (some 180) Tryd.func23 #[.agg #[.int .i64 t437, .int .i64 t438, .int .i64 t439], .int .i64 t442, .int .i64 t443] rfl rfl rfl ?_; (with_reducible refine (impl_ColumnBlocks.calls kj34 t437 t438 t439 t442 t443 t464 true _ A53.out).mono ?_); rintro e w72 ⟨v465, rfl, ho0, hb⟩; refine ⟨_, rfl, ?_⟩; have HO466 := Kd.R_lo (Kd.R_nw ho0 HO462) HB; replace HO462 := Kd.R_e HO462 ho0 hb; replace BK441 := kb_ BK441 hb; replace HB := hbs_ HB hb; (try clear hb); (try clear hb2); (try clear hk); (try clear hi); (try clear ho0); obtain ⟨Ao73, co73, eo73⟩ := Kd.R_slice HO462.out; subst eo73; obtain ⟨hcz74_0, hcz74_1, hcz74_2, hfz74_0, hfz74_1, hfz74_2⟩ := bx3 BK441; obtain ⟨Ao75, co75, eo75⟩ := Kd.R_slice HO466.out; subst eo75) | (go_at_call 24; (with_reducible refine (laws_pIn.calls kj34 _ _ t460 t440 true _ ?side1 ?side2 A58.out).mono ?_); (case side1 => exact Kd.C_o HO462); (case side2 => exact (Kd.R_reads' HO462.out).2.1); rintro e w' ⟨rfl, ⟨nd, rfl⟩⟩; try clear HO462) | (go_at_call 24; (with_reducible refine (laws_pIn.calls kj34 _ _ t464 t440 false _ ?side1 ?side2 A60.out).mono ?_); (case side1 => exact Kd.C_o HO466); (case side2 => exact (Kd.R_reads' HO466.out).2.1); rintro e w' ⟨rfl, ⟨nd, rfl⟩⟩))
                go_ret
                exact ⟨by first | rfl | (simp [errW_none, errW_some] <;> rfl) | (simp [*, errW_none, errW_some] <;> rfl), hb_ HB⟩
              ·replace c59 := Bool.eq_false_iff.mpr c59
               subst c59
               have H1 : (some false) = some r := by rw [if_neg (show ¬ (false = true) by decide)] at H; exact H
               clear H
               have H := H1
               clear H1
               obtain rfl := Option.some.inj H
               have hcz76_0 : wc.cell? ⟨gb441, 0, none⟩ = some (.int .i64 t437) := (blk_cell BK441.out 0).trans rfl
               have hcz76_1 : wc.cell? ⟨gb441, 1, none⟩ = some (.int .i64 t438) := (blk_cell BK441.out 1).trans rfl
               have hcz76_2 : wc.cell? ⟨gb441, 2, none⟩ = some (.int .i64 t439) := (blk_cell BK441.out 2).trans rfl
               have hfz76_0 := blk_frozen BK441.out 0
               have hfz76_1 := blk_frozen BK441.out 1
               have hfz76_2 := blk_frozen BK441.out 2
               go_wp2_with (first | ((with_reducible refine gate_callee (f := 22) rfl ?_); refine gl_ (some 173) Tryd.func22 #[.agg #[.int .i64 t437, .int .i64 t438, .int .i64 t439], .int .i64 t444] rfl rfl rfl ?_; (with_reducible refine (impl_LevelBlocks.calls kj34 t437 t438 t439 t444 t460 true _ A52.out).mono ?_); rintro e w77 ⟨v461, rfl, ho0, hb⟩; refine ⟨_, rfl, ?_⟩; have HO462 := Kd.R_lo ho0 HB; replace BK441 := kb_ BK441 hb; replace HB := hbs_ HB hb; (try clear hb); (try clear hb2); (try clear hk); (try clear hi); (try clear ho0); obtain ⟨hcz78_0, hcz78_1, hcz78_2, hfz78_0, hfz78_1, hfz78_2⟩ := bx3 BK441) | ((with_reducible refine gate_callee (f := 23) rfl ?_); refine gl_ (some 180) Tryd.func23 #[.agg #[.int .i64 t437, .int .i64 t438, .int .i64 t439], .int .i64 t442, .int .i64 t443] rfl rfl rfl ?_; (with_reducible refine (impl_ColumnBlocks.calls kj34 t437 t438 t439 t442 t443 t464 true _ A53.out).mono ?_); rintro e w79 ⟨v465, rfl, ho0, hb⟩; refine ⟨_, rfl, ?_⟩; have HO466 := Kd.R_lo (Kd.R_nw ho0 HO462) HB; replace HO462 := Kd.R_e HO462 ho0 hb; replace BK441 := kb_ BK441 hb; replace HB := hbs_ HB hb; (try clear hb); (try clear hb2); (try clear hk); (try clear hi); (try clear ho0); obtain ⟨Ao80, co80, eo80⟩ := Kd.R_slice HO462.out; subst eo80; obtain ⟨hcz81_0, hcz81_1, hcz81_2, hfz81_0, hfz81_1, hfz81_2⟩ := bx3 BK441; obtain ⟨Ao82, co82, eo82⟩ := Kd.R_slice HO466.out; subst eo82; try clear HO466) | (go_at_call 24; (with_reducible refine (laws_pIn.calls kj34 _ _ t460 t440 false _ ?side1 ?side2 A58.out).mono ?_); (case side1 => exact Kd.C_o HO462); (case side2 => exact (Kd.R_reads' HO462.out).2.1); rintro e w' ⟨rfl, ⟨nd, rfl⟩⟩))
               go_ret
               exact ⟨by first | rfl | (simp [errW_none, errW_some] <;> rfl) | (simp [*, errW_none, errW_some] <;> rfl), hb_ HB⟩
             ·as_aux_lemma =>
              rw [if_neg c57] at H
              have c57b0 : ((t464.length : Int) == t439) = false := beq_eq_false_iff_ne.mpr c57
              have c57b1 : ((t464.length : Int) != t439) = true := bne_iff_ne.mpr c57
              obtain rfl := Option.some.inj H
              have hcz83_0 : wc.cell? ⟨gb441, 0, none⟩ = some (.int .i64 t437) := (blk_cell BK441.out 0).trans rfl
              have hcz83_1 : wc.cell? ⟨gb441, 1, none⟩ = some (.int .i64 t438) := (blk_cell BK441.out 1).trans rfl
              have hcz83_2 : wc.cell? ⟨gb441, 2, none⟩ = some (.int .i64 t439) := (blk_cell BK441.out 2).trans rfl
              have hfz83_0 := blk_frozen BK441.out 0
              have hfz83_1 := blk_frozen BK441.out 1
              have hfz83_2 := blk_frozen BK441.out 2
              go_wp2_with (first | ((with_reducible refine gate_callee (f := 22) rfl ?_); refine gl_ (some 173) Tryd.func22 #[.agg #[.int .i64 t437, .int .i64 t438, .int .i64 t439], .int .i64 t444] rfl rfl rfl ?_; (with_reducible refine (impl_LevelBlocks.calls kj34 t437 t438 t439 t444 t460 true _ A52.out).mono ?_); rintro e w84 ⟨v461, rfl, ho0, hb⟩; refine ⟨_, rfl, ?_⟩; have HO462 := Kd.R_lo ho0 HB; replace BK441 := kb_ BK441 hb; replace HB := hbs_ HB hb; (try clear hb); (try clear hb2); (try clear hk); (try clear hi); (try clear ho0); obtain ⟨hcz85_0, hcz85_1, hcz85_2, hfz85_0, hfz85_1, hfz85_2⟩ := bx3 BK441) | ((with_reducible refine gate_callee (f := 23) rfl ?_); refine gl_ (some 180) Tryd.func23 #[.agg #[.int .i64 t437, .int .i64 t438, .int .i64 t439], .int .i64 t442, .int .i64 t443] rfl rfl rfl ?_; (with_reducible refine (impl_ColumnBlocks.calls kj34 t437 t438 t439 t442 t443 t464 true _ A53.out).mono ?_); rintro e w86 ⟨v465, rfl, ho0, hb⟩; refine ⟨_, rfl, ?_⟩; have HO466 := Kd.R_lo (Kd.R_nw ho0 HO462) HB; replace HO462 := Kd.R_e HO462 ho0 hb; replace BK441 := kb_ BK441 hb; replace HB := hbs_ HB hb; (try clear hb); (try clear hb2); (try clear hk); (try clear hi); (try clear ho0); obtain ⟨Ao87, co87, eo87⟩ := Kd.R_slice HO462.out; subst eo87; obtain ⟨hcz88_0, hcz88_1, hcz88_2, hfz88_0, hfz88_1, hfz88_2⟩ := bx3 BK441; obtain ⟨Ao89, co89, eo89⟩ := Kd.R_slice HO466.out; subst eo89))
              go_ret
              exact ⟨by first | rfl | (simp [errW_none, errW_some] <;> rfl) | (simp [*, errW_none, errW_some] <;> rfl), hb_ HB⟩
            ·rw [if_neg c56] at H
             have c56b0 : ((t460.length : Int) == (wrap64 (t437 * t438))) = false := beq_eq_false_iff_ne.mpr c56
             have c56b1 : ((t460.length : Int) != (wrap64 (t437 * t438))) = true := bne_iff_ne.mpr c56
             obtain rfl := Option.some.inj H
             have hcz90_0 : wc.cell? ⟨gb441, 0, none⟩ = some (.int .i64 t437) := (blk_cell BK441.out 0).trans rfl
             have hcz90_1 : wc.cell? ⟨gb441, 1, none⟩ = some (.int .i64 t438) := (blk_cell BK441.out 1).trans rfl
             have hcz90_2 : wc.cell? ⟨gb441, 2, none⟩ = some (.int .i64 t439) := (blk_cell BK441.out 2).trans rfl
             have hfz90_0 := blk_frozen BK441.out 0
             have hfz90_1 := blk_frozen BK441.out 1
             have hfz90_2 := blk_frozen BK441.out 2
             go_wp2_with (first | ((with_reducible refine gate_callee (f := 22) rfl ?_); refine gl_ (some 173) Tryd.func22 #[.agg #[.int .i64 t437, .int .i64 t438, .int .i64 t439], .int .i64 t444] rfl rfl rfl ?_; (with_reducible refine (impl_LevelBlocks.calls kj34 t437 t438 t439 t444 t460 true _ A52.out).mono ?_); rintro e w91 ⟨v461, rfl, ho0, hb⟩; refine ⟨_, rfl, ?_⟩; have HO462 := Kd.R_lo ho0 HB; replace BK441 := kb_ BK441 hb; replace HB := hbs_ HB hb; (try clear hb); (try clear hb2); (try clear hk); (try clear hi); (try clear ho0); obtain ⟨hcz92_0, hcz92_1, hcz92_2, hfz92_0, hfz92_1, hfz92_2⟩ := bx3 BK441) | ((with_reducible refine gate_callee (f := 23) rfl ?_); refine gl_ (some 180) Tryd.func23 #[.agg #[.int .i64 t437, .int .i64 t438, .int .i64 t439], .int .i64 t442, .int .i64 t443] rfl rfl rfl ?_; (with_reducible refine (impl_ColumnBlocks.calls kj34 t437 t438 t439 t442 t443 t464 true _ A53.out).mono ?_); rintro e w93 ⟨v465, rfl, ho0, hb⟩; refine ⟨_, rfl, ?_⟩; have HO466 := Kd.R_lo (Kd.R_nw ho0 HO462) HB; replace HO462 := Kd.R_e HO462 ho0 hb; replace BK441 := kb_ BK441 hb; replace HB := hbs_ HB hb; (try clear hb); (try clear hb2); (try clear hk); (try clear hi); (try clear ho0); obtain ⟨Ao94, co94, eo94⟩ := Kd.R_slice HO462.out; subst eo94; obtain ⟨hcz95_0, hcz95_1, hcz95_2, hfz95_0, hfz95_1, hfz95_2⟩ := bx3 BK441))
             go_ret
             exact ⟨by first | rfl | (simp [errW_none, errW_some] <;> rfl) | (simp [*, errW_none, errW_some] <;> rfl), hb_ HB⟩
           ·as_aux_lemma =>
            replace c55 := Bool.eq_false_iff.mpr c55
            subst c55
            have H1 : (some false) = some r := by rw [if_neg (show ¬ (false = true) by decide)] at H; exact H
            clear H
            have H := H1
            clear H1
            obtain rfl := Option.some.inj H
            have hcz96_0 : wc.cell? ⟨gb441, 0, none⟩ = some (.int .i64 t437) := (blk_cell BK441.out 0).trans rfl
            have hcz96_1 : wc.cell? ⟨gb441, 1, none⟩ = some (.int .i64 t438) := (blk_cell BK441.out 1).trans rfl
            have hcz96_2 : wc.cell? ⟨gb441, 2, none⟩ = some (.int .i64 t439) := (blk_cell BK441.out 2).trans rfl
            have hfz96_0 := blk_frozen BK441.out 0
            have hfz96_1 := blk_frozen BK441.out 1
            have hfz96_2 := blk_frozen BK441.out 2
            go_wp2_with (first | ((with_reducible refine gate_callee (f := 22) rfl ?_); refine gl_ (some 173) Tryd.func22 #[.agg #[.int .i64 t437, .int .i64 t438, .int .i64 t439], .int .i64 t444] rfl rfl rfl ?_; (with_reducible refine (impl_LevelBlocks.calls kj34 t437 t438 t439 t444 t460 true _ A52.out).mono ?_); rintro e w97 ⟨v461, rfl, ho0, hb⟩; refine ⟨_, rfl, ?_⟩; have HO462 := Kd.R_lo ho0 HB; replace BK441 := kb_ BK441 hb; replace HB := hbs_ HB hb; (try clear hb); (try clear hb2); (try clear hk); (try clear hi); (try clear ho0); obtain ⟨hcz98_0, hcz98_1, hcz98_2, hfz98_0, hfz98_1, hfz98_2⟩ := bx3 BK441; try clear HO462) | ((with_reducible refine gate_callee (f := 23) rfl ?_); refine gl_ (some 180) Tryd.func23 #[.agg #[.int .i64 t437, .int .i64 t438, .int .i64 t439], .int .i64 t442, .int .i64 t443] rfl rfl rfl ?_; (with_reducible refine (impl_ColumnBlocks.calls kj34 t437 t438 t439 t442 t443 t464 false _ A53.out).mono ?_); rintro e w99 ⟨v465, rfl, ho0, hb⟩; refine ⟨_, rfl, ?_⟩; have HO466 := Kd.R_lo ho0 HB; replace BK441 := kb_ BK441 hb; replace HB := hbs_ HB hb; (try clear hb); (try clear hb2); (try clear hk); (try clear hi); (try clear ho0)))
            go_ret
            exact ⟨by first | rfl | (simp [errW_none, errW_some] <;> rfl) | (simp [*, errW_none, errW_some] <;> rfl), hb_ HB⟩
          ·replace c54 := Bool.eq_false_iff.mpr c54
           subst c54
           have H1 : (some false) = some r := by rw [if_neg (show ¬ (false = true) by decide)] at H; exact H
           clear H
           have H := H1
           clear H1
           obtain rfl := Option.some.inj H
           have hcz100_0 : wc.cell? ⟨gb441, 0, none⟩ = some (.int .i64 t437) := (blk_cell BK441.out 0).trans rfl
           have hcz100_1 : wc.cell? ⟨gb441, 1, none⟩ = some (.int .i64 t438) := (blk_cell BK441.out 1).trans rfl
           have hcz100_2 : wc.cell? ⟨gb441, 2, none⟩ = some (.int .i64 t439) := (blk_cell BK441.out 2).trans rfl
           have hfz100_0 := blk_frozen BK441.out 0
           have hfz100_1 := blk_frozen BK441.out 1
           have hfz100_2 := blk_frozen BK441.out 2
           go_wp2_with (first | ((with_reducible refine gate_callee (f := 22) rfl ?_); refine gl_ (some 173) Tryd.func22 #[.agg #[.int .i64 t437, .int .i64 t438, .int .i64 t439], .int .i64 t444] rfl rfl rfl ?_; (with_reducible refine (impl_LevelBlocks.calls kj34 t437 t438 t439 t444 t460 false _ A52.out).mono ?_); rintro e w101 ⟨v461, rfl, ho0, hb⟩; refine ⟨_, rfl, ?_⟩; have HO462 := Kd.R_lo ho0 HB; replace BK441 := kb_ BK441 hb; replace HB := hbs_ HB hb; (try clear hb); (try clear hb2); (try clear hk); (try clear hi); (try clear ho0); obtain ⟨hcz102_0, hcz102_1, hcz102_2, hfz102_0, hfz102_1, hfz102_2⟩ := bx3 BK441; try clear HO462) | ((with_reducible refine gate_callee (f := 23) rfl ?_); refine gl_ (some 180) Tryd.func23 #[.agg #[.int .i64 t437, .int .i64 t438, .int .i64 t439], .int .i64 t442, .int .i64 t443] rfl rfl rfl ?_; (with_reducible refine (impl_ColumnBlocks.calls kj34 t437 t438 t439 t442 t443 t464 t467 _ A53.out).mono ?_); rintro e w103 ⟨v465, rfl, ho0, hb⟩; refine ⟨_, rfl, ?_⟩; have HO466 := Kd.R_lo ho0 HB; replace BK441 := kb_ BK441 hb; replace HB := hbs_ HB hb; (try clear hb); (try clear hb2); (try clear hk); (try clear hi); (try clear ho0)))
           go_ret
           exact ⟨by first | rfl | (simp [errW_none, errW_some] <;> rfl) | (simp [*, errW_none, errW_some] <;> rfl), hb_ HB⟩
      ·replace c30 := Bool.eq_false_iff.mpr c30
       subst c30
       have H1 : (laws_FnGrids.j2 kj7 l1) = some r := by rw [if_neg (show ¬ (false = true) by decide)] at H; exact H
       clear H
       have H := H1
       clear H1
       have H' := Aside0.mk H
       clear H
       go_wp2
       go_meet
       case rel => exact ⟨_, H', ⟨by have := HJ7.out; first | omega | exact Nat.le_refl _⟩, ⟨hb_ HB⟩⟩
     case rest => as_aux_lemma =>
      clear HC29
      (try clear c1); (try clear c2); (try clear p2); (try clear c3); (try clear c4); (try clear c5); (try clear c6); (try clear p6); (try clear c9); (try clear c11); (try clear c17); (try clear c17b0); (try clear c17b1); (try clear c18); (try clear c18b0); (try clear c18b1); (try clear c19); (try clear c19b0); (try clear c19b1); (try clear c20); (try clear c21); (try clear c22); (try clear c23); (try clear c28); (try clear c30); (try clear c44); (try clear c45); (try clear c45b0); (try clear c45b1); (try clear c46); (try clear c47); (try clear c48); (try clear c48b0); (try clear c48b1); (try clear c49); (try clear c51); (try clear c54); (try clear c55); (try clear c56); (try clear c56b0); (try clear c56b1); (try clear c57); (try clear c57b0); (try clear c57b1); (try clear c59); (try clear c61); (try clear p64)
      obtain ⟨kq, HA, HJ28, HB⟩ := hcut
      cases kq with
      | zero => exact absurd HA.out (by simp [laws_FnGrids.j2])
      | succ kj28 => as_aux_lemma =>
       have H := HA.out
       clear HA
       simp only [laws_FnGrids.j2] at H
       replace H := Option.bind_eq_some_iff.mp H
       obtain ⟨⟨t470, t471, t472, t473, t474, t475⟩, A1040, H⟩ := H
       replace H : ((impl_BlockAt.f t470 t471 t472 t473 t474 t475).bind fun bt477 => ((spec_BlockAt.f t470 t471 t472 t473 t474 t475).bind fun bt479 => ((spec_DrawParseBlock.f kj28 l1).bind fun bt481 => ((impl_ParseBlock.f kj28 bt481.1 bt481.2.1 bt481.2.2.1 bt481.2.2.2).bind fun bt486 => ((spec_ParseBlock.f kj28 bt481.1 bt481.2.1 bt481.2.2.1 bt481.2.2.2).bind fun bt488 => ((spec_DrawGridText.f kj28 l1).bind fun bt490 => ((impl_GridText.f bt490.1 bt490.2.1 bt490.2.2).bind fun bt494 => ((spec_GridText.f kj28 bt490.1 bt490.2.1 bt490.2.2).bind fun bt496 => ((spec_DrawLevelBlocks.f kj28 l1).bind fun bt498 => ((impl_LevelBlocks.f kj28 bt498.1 bt498.2.1 bt498.2.2.1 bt498.2.2.2).bind fun bt503 => ((spec_LevelBlocks.f kj28 bt498.1 bt498.2.1 bt498.2.2.1 bt498.2.2.2).bind fun bt507 => ((spec_DrawColumnBlocks.f kj28 l1).bind fun bt511 => ((impl_ColumnBlocks.f kj28 bt511.1 bt511.2.1 bt511.2.2.1 bt511.2.2.2.1 bt511.2.2.2.2).bind fun bt517 => ((spec_ColumnBlocks.f kj28 bt511.1 bt511.2.1 bt511.2.2.1 bt511.2.2.2.1 bt511.2.2.2.2).bind fun bt521 => (if (bt477.2 == bt479.2) = true then (if bt477.1 = bt479.1 then (if (bt486.2 == bt488.2) = true then (if bt486.1 = bt488.1 then (if (bt494.2 == bt496.2) = true then (if bt494.1.toList = bt496.1.toList then (if (bt503.2 == bt507.2) = true then ((laws_sameInts.f kj28 bt503.1 bt507.1).bind fun t525 => (if t525 = true then (if (bt517.2 == bt521.2) = true then ((laws_sameInts.f kj28 bt517.1 bt521.1).bind fun t526 => (some t526)) else (some false)) else (some false))) else (some false)) else (some false)) else (some false)) else (some false)) else (some false)) else (some false)) else (some false)))))))))))))))) = some r := H
       have A104 := Aside0.mk A1040
       clear A1040
       replace H := Option.bind_eq_some_iff.mp H
       obtain ⟨⟨t477, t478⟩, A1050, H⟩ := H
       replace H : ((spec_BlockAt.f t470 t471 t472 t473 t474 t475).bind fun bt479 => ((spec_DrawParseBlock.f kj28 l1).bind fun bt481 => ((impl_ParseBlock.f kj28 bt481.1 bt481.2.1 bt481.2.2.1 bt481.2.2.2).bind fun bt486 => ((spec_ParseBlock.f kj28 bt481.1 bt481.2.1 bt481.2.2.1 bt481.2.2.2).bind fun bt488 => ((spec_DrawGridText.f kj28 l1).bind fun bt490 => ((impl_GridText.f bt490.1 bt490.2.1 bt490.2.2).bind fun bt494 => ((spec_GridText.f kj28 bt490.1 bt490.2.1 bt490.2.2).bind fun bt496 => ((spec_DrawLevelBlocks.f kj28 l1).bind fun bt498 => ((impl_LevelBlocks.f kj28 bt498.1 bt498.2.1 bt498.2.2.1 bt498.2.2.2).bind fun bt503 => ((spec_LevelBlocks.f kj28 bt498.1 bt498.2.1 bt498.2.2.1 bt498.2.2.2).bind fun bt507 => ((spec_DrawColumnBlocks.f kj28 l1).bind fun bt511 => ((impl_ColumnBlocks.f kj28 bt511.1 bt511.2.1 bt511.2.2.1 bt511.2.2.2.1 bt511.2.2.2.2).bind fun bt517 => ((spec_ColumnBlocks.f kj28 bt511.1 bt511.2.1 bt511.2.2.1 bt511.2.2.2.1 bt511.2.2.2.2).bind fun bt521 => (if (t478 == bt479.2) = true then (if t477 = bt479.1 then (if (bt486.2 == bt488.2) = true then (if bt486.1 = bt488.1 then (if (bt494.2 == bt496.2) = true then (if bt494.1.toList = bt496.1.toList then (if (bt503.2 == bt507.2) = true then ((laws_sameInts.f kj28 bt503.1 bt507.1).bind fun t525 => (if t525 = true then (if (bt517.2 == bt521.2) = true then ((laws_sameInts.f kj28 bt517.1 bt521.1).bind fun t526 => (some t526)) else (some false)) else (some false))) else (some false)) else (some false)) else (some false)) else (some false)) else (some false)) else (some false)) else (some false))))))))))))))) = some r := H
       have A105 := Aside0.mk A1050
       clear A1050
       replace H := Option.bind_eq_some_iff.mp H
       obtain ⟨⟨t479, t480⟩, A1060, H⟩ := H
       replace H : ((spec_DrawParseBlock.f kj28 l1).bind fun bt481 => ((impl_ParseBlock.f kj28 bt481.1 bt481.2.1 bt481.2.2.1 bt481.2.2.2).bind fun bt486 => ((spec_ParseBlock.f kj28 bt481.1 bt481.2.1 bt481.2.2.1 bt481.2.2.2).bind fun bt488 => ((spec_DrawGridText.f kj28 l1).bind fun bt490 => ((impl_GridText.f bt490.1 bt490.2.1 bt490.2.2).bind fun bt494 => ((spec_GridText.f kj28 bt490.1 bt490.2.1 bt490.2.2).bind fun bt496 => ((spec_DrawLevelBlocks.f kj28 l1).bind fun bt498 => ((impl_LevelBlocks.f kj28 bt498.1 bt498.2.1 bt498.2.2.1 bt498.2.2.2).bind fun bt503 => ((spec_LevelBlocks.f kj28 bt498.1 bt498.2.1 bt498.2.2.1 bt498.2.2.2).bind fun bt507 => ((spec_DrawColumnBlocks.f kj28 l1).bind fun bt511 => ((impl_ColumnBlocks.f kj28 bt511.1 bt511.2.1 bt511.2.2.1 bt511.2.2.2.1 bt511.2.2.2.2).bind fun bt517 => ((spec_ColumnBlocks.f kj28 bt511.1 bt511.2.1 bt511.2.2.1 bt511.2.2.2.1 bt511.2.2.2.2).bind fun bt521 => (if (t478 == t480) = true then (if t477 = t479 then (if (bt486.2 == bt488.2) = true then (if bt486.1 = bt488.1 then (if (bt494.2 == bt496.2) = true then (if bt494.1.toList = bt496.1.toList then (if (bt503.2 == bt507.2) = true then ((laws_sameInts.f kj28 bt503.1 bt507.1).bind fun t525 => (if t525 = true then (if (bt517.2 == bt521.2) = true then ((laws_sameInts.f kj28 bt517.1 bt521.1).bind fun t526 => (some t526)) else (some false)) else (some false))) else (some false)) else (some false)) else (some false)) else (some false)) else (some false)) else (some false)) else (some false)))))))))))))) = some r := H
       have A106 := Aside0.mk A1060
       clear A1060
       replace H := Option.bind_eq_some_iff.mp H
       obtain ⟨⟨t481, t482, t483, t484⟩, A1070, H⟩ := H
       replace H : ((impl_ParseBlock.f kj28 t481 t482 t483 t484).bind fun bt486 => ((spec_ParseBlock.f kj28 t481 t482 t483 t484).bind fun bt488 => ((spec_DrawGridText.f kj28 l1).bind fun bt490 => ((impl_GridText.f bt490.1 bt490.2.1 bt490.2.2).bind fun bt494 => ((spec_GridText.f kj28 bt490.1 bt490.2.1 bt490.2.2).bind fun bt496 => ((spec_DrawLevelBlocks.f kj28 l1).bind fun bt498 => ((impl_LevelBlocks.f kj28 bt498.1 bt498.2.1 bt498.2.2.1 bt498.2.2.2).bind fun bt503 => ((spec_LevelBlocks.f kj28 bt498.1 bt498.2.1 bt498.2.2.1 bt498.2.2.2).bind fun bt507 => ((spec_DrawColumnBlocks.f kj28 l1).bind fun bt511 => ((impl_ColumnBlocks.f kj28 bt511.1 bt511.2.1 bt511.2.2.1 bt511.2.2.2.1 bt511.2.2.2.2).bind fun bt517 => ((spec_ColumnBlocks.f kj28 bt511.1 bt511.2.1 bt511.2.2.1 bt511.2.2.2.1 bt511.2.2.2.2).bind fun bt521 => (if (t478 == t480) = true then (if t477 = t479 then (if (bt486.2 == bt488.2) = true then (if bt486.1 = bt488.1 then (if (bt494.2 == bt496.2) = true then (if bt494.1.toList = bt496.1.toList then (if (bt503.2 == bt507.2) = true then ((laws_sameInts.f kj28 bt503.1 bt507.1).bind fun t525 => (if t525 = true then (if (bt517.2 == bt521.2) = true then ((laws_sameInts.f kj28 bt517.1 bt521.1).bind fun t526 => (some t526)) else (some false)) else (some false))) else (some false)) else (some false)) else (some false)) else (some false)) else (some false)) else (some false)) else (some false))))))))))))) = some r := H
       have A107 := Aside0.mk A1070
       clear A1070
       replace H := Option.bind_eq_some_iff.mp H
       obtain ⟨⟨t486, t487⟩, A1080, H⟩ := H
       replace H : ((spec_ParseBlock.f kj28 t481 t482 t483 t484).bind fun bt488 => ((spec_DrawGridText.f kj28 l1).bind fun bt490 => ((impl_GridText.f bt490.1 bt490.2.1 bt490.2.2).bind fun bt494 => ((spec_GridText.f kj28 bt490.1 bt490.2.1 bt490.2.2).bind fun bt496 => ((spec_DrawLevelBlocks.f kj28 l1).bind fun bt498 => ((impl_LevelBlocks.f kj28 bt498.1 bt498.2.1 bt498.2.2.1 bt498.2.2.2).bind fun bt503 => ((spec_LevelBlocks.f kj28 bt498.1 bt498.2.1 bt498.2.2.1 bt498.2.2.2).bind fun bt507 => ((spec_DrawColumnBlocks.f kj28 l1).bind fun bt511 => ((impl_ColumnBlocks.f kj28 bt511.1 bt511.2.1 bt511.2.2.1 bt511.2.2.2.1 bt511.2.2.2.2).bind fun bt517 => ((spec_ColumnBlocks.f kj28 bt511.1 bt511.2.1 bt511.2.2.1 bt511.2.2.2.1 bt511.2.2.2.2).bind fun bt521 => (if (t478 == t480) = true then (if t477 = t479 then (if (t487 == bt488.2) = true then (if t486 = bt488.1 then (if (bt494.2 == bt496.2) = true then (if bt494.1.toList = bt496.1.toList then (if (bt503.2 == bt507.2) = true then ((laws_sameInts.f kj28 bt503.1 bt507.1).bind fun t525 => (if t525 = true then (if (bt517.2 == bt521.2) = true then ((laws_sameInts.f kj28 bt517.1 bt521.1).bind fun t526 => (some t526)) else (some false)) else (some false))) else (some false)) else (some false)) else (some false)) else (some false)) else (some false)) else (some false)) else (some false)))))))))))) = some r := H
       have A108 := Aside0.mk A1080
       clear A1080
       replace H := Option.bind_eq_some_iff.mp H
       obtain ⟨⟨t488, t489⟩, A1090, H⟩ := H
       replace H : ((spec_DrawGridText.f kj28 l1).bind fun bt490 => ((impl_GridText.f bt490.1 bt490.2.1 bt490.2.2).bind fun bt494 => ((spec_GridText.f kj28 bt490.1 bt490.2.1 bt490.2.2).bind fun bt496 => ((spec_DrawLevelBlocks.f kj28 l1).bind fun bt498 => ((impl_LevelBlocks.f kj28 bt498.1 bt498.2.1 bt498.2.2.1 bt498.2.2.2).bind fun bt503 => ((spec_LevelBlocks.f kj28 bt498.1 bt498.2.1 bt498.2.2.1 bt498.2.2.2).bind fun bt507 => ((spec_DrawColumnBlocks.f kj28 l1).bind fun bt511 => ((impl_ColumnBlocks.f kj28 bt511.1 bt511.2.1 bt511.2.2.1 bt511.2.2.2.1 bt511.2.2.2.2).bind fun bt517 => ((spec_ColumnBlocks.f kj28 bt511.1 bt511.2.1 bt511.2.2.1 bt511.2.2.2.1 bt511.2.2.2.2).bind fun bt521 => (if (t478 == t480) = true then (if t477 = t479 then (if (t487 == t489) = true then (if t486 = t488 then (if (bt494.2 == bt496.2) = true then (if bt494.1.toList = bt496.1.toList then (if (bt503.2 == bt507.2) = true then ((laws_sameInts.f kj28 bt503.1 bt507.1).bind fun t525 => (if t525 = true then (if (bt517.2 == bt521.2) = true then ((laws_sameInts.f kj28 bt517.1 bt521.1).bind fun t526 => (some t526)) else (some false)) else (some false))) else (some false)) else (some false)) else (some false)) else (some false)) else (some false)) else (some false)) else (some false))))))))))) = some r := H
       have A109 := Aside0.mk A1090
       clear A1090
       replace H := Option.bind_eq_some_iff.mp H
       obtain ⟨⟨t490, t491, t492⟩, A1100, H⟩ := H
       replace H : ((impl_GridText.f t490 t491 t492).bind fun bt494 => ((spec_GridText.f kj28 t490 t491 t492).bind fun bt496 => ((spec_DrawLevelBlocks.f kj28 l1).bind fun bt498 => ((impl_LevelBlocks.f kj28 bt498.1 bt498.2.1 bt498.2.2.1 bt498.2.2.2).bind fun bt503 => ((spec_LevelBlocks.f kj28 bt498.1 bt498.2.1 bt498.2.2.1 bt498.2.2.2).bind fun bt507 => ((spec_DrawColumnBlocks.f kj28 l1).bind fun bt511 => ((impl_ColumnBlocks.f kj28 bt511.1 bt511.2.1 bt511.2.2.1 bt511.2.2.2.1 bt511.2.2.2.2).bind fun bt517 => ((spec_ColumnBlocks.f kj28 bt511.1 bt511.2.1 bt511.2.2.1 bt511.2.2.2.1 bt511.2.2.2.2).bind fun bt521 => (if (t478 == t480) = true then (if t477 = t479 then (if (t487 == t489) = true then (if t486 = t488 then (if (bt494.2 == bt496.2) = true then (if bt494.1.toList = bt496.1.toList then (if (bt503.2 == bt507.2) = true then ((laws_sameInts.f kj28 bt503.1 bt507.1).bind fun t525 => (if t525 = true then (if (bt517.2 == bt521.2) = true then ((laws_sameInts.f kj28 bt517.1 bt521.1).bind fun t526 => (some t526)) else (some false)) else (some false))) else (some false)) else (some false)) else (some false)) else (some false)) else (some false)) else (some false)) else (some false)))))))))) = some r := H
       have A110 := Aside0.mk A1100
       clear A1100
       replace H := Option.bind_eq_some_iff.mp H
       obtain ⟨⟨t494, t495⟩, A1110, H⟩ := H
       replace H : ((spec_GridText.f kj28 t490 t491 t492).bind fun bt496 => ((spec_DrawLevelBlocks.f kj28 l1).bind fun bt498 => ((impl_LevelBlocks.f kj28 bt498.1 bt498.2.1 bt498.2.2.1 bt498.2.2.2).bind fun bt503 => ((spec_LevelBlocks.f kj28 bt498.1 bt498.2.1 bt498.2.2.1 bt498.2.2.2).bind fun bt507 => ((spec_DrawColumnBlocks.f kj28 l1).bind fun bt511 => ((impl_ColumnBlocks.f kj28 bt511.1 bt511.2.1 bt511.2.2.1 bt511.2.2.2.1 bt511.2.2.2.2).bind fun bt517 => ((spec_ColumnBlocks.f kj28 bt511.1 bt511.2.1 bt511.2.2.1 bt511.2.2.2.1 bt511.2.2.2.2).bind fun bt521 => (if (t478 == t480) = true then (if t477 = t479 then (if (t487 == t489) = true then (if t486 = t488 then (if (t495 == bt496.2) = true then (if t494.toList = bt496.1.toList then (if (bt503.2 == bt507.2) = true then ((laws_sameInts.f kj28 bt503.1 bt507.1).bind fun t525 => (if t525 = true then (if (bt517.2 == bt521.2) = true then ((laws_sameInts.f kj28 bt517.1 bt521.1).bind fun t526 => (some t526)) else (some false)) else (some false))) else (some false)) else (some false)) else (some false)) else (some false)) else (some false)) else (some false)) else (some false))))))))) = some r := H
       have A111 := Aside0.mk A1110
       clear A1110
       replace H := Option.bind_eq_some_iff.mp H
       obtain ⟨⟨t496, t497⟩, A1120, H⟩ := H
       replace H : ((spec_DrawLevelBlocks.f kj28 l1).bind fun bt498 => ((impl_LevelBlocks.f kj28 bt498.1 bt498.2.1 bt498.2.2.1 bt498.2.2.2).bind fun bt503 => ((spec_LevelBlocks.f kj28 bt498.1 bt498.2.1 bt498.2.2.1 bt498.2.2.2).bind fun bt507 => ((spec_DrawColumnBlocks.f kj28 l1).bind fun bt511 => ((impl_ColumnBlocks.f kj28 bt511.1 bt511.2.1 bt511.2.2.1 bt511.2.2.2.1 bt511.2.2.2.2).bind fun bt517 => ((spec_ColumnBlocks.f kj28 bt511.1 bt511.2.1 bt511.2.2.1 bt511.2.2.2.1 bt511.2.2.2.2).bind fun bt521 => (if (t478 == t480) = true then (if t477 = t479 then (if (t487 == t489) = true then (if t486 = t488 then (if (t495 == t497) = true then (if t494.toList = t496.toList then (if (bt503.2 == bt507.2) = true then ((laws_sameInts.f kj28 bt503.1 bt507.1).bind fun t525 => (if t525 = true then (if (bt517.2 == bt521.2) = true then ((laws_sameInts.f kj28 bt517.1 bt521.1).bind fun t526 => (some t526)) else (some false)) else (some false))) else (some false)) else (some false)) else (some false)) else (some false)) else (some false)) else (some false)) else (some false)))))))) = some r := H
       have A112 := Aside0.mk A1120
       clear A1120
       replace H := Option.bind_eq_some_iff.mp H
       obtain ⟨⟨t498, t499, t500, t501⟩, A1130, H⟩ := H
       replace H : ((impl_LevelBlocks.f kj28 t498 t499 t500 t501).bind fun bt503 => ((spec_LevelBlocks.f kj28 t498 t499 t500 t501).bind fun bt507 => ((spec_DrawColumnBlocks.f kj28 l1).bind fun bt511 => ((impl_ColumnBlocks.f kj28 bt511.1 bt511.2.1 bt511.2.2.1 bt511.2.2.2.1 bt511.2.2.2.2).bind fun bt517 => ((spec_ColumnBlocks.f kj28 bt511.1 bt511.2.1 bt511.2.2.1 bt511.2.2.2.1 bt511.2.2.2.2).bind fun bt521 => (if (t478 == t480) = true then (if t477 = t479 then (if (t487 == t489) = true then (if t486 = t488 then (if (t495 == t497) = true then (if t494.toList = t496.toList then (if (bt503.2 == bt507.2) = true then ((laws_sameInts.f kj28 bt503.1 bt507.1).bind fun t525 => (if t525 = true then (if (bt517.2 == bt521.2) = true then ((laws_sameInts.f kj28 bt517.1 bt521.1).bind fun t526 => (some t526)) else (some false)) else (some false))) else (some false)) else (some false)) else (some false)) else (some false)) else (some false)) else (some false)) else (some false))))))) = some r := H
       have A113 := Aside0.mk A1130
       clear A1130
       replace H := Option.bind_eq_some_iff.mp H
       obtain ⟨⟨t503, t506⟩, A1140, H⟩ := H
       replace H : ((spec_LevelBlocks.f kj28 t498 t499 t500 t501).bind fun bt507 => ((spec_DrawColumnBlocks.f kj28 l1).bind fun bt511 => ((impl_ColumnBlocks.f kj28 bt511.1 bt511.2.1 bt511.2.2.1 bt511.2.2.2.1 bt511.2.2.2.2).bind fun bt517 => ((spec_ColumnBlocks.f kj28 bt511.1 bt511.2.1 bt511.2.2.1 bt511.2.2.2.1 bt511.2.2.2.2).bind fun bt521 => (if (t478 == t480) = true then (if t477 = t479 then (if (t487 == t489) = true then (if t486 = t488 then (if (t495 == t497) = true then (if t494.toList = t496.toList then (if (t506 == bt507.2) = true then ((laws_sameInts.f kj28 t503 bt507.1).bind fun t525 => (if t525 = true then (if (bt517.2 == bt521.2) = true then ((laws_sameInts.f kj28 bt517.1 bt521.1).bind fun t526 => (some t526)) else (some false)) else (some false))) else (some false)) else (some false)) else (some false)) else (some false)) else (some false)) else (some false)) else (some false)))))) = some r := H
       have A114 := Aside0.mk A1140
       clear A1140
       replace H := Option.bind_eq_some_iff.mp H
       obtain ⟨⟨t507, t510⟩, A1150, H⟩ := H
       replace H : ((spec_DrawColumnBlocks.f kj28 l1).bind fun bt511 => ((impl_ColumnBlocks.f kj28 bt511.1 bt511.2.1 bt511.2.2.1 bt511.2.2.2.1 bt511.2.2.2.2).bind fun bt517 => ((spec_ColumnBlocks.f kj28 bt511.1 bt511.2.1 bt511.2.2.1 bt511.2.2.2.1 bt511.2.2.2.2).bind fun bt521 => (if (t478 == t480) = true then (if t477 = t479 then (if (t487 == t489) = true then (if t486 = t488 then (if (t495 == t497) = true then (if t494.toList = t496.toList then (if (t506 == t510) = true then ((laws_sameInts.f kj28 t503 t507).bind fun t525 => (if t525 = true then (if (bt517.2 == bt521.2) = true then ((laws_sameInts.f kj28 bt517.1 bt521.1).bind fun t526 => (some t526)) else (some false)) else (some false))) else (some false)) else (some false)) else (some false)) else (some false)) else (some false)) else (some false)) else (some false))))) = some r := H
       have A115 := Aside0.mk A1150
       clear A1150
       replace H := Option.bind_eq_some_iff.mp H
       obtain ⟨⟨t511, t512, t513, t514, t515⟩, A1160, H⟩ := H
       replace H : ((impl_ColumnBlocks.f kj28 t511 t512 t513 t514 t515).bind fun bt517 => ((spec_ColumnBlocks.f kj28 t511 t512 t513 t514 t515).bind fun bt521 => (if (t478 == t480) = true then (if t477 = t479 then (if (t487 == t489) = true then (if t486 = t488 then (if (t495 == t497) = true then (if t494.toList = t496.toList then (if (t506 == t510) = true then ((laws_sameInts.f kj28 t503 t507).bind fun t525 => (if t525 = true then (if (bt517.2 == bt521.2) = true then ((laws_sameInts.f kj28 bt517.1 bt521.1).bind fun t526 => (some t526)) else (some false)) else (some false))) else (some false)) else (some false)) else (some false)) else (some false)) else (some false)) else (some false)) else (some false)))) = some r := H
       have A116 := Aside0.mk A1160
       clear A1160
       replace H := Option.bind_eq_some_iff.mp H
       obtain ⟨⟨t517, t520⟩, A1170, H⟩ := H
       replace H : ((spec_ColumnBlocks.f kj28 t511 t512 t513 t514 t515).bind fun bt521 => (if (t478 == t480) = true then (if t477 = t479 then (if (t487 == t489) = true then (if t486 = t488 then (if (t495 == t497) = true then (if t494.toList = t496.toList then (if (t506 == t510) = true then ((laws_sameInts.f kj28 t503 t507).bind fun t525 => (if t525 = true then (if (t520 == bt521.2) = true then ((laws_sameInts.f kj28 t517 bt521.1).bind fun t526 => (some t526)) else (some false)) else (some false))) else (some false)) else (some false)) else (some false)) else (some false)) else (some false)) else (some false)) else (some false))) = some r := H
       have A117 := Aside0.mk A1170
       clear A1170
       replace H := Option.bind_eq_some_iff.mp H
       obtain ⟨⟨t521, t524⟩, A1180, H⟩ := H
       replace H : (if (t478 == t480) = true then (if t477 = t479 then (if (t487 == t489) = true then (if t486 = t488 then (if (t495 == t497) = true then (if t494.toList = t496.toList then (if (t506 == t510) = true then ((laws_sameInts.f kj28 t503 t507).bind fun t525 => (if t525 = true then (if (t520 == t524) = true then ((laws_sameInts.f kj28 t517 t521).bind fun t526 => (some t526)) else (some false)) else (some false))) else (some false)) else (some false)) else (some false)) else (some false)) else (some false)) else (some false)) else (some false)) = some r := H
       have A118 := Aside0.mk A1180
       clear A1180
       by_cases c119 : (t478 == t480) = true
       ·as_aux_lemma =>
        rw [if_pos c119] at H
        have c119b0 : (t478 == t480) = true := c119
        (try (have c119b1 : decide (t478 = t480) = true := by simpa using c119))
        (try (have c119b2 : (t478 == t480) = true := by simpa using c119))
        clear c119
        by_cases c120 : t477 = t479
        ·as_aux_lemma =>
         rw [if_pos c120] at H
         have c120b0 : (t477 == t479) = true := beq_iff_eq.mpr c120
         have c120b1 : (t477 != t479) = false := bne_eq_false_iff_eq.mpr c120
         clear c120
         by_cases c121 : (t487 == t489) = true
         ·as_aux_lemma =>
          rw [if_pos c121] at H
          have c121b0 : (t487 == t489) = true := c121
          (try (have c121b1 : decide (t487 = t489) = true := by simpa using c121))
          (try (have c121b2 : (t487 == t489) = true := by simpa using c121))
          clear c121
          by_cases c122 : t486 = t488
          ·as_aux_lemma =>
           rw [if_pos c122] at H
           have c122b0 : (t486 == t488) = true := beq_iff_eq.mpr c122
           have c122b1 : (t486 != t488) = false := bne_eq_false_iff_eq.mpr c122
           clear c122
           by_cases c123 : (t495 == t497) = true
           ·as_aux_lemma =>
            rw [if_pos c123] at H
            have c123b0 : (t495 == t497) = true := c123
            (try (have c123b1 : decide (t495 = t497) = true := by simpa using c123))
            (try (have c123b2 : (t495 == t497) = true := by simpa using c123))
            clear c123
            by_cases c124 : t494.toList = t496.toList
            ·rw [if_pos c124] at H
             have c124b0 : (t494.toList == t496.toList) = true := beq_iff_eq.mpr c124
             have c124b1 : (t494.toList != t496.toList) = false := bne_eq_false_iff_eq.mpr c124
             clear c124
             by_cases c125 : (t506 == t510) = true
             ·rw [if_pos c125] at H
              have c125b0 : (t506 == t510) = true := c125
              (try (have c125b1 : decide (t506 = t510) = true := by simpa using c125))
              (try (have c125b2 : (t506 == t510) = true := by simpa using c125))
              clear c125
              replace H := Option.bind_eq_some_iff.mp H
              obtain ⟨t525, A1260, H⟩ := H
              replace H : (if t525 = true then (if (t520 == t524) = true then ((laws_sameInts.f kj28 t517 t521).bind fun t526 => (some t526)) else (some false)) else (some false)) = some r := H
              have A126 := Aside0.mk A1260
              clear A1260
              by_cases c127 : t525 = true
              ·as_aux_lemma =>
               subst c127
               have H1 : (if (t520 == t524) = true then ((laws_sameInts.f kj28 t517 t521).bind fun t526 => (some t526)) else (some false)) = some r := by rw [if_pos rfl] at H; exact H
               clear H
               have H := H1
               clear H1
               by_cases c128 : (t520 == t524) = true
               ·rw [if_pos c128] at H
                have c128b0 : (t520 == t524) = true := c128
                (try (have c128b1 : decide (t520 = t524) = true := by simpa using c128))
                (try (have c128b2 : (t520 == t524) = true := by simpa using c128))
                clear c128
                replace H := Option.bind_eq_some_iff.mp H
                obtain ⟨t526, A1290, H⟩ := H
                replace H : (some t526) = some r := H
                have A129 := Aside0.mk A1290
                clear A1290
                obtain rfl := Option.some.inj H
                go_wp2_with (first | ((with_reducible refine gate_callee (f := 25) rfl ?_); refine gl_ (some 220) Tryd.func25 #[.slice A1 l1.length c1] rfl rfl rfl ?_; (with_reducible refine (spec_DrawBlockAt.calls kj28 _ _ l1 t470 t471 t472 t473 t474 t475 _ ?side1 ?side2 A104.out).mono ?_); (case side1 => exact Kd.C_w HR1 HB); (case side2 => exact HC1.out); rintro e w130 ⟨rfl, hb⟩; refine ⟨_, rfl, ?_⟩; replace HB := hbs_ HB hb; (try clear hb); (try clear hb2); (try clear hk); (try clear hi)) | ((with_reducible refine gate_dst (N := 27) rfl ?_); (try (refine gate_guard (by rfl) ?_; dsimp only)); refine box_event ?hg (N := 27) ?hd (cs := #[.int .i64 0, .int .i64 0, .int .i64 0]) (t := 26) ?hr ?_; (case hd => rfl); (case hg => rfl); (case hr => first | (go_simp; done) | (go_simp; rfl)); intro gb476 hg w131 hbox hb; have BK476 := Aside0.mk (hbox); have GW476 := gs_ hg HB; have GE476 := gs_ hg HB; replace HB := hbs_ HB hb; clear hb hbox hg; obtain ⟨hcz132_0, hcz132_1, hcz132_2, hfz132_0, hfz132_1, hfz132_2⟩ := bx3 BK476) | ((with_reducible refine gate_callee (f := 20) rfl ?_); refine gl_ (some 230) Tryd.func20 #[.agg #[.int .i64 t470, .int .i64 t471, .int .i64 t472], .int .i64 t473, .int .i64 t474, .int .i64 t475] rfl rfl rfl ?_; (with_reducible refine (impl_BlockAt.calls t470 t471 t472 t473 t474 t475 t477 t478 _ A105.out).mono ?_); rintro e w133 ⟨rfl, hb⟩; refine ⟨_, rfl, ?_⟩; replace BK476 := Aside0.mk (blk_below (g := gb476) (o := .cells #[.int .i64 t470, .int .i64 t471, .int .i64 t472] 26 (0, 0)) (kpq_ (kputs BK476 [(0, _), (1, _), (2, _)])) hb); replace HB := hbs_ HB hb; (try clear hb); (try clear hb2); (try clear hk); (try clear hi); obtain ⟨hcz134_0, hcz134_1, hcz134_2, hfz134_0, hfz134_1, hfz134_2⟩ := bx3 BK476) | ((with_reducible refine gate_callee (f := 26) rfl ?_); refine gl_ (some 238) Tryd.func26 #[.agg #[.int .i64 t470, .int .i64 t471, .int .i64 t472], .int .i64 t473, .int .i64 t474, .int .i64 t475] rfl rfl rfl ?_; (with_reducible refine (spec_BlockAt.calls t470 t471 t472 t473 t474 t475 t479 t480 _ A106.out).mono ?_); rintro e w135 ⟨rfl, hb⟩; refine ⟨_, rfl, ?_⟩; replace BK476 := kb_ BK476 hb; replace HB := hbs_ HB hb; (try clear hb); (try clear hb2); (try clear hk); (try clear hi); try clear BK476; try clear GW476; try clear GE476) | ((with_reducible refine gate_callee (f := 27) rfl ?_); refine gl_ (some 243) Tryd.func27 #[.slice A1 l1.length c1] rfl rfl rfl ?_; (with_reducible refine (spec_DrawParseBlock.calls kj28 _ _ l1 t481 t482 t483 t484 _ ?side1 ?side2 A107.out).mono ?_); (case side1 => exact Kd.C_w HR1 HB); (case side2 => exact HC1.out); rintro e w136 ⟨rfl, hb⟩; refine ⟨_, rfl, ?_⟩; replace HB := hbs_ HB hb; (try clear hb); (try clear hb2); (try clear hk); (try clear hi)) | ((with_reducible refine gate_dst (N := 35) rfl ?_); (try (refine gate_guard (by rfl) ?_; dsimp only)); refine box_event ?hg (N := 35) ?hd (cs := #[.int .i64 0, .int .i64 0, .int .i64 0]) (t := 26) ?hr ?_; (case hd => rfl); (case hg => rfl); (case hr => first | (go_simp; done) | (go_simp; rfl)); intro gb485 hg w137 hbox hb; have BK485 := Aside0.mk (hbox); have GW485 := gs_ hg HB; have GE485 := gs_ hg HB; replace HB := hbs_ HB hb; clear hb hbox hg; obtain ⟨hcz138_0, hcz138_1, hcz138_2, hfz138_0, hfz138_1, hfz138_2⟩ := bx3 BK485) | ((with_reducible refine gate_callee (f := 11) rfl ?_); refine gl_ (some 249) Tryd.func11 #[.agg #[.int .i64 t481, .int .i64 t482, .int .i64 t483], .string t484] rfl rfl rfl ?_; (with_reducible refine (impl_ParseBlock.calls kj28 t481 t482 t483 t484 t486 t487 _ A108.out).mono ?_); rintro e w139 ⟨rfl, hb⟩; refine ⟨_, rfl, ?_⟩; replace BK485 := Aside0.mk (blk_below (g := gb485) (o := .cells #[.int .i64 t481, .int .i64 t482, .int .i64 t483] 26 (0, 0)) (kpq_ (kputs BK485 [(0, _), (1, _), (2, _)])) hb); replace HB := hbs_ HB hb; (try clear hb); (try clear hb2); (try clear hk); (try clear hi); obtain ⟨hcz140_0, hcz140_1, hcz140_2, hfz140_0, hfz140_1, hfz140_2⟩ := bx3 BK485) | ((with_reducible refine gate_callee (f := 10) rfl ?_); refine gl_ (some 255) Tryd.func10 #[.agg #[.int .i64 t481, .int .i64 t482, .int .i64 t483], .string t484] rfl rfl rfl ?_; (with_reducible refine (spec_ParseBlock.calls kj28 t481 t482 t483 t484 t488 t489 _ A109.out).mono ?_); rintro e w141 ⟨rfl, hb⟩; refine ⟨_, rfl, ?_⟩; replace BK485 := kb_ BK485 hb; replace HB := hbs_ HB hb; (try clear hb); (try clear hb2); (try clear hk); (try clear hi); try clear BK485; try clear GW485; try clear GE485) | ((with_reducible refine gate_callee (f := 28) rfl ?_); refine gl_ (some 259) Tryd.func28 #[.slice A1 l1.length c1] rfl rfl rfl ?_; (with_reducible refine (spec_DrawGridText.calls kj28 _ _ l1 t490 t491 t492 _ ?side1 ?side2 A110.out).mono ?_); (case side1 => exact Kd.C_w HR1 HB); (case side2 => exact HC1.out); rintro e w142 ⟨rfl, hb⟩; refine ⟨_, rfl, ?_⟩; replace HB := hbs_ HB hb; (try clear hb); (try clear hb2); (try clear hk); (try clear hi)) | ((with_reducible refine gate_dst (N := 41) rfl ?_); (try (refine gate_guard (by rfl) ?_; dsimp only)); refine box_event ?hg (N := 41) ?hd (cs := #[.int .i64 0, .int .i64 0, .int .i64 0]) (t := 26) ?hr ?_; (case hd => rfl); (case hg => rfl); (case hr => first | (go_simp; done) | (go_simp; rfl)); intro gb493 hg w143 hbox hb; have BK493 := Aside0.mk (hbox); have GW493 := gs_ hg HB; have GE493 := gs_ hg HB; replace HB := hbs_ HB hb; clear hb hbox hg; obtain ⟨hcz144_0, hcz144_1, hcz144_2, hfz144_0, hfz144_1, hfz144_2⟩ := bx3 BK493) | ((with_reducible refine gate_callee (f := 13) rfl ?_); refine gl_ (some 262) Tryd.func13 #[.agg #[.int .i64 t490, .int .i64 t491, .int .i64 t492]] rfl rfl rfl ?_; (with_reducible refine (impl_GridText.calls t490 t491 t492 t494 t495 _ A111.out).mono ?_); rintro e w145 ⟨rfl, hb⟩; refine ⟨_, rfl, ?_⟩; replace BK493 := Aside0.mk (blk_below (g := gb493) (o := .cells #[.int .i64 t490, .int .i64 t491, .int .i64 t492] 26 (0, 0)) (kpq_ (kputs BK493 [(0, _), (1, _), (2, _)])) hb); replace HB := hbs_ HB hb; (try clear hb); (try clear hb2); (try clear hk); (try clear hi); obtain ⟨hcz146_0, hcz146_1, hcz146_2, hfz146_0, hfz146_1, hfz146_2⟩ := bx3 BK493) | ((with_reducible refine gate_callee (f := 12) rfl ?_); refine gl_ (some 267) Tryd.func12 #[.agg #[.int .i64 t490, .int .i64 t491, .int .i64 t492]] rfl rfl rfl ?_; (with_reducible refine (spec_GridText.calls kj28 t490 t491 t492 t496 t497 _ A112.out).mono ?_); rintro e w147 ⟨rfl, hb⟩; refine ⟨_, rfl, ?_⟩; replace BK493 := kb_ BK493 hb; replace HB := hbs_ HB hb; (try clear hb); (try clear hb2); (try clear hk); (try clear hi); try clear BK493; try clear GW493; try clear GE493) | ((with_reducible refine gate_callee (f := 29) rfl ?_); refine gl_ (some 272) Tryd.func29 #[.slice A1 l1.length c1] rfl rfl rfl ?_; (with_reducible refine (spec_DrawLevelBlocks.calls kj28 _ _ l1 t498 t499 t500 t501 _ ?side1 ?side2 A113.out).mono ?_); (case side1 => exact Kd.C_w HR1 HB); (case side2 => exact HC1.out); rintro e w148 ⟨rfl, hb⟩; refine ⟨_, rfl, ?_⟩; replace HB := hbs_ HB hb; (try clear hb); (try clear hb2); (try clear hk); (try clear hi)) | ((with_reducible refine gate_dst (N := 46) rfl ?_); (try (refine gate_guard (by rfl) ?_; dsimp only)); refine box_event ?hg (N := 46) ?hd (cs := #[.int .i64 0, .int .i64 0, .int .i64 0]) (t := 26) ?hr ?_; (case hd => rfl); (case hg => rfl); (case hr => first | (go_simp; done) | (go_simp; rfl)); intro gb502 hg w149 hbox hb; have BK502 := Aside0.mk (hbox); have GW502 := gs_ hg HB; have GE502 := gs_ hg HB; replace HB := hbs_ HB hb; clear hb hbox hg; obtain ⟨hcz150_0, hcz150_1, hcz150_2, hfz150_0, hfz150_1, hfz150_2⟩ := bx3 BK502) | ((with_reducible refine gate_callee (f := 22) rfl ?_); refine gl_ (some 278) Tryd.func22 #[.agg #[.int .i64 t498, .int .i64 t499, .int .i64 t500], .int .i64 t501] rfl rfl rfl ?_; (with_reducible refine (impl_LevelBlocks.calls kj28 t498 t499 t500 t501 t503 t506 _ A114.out).mono ?_); rintro e w151 ⟨v504, rfl, ho0, hb⟩; refine ⟨_, rfl, ?_⟩; have HO505 := Kd.R_lo ho0 HB; replace BK502 := Aside0.mk (blk_below (g := gb502) (o := .cells #[.int .i64 t498, .int .i64 t499, .int .i64 t500] 26 (0, 0)) (kpq_ (kputs BK502 [(0, _), (1, _), (2, _)])) hb); replace HB := hbs_ HB hb; (try clear hb); (try clear hb2); (try clear hk); (try clear hi); (try clear ho0); obtain ⟨hcz152_0, hcz152_1, hcz152_2, hfz152_0, hfz152_1, hfz152_2⟩ := bx3 BK502) | ((with_reducible refine gate_callee (f := 30) rfl ?_); refine gl_ (some 284) Tryd.func30 #[.agg #[.int .i64 t498, .int .i64 t499, .int .i64 t500], .int .i64 t501] rfl rfl rfl ?_; (with_reducible refine (spec_LevelBlocks.calls kj28 t498 t499 t500 t501 t507 t510 _ A115.out).mono ?_); rintro e w153 ⟨v508, rfl, ho0, hb⟩; refine ⟨_, rfl, ?_⟩; have HO509 := Kd.R_lo (Kd.R_nw ho0 HO505) HB; replace HO505 := Kd.R_e HO505 ho0 hb; replace BK502 := kb_ BK502 hb; replace HB := hbs_ HB hb; (try clear hb); (try clear hb2); (try clear hk); (try clear hi); (try clear ho0); try clear BK502; try clear GW502; try clear GE502) | ((with_reducible refine gate_callee (f := 31) rfl ?_); refine gl_ (some 289) Tryd.func31 #[.slice A1 l1.length c1] rfl rfl rfl ?_; (with_reducible refine (spec_DrawColumnBlocks.calls kj28 _ _ l1 t511 t512 t513 t514 t515 _ ?side1 ?side2 A116.out).mono ?_); (case side1 => exact Kd.C_w HR1 HB); (case side2 => exact HC1.out); rintro e w154 ⟨rfl, hb⟩; refine ⟨_, rfl, ?_⟩; replace HO505 := Kd.R_b HO505 hb; replace HO509 := Kd.R_b HO509 hb; replace HB := hbs_ HB hb; (try clear hb); (try clear hb2); (try clear hk); (try clear hi)) | ((with_reducible refine gate_dst (N := 52) rfl ?_); (try (refine gate_guard (by rfl) ?_; dsimp only)); refine box_event ?hg (N := 52) ?hd (cs := #[.int .i64 0, .int .i64 0, .int .i64 0]) (t := 26) ?hr ?_; (case hd => rfl); (case hg => rfl); (case hr => first | (go_simp; done) | (go_simp; rfl)); intro gb516 hg w155 hbox hb; have BK516 := Aside0.mk (hbox); have GW516 := gs_ hg HB; have GE516 := gs_ hg HB; replace HO505 := Kd.R_b HO505 hb; replace HO509 := Kd.R_b HO509 hb; replace HB := hbs_ HB hb; clear hb hbox hg; obtain ⟨hcz156_0, hcz156_1, hcz156_2, hfz156_0, hfz156_1, hfz156_2⟩ := bx3 BK516) | ((with_reducible refine gate_callee (f := 23) rfl ?_); refine gl_ (some 297) Tryd.func23 #[.agg #[.int .i64 t511, .int .i64 t512, .int .i64 t513], .int .i64 t514, .int .i64 t515] rfl rfl rfl ?_; (with_reducible refine (impl_ColumnBlocks.calls kj28 t511 t512 t513 t514 t515 t517 t520 _ A117.out).mono ?_); rintro e w157 ⟨v518, rfl, ho0, hb⟩; refine ⟨_, rfl, ?_⟩; have HO519 := Kd.R_lo (Kd.R_ns (Kd.R_ns ho0 HO505 BK516) HO509 BK516) HB; replace HO505 := Kd.R_e1s HO505 BK516 ho0 hb; replace HO509 := Kd.R_e1s HO509 BK516 ho0 hb; replace HB := hbs_ HB hb; replace BK516 := Aside0.mk (blk_below (g := gb516) (o := .cells #[.int .i64 t511, .int .i64 t512, .int .i64 t513] 26 (0, 0)) (kpq_ (kputs BK516 [(0, _), (1, _), (2, _)])) hb); (try clear hb); (try clear hb2); (try clear hk); (try clear hi); (try clear ho0); obtain ⟨hcz158_0, hcz158_1, hcz158_2, hfz158_0, hfz158_1, hfz158_2⟩ := bx3 BK516) | ((with_reducible refine gate_callee (f := 32) rfl ?_); refine gl_ (some 304) Tryd.func32 #[.agg #[.int .i64 t511, .int .i64 t512, .int .i64 t513], .int .i64 t514, .int .i64 t515] rfl rfl rfl ?_; (with_reducible refine (spec_ColumnBlocks.calls kj28 t511 t512 t513 t514 t515 t521 t524 _ A118.out).mono ?_); rintro e w159 ⟨v522, rfl, ho0, hb⟩; refine ⟨_, rfl, ?_⟩; have HO523 := Kd.R_lo (Kd.R_nw (Kd.R_nw (Kd.R_nw ho0 HO505) HO509) HO519) HB; replace HO505 := Kd.R_e HO505 ho0 hb; replace HO509 := Kd.R_e HO509 ho0 hb; replace HO519 := Kd.R_e HO519 ho0 hb; replace BK516 := kb_ BK516 hb; replace HB := hbs_ HB hb; (try clear hb); (try clear hb2); (try clear hk); (try clear hi); (try clear ho0); try clear BK516; try clear GW516; try clear GE516; obtain ⟨Ao160, co160, eo160⟩ := Kd.R_slice HO505.out; subst eo160; obtain ⟨Ao161, co161, eo161⟩ := Kd.R_slice HO509.out; subst eo161) | (go_at_call 33; (with_reducible refine (laws_sameInts.calls kj28 _ _ t503 _ _ t507 true _ ?side1 ?side2 ?side3 ?side4 A126.out).mono ?_); (case side1 => exact Kd.C_o HO505); (case side2 => exact (Kd.R_reads' HO505.out).2.1); (case side3 => exact Kd.C_o HO509); (case side4 => exact (Kd.R_reads' HO509.out).2.1); rintro e w' ⟨rfl, ⟨nd, rfl⟩⟩; try clear HO505; try clear HO509; obtain ⟨Ao162, co162, eo162⟩ := Kd.R_slice HO519.out; subst eo162; obtain ⟨Ao163, co163, eo163⟩ := Kd.R_slice HO523.out; subst eo163) | (go_at_call 33; (with_reducible refine (laws_sameInts.calls kj28 _ _ t517 _ _ t521 t526 _ ?side1 ?side2 ?side3 ?side4 A129.out).mono ?_); (case side1 => exact Kd.C_o HO519); (case side2 => exact (Kd.R_reads' HO519.out).2.1); (case side3 => exact Kd.C_o HO523); (case side4 => exact (Kd.R_reads' HO523.out).2.1); rintro e w' ⟨rfl, ⟨nd, rfl⟩⟩))
                go_ret
                exact ⟨by first | rfl | (simp [errW_none, errW_some] <;> rfl) | (simp [*, errW_none, errW_some] <;> rfl), hb_ HB⟩
               ·rw [if_neg c128] at H
                have c128b0 : (t520 == t524) = false := by simpa using c128
                (try (have c128b1 : decide (t520 = t524) = false := by simpa using c128))
                (try (have c128b2 : (t520 == t524) = false := by simpa using c128))
                (try (have c128b3 : ¬ (t520 = t524) := by simpa using c128))
                clear c128
                obtain rfl := Option.some.inj H
                go_wp2_with (first | ((with_reducible refine gate_callee (f := 25) rfl ?_); refine gl_ (some 220) Tryd.func25 #[.slice A1 l1.length c1] rfl rfl rfl ?_; (with_reducible refine (spec_DrawBlockAt.calls kj28 _ _ l1 t470 t471 t472 t473 t474 t475 _ ?side1 ?side2 A104.out).mono ?_); (case side1 => exact Kd.C_w HR1 HB); (case side2 => exact HC1.out); rintro e w164 ⟨rfl, hb⟩; refine ⟨_, rfl, ?_⟩; replace HB := hbs_ HB hb; (try clear hb); (try clear hb2); (try clear hk); (try clear hi)) | ((with_reducible refine gate_dst (N := 27) rfl ?_); (try (refine gate_guard (by rfl) ?_; dsimp only)); refine box_event ?hg (N := 27) ?hd (cs := #[.int .i64 0, .int .i64 0, .int .i64 0]) (t := 26) ?hr ?_; (case hd => rfl); (case hg => rfl); (case hr => first | (go_simp; done) | (go_simp; rfl)); intro gb476 hg w165 hbox hb; have BK476 := Aside0.mk (hbox); have GW476 := gs_ hg HB; have GE476 := gs_ hg HB; replace HB := hbs_ HB hb; clear hb hbox hg; obtain ⟨hcz166_0, hcz166_1, hcz166_2, hfz166_0, hfz166_1, hfz166_2⟩ := bx3 BK476) | ((with_reducible refine gate_callee (f := 20) rfl ?_); refine gl_ (some 230) Tryd.func20 #[.agg #[.int .i64 t470, .int .i64 t471, .int .i64 t472], .int .i64 t473, .int .i64 t474, .int .i64 t475] rfl rfl rfl ?_; (with_reducible refine (impl_BlockAt.calls t470 t471 t472 t473 t474 t475 t477 t478 _ A105.out).mono ?_); rintro e w167 ⟨rfl, hb⟩; refine ⟨_, rfl, ?_⟩; replace BK476 := Aside0.mk (blk_below (g := gb476) (o := .cells #[.int .i64 t470, .int .i64 t471, .int .i64 t472] 26 (0, 0)) (kpq_ (kputs BK476 [(0, _), (1, _), (2, _)])) hb); replace HB := hbs_ HB hb; (try clear hb); (try clear hb2); (try clear hk); (try clear hi); obtain ⟨hcz168_0, hcz168_1, hcz168_2, hfz168_0, hfz168_1, hfz168_2⟩ := bx3 BK476) | ((with_reducible refine gate_callee (f := 26) rfl ?_); refine gl_ (some 238) Tryd.func26 #[.agg #[.int .i64 t470, .int .i64 t471, .int .i64 t472], .int .i64 t473, .int .i64 t474, .int .i64 t475] rfl rfl rfl ?_; (with_reducible refine (spec_BlockAt.calls t470 t471 t472 t473 t474 t475 t479 t480 _ A106.out).mono ?_); rintro e w169 ⟨rfl, hb⟩; refine ⟨_, rfl, ?_⟩; replace BK476 := kb_ BK476 hb; replace HB := hbs_ HB hb; (try clear hb); (try clear hb2); (try clear hk); (try clear hi); try clear BK476; try clear GW476; try clear GE476) | ((with_reducible refine gate_callee (f := 27) rfl ?_); refine gl_ (some 243) Tryd.func27 #[.slice A1 l1.length c1] rfl rfl rfl ?_; (with_reducible refine (spec_DrawParseBlock.calls kj28 _ _ l1 t481 t482 t483 t484 _ ?side1 ?side2 A107.out).mono ?_); (case side1 => exact Kd.C_w HR1 HB); (case side2 => exact HC1.out); rintro e w170 ⟨rfl, hb⟩; refine ⟨_, rfl, ?_⟩; replace HB := hbs_ HB hb; (try clear hb); (try clear hb2); (try clear hk); (try clear hi)) | ((with_reducible refine gate_dst (N := 35) rfl ?_); (try (refine gate_guard (by rfl) ?_; dsimp only)); refine box_event ?hg (N := 35) ?hd (cs := #[.int .i64 0, .int .i64 0, .int .i64 0]) (t := 26) ?hr ?_; (case hd => rfl); (case hg => rfl); (case hr => first | (go_simp; done) | (go_simp; rfl)); intro gb485 hg w171 hbox hb; have BK485 := Aside0.mk (hbox); have GW485 := gs_ hg HB; have GE485 := gs_ hg HB; replace HB := hbs_ HB hb; clear hb hbox hg; obtain ⟨hcz172_0, hcz172_1, hcz172_2, hfz172_0, hfz172_1, hfz172_2⟩ := bx3 BK485) | ((with_reducible refine gate_callee (f := 11) rfl ?_); refine gl_ (some 249) Tryd.func11 #[.agg #[.int .i64 t481, .int .i64 t482, .int .i64 t483], .string t484] rfl rfl rfl ?_; (with_reducible refine (impl_ParseBlock.calls kj28 t481 t482 t483 t484 t486 t487 _ A108.out).mono ?_); rintro e w173 ⟨rfl, hb⟩; refine ⟨_, rfl, ?_⟩; replace BK485 := Aside0.mk (blk_below (g := gb485) (o := .cells #[.int .i64 t481, .int .i64 t482, .int .i64 t483] 26 (0, 0)) (kpq_ (kputs BK485 [(0, _), (1, _), (2, _)])) hb); replace HB := hbs_ HB hb; (try clear hb); (try clear hb2); (try clear hk); (try clear hi); obtain ⟨hcz174_0, hcz174_1, hcz174_2, hfz174_0, hfz174_1, hfz174_2⟩ := bx3 BK485) | ((with_reducible refine gate_callee (f := 10) rfl ?_); refine gl_ (some 255) Tryd.func10 #[.agg #[.int .i64 t481, .int .i64 t482, .int .i64 t483], .string t484] rfl rfl rfl ?_; (with_reducible refine (spec_ParseBlock.calls kj28 t481 t482 t483 t484 t488 t489 _ A109.out).mono ?_); rintro e w175 ⟨rfl, hb⟩; refine ⟨_, rfl, ?_⟩; replace BK485 := kb_ BK485 hb; replace HB := hbs_ HB hb; (try clear hb); (try clear hb2); (try clear hk); (try clear hi); try clear BK485; try clear GW485; try clear GE485) | ((with_reducible refine gate_callee (f := 28) rfl ?_); refine gl_ (some 259) Tryd.func28 #[.slice A1 l1.length c1] rfl rfl rfl ?_; (with_reducible refine (spec_DrawGridText.calls kj28 _ _ l1 t490 t491 t492 _ ?side1 ?side2 A110.out).mono ?_); (case side1 => exact Kd.C_w HR1 HB); (case side2 => exact HC1.out); rintro e w176 ⟨rfl, hb⟩; refine ⟨_, rfl, ?_⟩; replace HB := hbs_ HB hb; (try clear hb); (try clear hb2); (try clear hk); (try clear hi)) | ((with_reducible refine gate_dst (N := 41) rfl ?_); (try (refine gate_guard (by rfl) ?_; dsimp only)); refine box_event ?hg (N := 41) ?hd (cs := #[.int .i64 0, .int .i64 0, .int .i64 0]) (t := 26) ?hr ?_; (case hd => rfl); (case hg => rfl); (case hr => first | (go_simp; done) | (go_simp; rfl)); intro gb493 hg w177 hbox hb; have BK493 := Aside0.mk (hbox); have GW493 := gs_ hg HB; have GE493 := gs_ hg HB; replace HB := hbs_ HB hb; clear hb hbox hg; obtain ⟨hcz178_0, hcz178_1, hcz178_2, hfz178_0, hfz178_1, hfz178_2⟩ := bx3 BK493) | ((with_reducible refine gate_callee (f := 13) rfl ?_); refine gl_ (some 262) Tryd.func13 #[.agg #[.int .i64 t490, .int .i64 t491, .int .i64 t492]] rfl rfl rfl ?_; (with_reducible refine (impl_GridText.calls t490 t491 t492 t494 t495 _ A111.out).mono ?_); rintro e w179 ⟨rfl, hb⟩; refine ⟨_, rfl, ?_⟩; replace BK493 := Aside0.mk (blk_below (g := gb493) (o := .cells #[.int .i64 t490, .int .i64 t491, .int .i64 t492] 26 (0, 0)) (kpq_ (kputs BK493 [(0, _), (1, _), (2, _)])) hb); replace HB := hbs_ HB hb; (try clear hb); (try clear hb2); (try clear hk); (try clear hi); obtain ⟨hcz180_0, hcz180_1, hcz180_2, hfz180_0, hfz180_1, hfz180_2⟩ := bx3 BK493) | ((with_reducible refine gate_callee (f := 12) rfl ?_); refine gl_ (some 267) Tryd.func12 #[.agg #[.int .i64 t490, .int .i64 t491, .int .i64 t492]] rfl rfl rfl ?_; (with_reducible refine (spec_GridText.calls kj28 t490 t491 t492 t496 t497 _ A112.out).mono ?_); rintro e w181 ⟨rfl, hb⟩; refine ⟨_, rfl, ?_⟩; replace BK493 := kb_ BK493 hb; replace HB := hbs_ HB hb; (try clear hb); (try clear hb2); (try clear hk); (try clear hi); try clear BK493; try clear GW493; try clear GE493) | ((with_reducible refine gate_callee (f := 29) rfl ?_); refine gl_ (some 272) Tryd.func29 #[.slice A1 l1.length c1] rfl rfl rfl ?_; (with_reducible refine (spec_DrawLevelBlocks.calls kj28 _ _ l1 t498 t499 t500 t501 _ ?side1 ?side2 A113.out).mono ?_); (case side1 => exact Kd.C_w HR1 HB); (case side2 => exact HC1.out); rintro e w182 ⟨rfl, hb⟩; refine ⟨_, rfl, ?_⟩; replace HB := hbs_ HB hb; (try clear hb); (try clear hb2); (try clear hk); (try clear hi)) | ((with_reducible refine gate_dst (N := 46) rfl ?_); (try (refine gate_guard (by rfl) ?_; dsimp only)); refine box_event ?hg (N := 46) ?hd (cs := #[.int .i64 0, .int .i64 0, .int .i64 0]) (t := 26) ?hr ?_; (case hd => rfl); (case hg => rfl); (case hr => first | (go_simp; done) | (go_simp; rfl)); intro gb502 hg w183 hbox hb; have BK502 := Aside0.mk (hbox); have GW502 := gs_ hg HB; have GE502 := gs_ hg HB; replace HB := hbs_ HB hb; clear hb hbox hg; obtain ⟨hcz184_0, hcz184_1, hcz184_2, hfz184_0, hfz184_1, hfz184_2⟩ := bx3 BK502) | ((with_reducible refine gate_callee (f := 22) rfl ?_); refine gl_ (some 278) Tryd.func22 #[.agg #[.int .i64 t498, .int .i64 t499, .int .i64 t500], .int .i64 t501] rfl rfl rfl ?_; (with_reducible refine (impl_LevelBlocks.calls kj28 t498 t499 t500 t501 t503 t506 _ A114.out).mono ?_); rintro e w185 ⟨v504, rfl, ho0, hb⟩; refine ⟨_, rfl, ?_⟩; have HO505 := Kd.R_lo ho0 HB; replace BK502 := Aside0.mk (blk_below (g := gb502) (o := .cells #[.int .i64 t498, .int .i64 t499, .int .i64 t500] 26 (0, 0)) (kpq_ (kputs BK502 [(0, _), (1, _), (2, _)])) hb); replace HB := hbs_ HB hb; (try clear hb); (try clear hb2); (try clear hk); (try clear hi); (try clear ho0); obtain ⟨hcz186_0, hcz186_1, hcz186_2, hfz186_0, hfz186_1, hfz186_2⟩ := bx3 BK502) | ((with_reducible refine gate_callee (f := 30) rfl ?_); refine gl_ (some 284) Tryd.func30 #[.agg #[.int .i64 t498, .int .i64 t499, .int .i64 t500], .int .i64 t501] rfl rfl rfl ?_; (with_reducible refine (spec_LevelBlocks.calls kj28 t498 t499 t500 t501 t507 t510 _ A115.out).mono ?_); rintro e w187 ⟨v508, rfl, ho0, hb⟩; refine ⟨_, rfl, ?_⟩; have HO509 := Kd.R_lo (Kd.R_nw ho0 HO505) HB; replace HO505 := Kd.R_e HO505 ho0 hb; replace BK502 := kb_ BK502 hb; replace HB := hbs_ HB hb; (try clear hb); (try clear hb2); (try clear hk); (try clear hi); (try clear ho0); try clear BK502; try clear GW502; try clear GE502) | ((with_reducible refine gate_callee (f := 31) rfl ?_); refine gl_ (some 289) Tryd.func31 #[.slice A1 l1.length c1] rfl rfl rfl ?_; (with_reducible refine (spec_DrawColumnBlocks.calls kj28 _ _ l1 t511 t512 t513 t514 t515 _ ?side1 ?side2 A116.out).mono ?_); (case side1 => exact Kd.C_w HR1 HB); (case side2 => exact HC1.out); rintro e w188 ⟨rfl, hb⟩; refine ⟨_, rfl, ?_⟩; replace HO505 := Kd.R_b HO505 hb; replace HO509 := Kd.R_b HO509 hb; replace HB := hbs_ HB hb; (try clear hb); (try clear hb2); (try clear hk); (try clear hi)) | ((with_reducible refine gate_dst (N := 52) rfl ?_); (try (refine gate_guard (by rfl) ?_; dsimp only)); refine box_event ?hg (N := 52) ?hd (cs := #[.int .i64 0, .int .i64 0, .int .i64 0]) (t := 26) ?hr ?_; (case hd => rfl); (case hg => rfl); (case hr => first | (go_simp; done) | (go_simp; rfl)); intro gb516 hg w189 hbox hb; have BK516 := Aside0.mk (hbox); have GW516 := gs_ hg HB; have GE516 := gs_ hg HB; replace HO505 := Kd.R_b HO505 hb; replace HO509 := Kd.R_b HO509 hb; replace HB := hbs_ HB hb; clear hb hbox hg; obtain ⟨hcz190_0, hcz190_1, hcz190_2, hfz190_0, hfz190_1, hfz190_2⟩ := bx3 BK516) | ((with_reducible refine gate_callee (f := 23) rfl ?_); refine gl_ (some 297) Tryd.func23 #[.agg #[.int .i64 t511, .int .i64 t512, .int .i64 t513], .int .i64 t514, .int .i64 t515] rfl rfl rfl ?_; (with_reducible refine (impl_ColumnBlocks.calls kj28 t511 t512 t513 t514 t515 t517 t520 _ A117.out).mono ?_); rintro e w191 ⟨v518, rfl, ho0, hb⟩; refine ⟨_, rfl, ?_⟩; have HO519 := Kd.R_lo (Kd.R_ns (Kd.R_ns ho0 HO505 BK516) HO509 BK516) HB; replace HO505 := Kd.R_e1s HO505 BK516 ho0 hb; replace HO509 := Kd.R_e1s HO509 BK516 ho0 hb; replace HB := hbs_ HB hb; replace BK516 := Aside0.mk (blk_below (g := gb516) (o := .cells #[.int .i64 t511, .int .i64 t512, .int .i64 t513] 26 (0, 0)) (kpq_ (kputs BK516 [(0, _), (1, _), (2, _)])) hb); (try clear hb); (try clear hb2); (try clear hk); (try clear hi); (try clear ho0); obtain ⟨hcz192_0, hcz192_1, hcz192_2, hfz192_0, hfz192_1, hfz192_2⟩ := bx3 BK516; try clear HO519) | ((with_reducible refine gate_callee (f := 32) rfl ?_); refine gl_ (some 304) Tryd.func32 #[.agg #[.int .i64 t511, .int .i64 t512, .int .i64 t513], .int .i64 t514, .int .i64 t515] rfl rfl rfl ?_; (with_reducible refine (spec_ColumnBlocks.calls kj28 t511 t512 t513 t514 t515 t521 t524 _ A118.out).mono ?_); rintro e w193 ⟨v522, rfl, ho0, hb⟩; refine ⟨_, rfl, ?_⟩; have HO523 := Kd.R_lo (Kd.R_nw (Kd.R_nw ho0 HO505) HO509) HB; replace HO505 := Kd.R_e HO505 ho0 hb; replace HO509 := Kd.R_e HO509 ho0 hb; replace BK516 := kb_ BK516 hb; replace HB := hbs_ HB hb; (try clear hb); (try clear hb2); (try clear hk); (try clear hi); (try clear ho0); try clear BK516; try clear GW516; try clear GE516; try clear HO523; obtain ⟨Ao194, co194, eo194⟩ := Kd.R_slice HO505.out; subst eo194; obtain ⟨Ao195, co195, eo195⟩ := Kd.R_slice HO509.out; subst eo195) | (go_at_call 33; (with_reducible refine (laws_sameInts.calls kj28 _ _ t503 _ _ t507 true _ ?side1 ?side2 ?side3 ?side4 A126.out).mono ?_); (case side1 => exact Kd.C_o HO505); (case side2 => exact (Kd.R_reads' HO505.out).2.1); (case side3 => exact Kd.C_o HO509); (case side4 => exact (Kd.R_reads' HO509.out).2.1); rintro e w' ⟨rfl, ⟨nd, rfl⟩⟩))
                go_ret
                exact ⟨by first | rfl | (simp [errW_none, errW_some] <;> rfl) | (simp [*, errW_none, errW_some] <;> rfl), hb_ HB⟩
              ·replace c127 := Bool.eq_false_iff.mpr c127
               subst c127
               have H1 : (some false) = some r := by rw [if_neg (show ¬ (false = true) by decide)] at H; exact H
               clear H
               have H := H1
               clear H1
               obtain rfl := Option.some.inj H
               go_wp2_with (first | ((with_reducible refine gate_callee (f := 25) rfl ?_); refine gl_ (some 220) Tryd.func25 #[.slice A1 l1.length c1] rfl rfl rfl ?_; (with_reducible refine (spec_DrawBlockAt.calls kj28 _ _ l1 t470 t471 t472 t473 t474 t475 _ ?side1 ?side2 A104.out).mono ?_); (case side1 => exact Kd.C_w HR1 HB); (case side2 => exact HC1.out); rintro e w196 ⟨rfl, hb⟩; refine ⟨_, rfl, ?_⟩; replace HB := hbs_ HB hb; (try clear hb); (try clear hb2); (try clear hk); (try clear hi)) | ((with_reducible refine gate_dst (N := 27) rfl ?_); (try (refine gate_guard (by rfl) ?_; dsimp only)); refine box_event ?hg (N := 27) ?hd (cs := #[.int .i64 0, .int .i64 0, .int .i64 0]) (t := 26) ?hr ?_; (case hd => rfl); (case hg => rfl); (case hr => first | (go_simp; done) | (go_simp; rfl)); intro gb476 hg w197 hbox hb; have BK476 := Aside0.mk (hbox); have GW476 := gs_ hg HB; have GE476 := gs_ hg HB; replace HB := hbs_ HB hb; clear hb hbox hg; obtain ⟨hcz198_0, hcz198_1, hcz198_2, hfz198_0, hfz198_1, hfz198_2⟩ := bx3 BK476) | ((with_reducible refine gate_callee (f := 20) rfl ?_); refine gl_ (some 230) Tryd.func20 #[.agg #[.int .i64 t470, .int .i64 t471, .int .i64 t472], .int .i64 t473, .int .i64 t474, .int .i64 t475] rfl rfl rfl ?_; (with_reducible refine (impl_BlockAt.calls t470 t471 t472 t473 t474 t475 t477 t478 _ A105.out).mono ?_); rintro e w199 ⟨rfl, hb⟩; refine ⟨_, rfl, ?_⟩; replace BK476 := Aside0.mk (blk_below (g := gb476) (o := .cells #[.int .i64 t470, .int .i64 t471, .int .i64 t472] 26 (0, 0)) (kpq_ (kputs BK476 [(0, _), (1, _), (2, _)])) hb); replace HB := hbs_ HB hb; (try clear hb); (try clear hb2); (try clear hk); (try clear hi); obtain ⟨hcz200_0, hcz200_1, hcz200_2, hfz200_0, hfz200_1, hfz200_2⟩ := bx3 BK476) | ((with_reducible refine gate_callee (f := 26) rfl ?_); refine gl_ (some 238) Tryd.func26 #[.agg #[.int .i64 t470, .int .i64 t471, .int .i64 t472], .int .i64 t473, .int .i64 t474, .int .i64 t475] rfl rfl rfl ?_; (with_reducible refine (spec_BlockAt.calls t470 t471 t472 t473 t474 t475 t479 t480 _ A106.out).mono ?_); rintro e w201 ⟨rfl, hb⟩; refine ⟨_, rfl, ?_⟩; replace BK476 := kb_ BK476 hb; replace HB := hbs_ HB hb; (try clear hb); (try clear hb2); (try clear hk); (try clear hi); try clear BK476; try clear GW476; try clear GE476) | ((with_reducible refine gate_callee (f := 27) rfl ?_); refine gl_ (some 243) Tryd.func27 #[.slice A1 l1.length c1] rfl rfl rfl ?_; (with_reducible refine (spec_DrawParseBlock.calls kj28 _ _ l1 t481 t482 t483 t484 _ ?side1 ?side2 A107.out).mono ?_); (case side1 => exact Kd.C_w HR1 HB); (case side2 => exact HC1.out); rintro e w202 ⟨rfl, hb⟩; refine ⟨_, rfl, ?_⟩; replace HB := hbs_ HB hb; (try clear hb); (try clear hb2); (try clear hk); (try clear hi)) | ((with_reducible refine gate_dst (N := 35) rfl ?_); (try (refine gate_guard (by rfl) ?_; dsimp only)); refine box_event ?hg (N := 35) ?hd (cs := #[.int .i64 0, .int .i64 0, .int .i64 0]) (t := 26) ?hr ?_; (case hd => rfl); (case hg => rfl); (case hr => first | (go_simp; done) | (go_simp; rfl)); intro gb485 hg w203 hbox hb; have BK485 := Aside0.mk (hbox); have GW485 := gs_ hg HB; have GE485 := gs_ hg HB; replace HB := hbs_ HB hb; clear hb hbox hg; obtain ⟨hcz204_0, hcz204_1, hcz204_2, hfz204_0, hfz204_1, hfz204_2⟩ := bx3 BK485) | ((with_reducible refine gate_callee (f := 11) rfl ?_); refine gl_ (some 249) Tryd.func11 #[.agg #[.int .i64 t481, .int .i64 t482, .int .i64 t483], .string t484] rfl rfl rfl ?_; (with_reducible refine (impl_ParseBlock.calls kj28 t481 t482 t483 t484 t486 t487 _ A108.out).mono ?_); rintro e w205 ⟨rfl, hb⟩; refine ⟨_, rfl, ?_⟩; replace BK485 := Aside0.mk (blk_below (g := gb485) (o := .cells #[.int .i64 t481, .int .i64 t482, .int .i64 t483] 26 (0, 0)) (kpq_ (kputs BK485 [(0, _), (1, _), (2, _)])) hb); replace HB := hbs_ HB hb; (try clear hb); (try clear hb2); (try clear hk); (try clear hi); obtain ⟨hcz206_0, hcz206_1, hcz206_2, hfz206_0, hfz206_1, hfz206_2⟩ := bx3 BK485) | ((with_reducible refine gate_callee (f := 10) rfl ?_); refine gl_ (some 255) Tryd.func10 #[.agg #[.int .i64 t481, .int .i64 t482, .int .i64 t483], .string t484] rfl rfl rfl ?_; (with_reducible refine (spec_ParseBlock.calls kj28 t481 t482 t483 t484 t488 t489 _ A109.out).mono ?_); rintro e w207 ⟨rfl, hb⟩; refine ⟨_, rfl, ?_⟩; replace BK485 := kb_ BK485 hb; replace HB := hbs_ HB hb; (try clear hb); (try clear hb2); (try clear hk); (try clear hi); try clear BK485; try clear GW485; try clear GE485) | ((with_reducible refine gate_callee (f := 28) rfl ?_); refine gl_ (some 259) Tryd.func28 #[.slice A1 l1.length c1] rfl rfl rfl ?_; (with_reducible refine (spec_DrawGridText.calls kj28 _ _ l1 t490 t491 t492 _ ?side1 ?side2 A110.out).mono ?_); (case side1 => exact Kd.C_w HR1 HB); (case side2 => exact HC1.out); rintro e w208 ⟨rfl, hb⟩; refine ⟨_, rfl, ?_⟩; replace HB := hbs_ HB hb; (try clear hb); (try clear hb2); (try clear hk); (try clear hi)) | ((with_reducible refine gate_dst (N := 41) rfl ?_); (try (refine gate_guard (by rfl) ?_; dsimp only)); refine box_event ?hg (N := 41) ?hd (cs := #[.int .i64 0, .int .i64 0, .int .i64 0]) (t := 26) ?hr ?_; (case hd => rfl); (case hg => rfl); (case hr => first | (go_simp; done) | (go_simp; rfl)); intro gb493 hg w209 hbox hb; have BK493 := Aside0.mk (hbox); have GW493 := gs_ hg HB; have GE493 := gs_ hg HB; replace HB := hbs_ HB hb; clear hb hbox hg; obtain ⟨hcz210_0, hcz210_1, hcz210_2, hfz210_0, hfz210_1, hfz210_2⟩ := bx3 BK493) | ((with_reducible refine gate_callee (f := 13) rfl ?_); refine gl_ (some 262) Tryd.func13 #[.agg #[.int .i64 t490, .int .i64 t491, .int .i64 t492]] rfl rfl rfl ?_; (with_reducible refine (impl_GridText.calls t490 t491 t492 t494 t495 _ A111.out).mono ?_); rintro e w211 ⟨rfl, hb⟩; refine ⟨_, rfl, ?_⟩; replace BK493 := Aside0.mk (blk_below (g := gb493) (o := .cells #[.int .i64 t490, .int .i64 t491, .int .i64 t492] 26 (0, 0)) (kpq_ (kputs BK493 [(0, _), (1, _), (2, _)])) hb); replace HB := hbs_ HB hb; (try clear hb); (try clear hb2); (try clear hk); (try clear hi); obtain ⟨hcz212_0, hcz212_1, hcz212_2, hfz212_0, hfz212_1, hfz212_2⟩ := bx3 BK493) | ((with_reducible refine gate_callee (f := 12) rfl ?_); refine gl_ (some 267) Tryd.func12 #[.agg #[.int .i64 t490, .int .i64 t491, .int .i64 t492]] rfl rfl rfl ?_; (with_reducible refine (spec_GridText.calls kj28 t490 t491 t492 t496 t497 _ A112.out).mono ?_); rintro e w213 ⟨rfl, hb⟩; refine ⟨_, rfl, ?_⟩; replace BK493 := kb_ BK493 hb; replace HB := hbs_ HB hb; (try clear hb); (try clear hb2); (try clear hk); (try clear hi); try clear BK493; try clear GW493; try clear GE493) | ((with_reducible refine gate_callee (f := 29) rfl ?_); refine gl_ (some 272) Tryd.func29 #[.slice A1 l1.length c1] rfl rfl rfl ?_; (with_reducible refine (spec_DrawLevelBlocks.calls kj28 _ _ l1 t498 t499 t500 t501 _ ?side1 ?side2 A113.out).mono ?_); (case side1 => exact Kd.C_w HR1 HB); (case side2 => exact HC1.out); rintro e w214 ⟨rfl, hb⟩; refine ⟨_, rfl, ?_⟩; replace HB := hbs_ HB hb; (try clear hb); (try clear hb2); (try clear hk); (try clear hi)) | ((with_reducible refine gate_dst (N := 46) rfl ?_); (try (refine gate_guard (by rfl) ?_; dsimp only)); refine box_event ?hg (N := 46) ?hd (cs := #[.int .i64 0, .int .i64 0, .int .i64 0]) (t := 26) ?hr ?_; (case hd => rfl); (case hg => rfl); (case hr => first | (go_simp; done) | (go_simp; rfl)); intro gb502 hg w215 hbox hb; have BK502 := Aside0.mk (hbox); have GW502 := gs_ hg HB; have GE502 := gs_ hg HB; replace HB := hbs_ HB hb; clear hb hbox hg; obtain ⟨hcz216_0, hcz216_1, hcz216_2, hfz216_0, hfz216_1, hfz216_2⟩ := bx3 BK502) | ((with_reducible refine gate_callee (f := 22) rfl ?_); refine gl_ (some 278) Tryd.func22 #[.agg #[.int .i64 t498, .int .i64 t499, .int .i64 t500], .int .i64 t501] rfl rfl rfl ?_; (with_reducible refine (impl_LevelBlocks.calls kj28 t498 t499 t500 t501 t503 t506 _ A114.out).mono ?_); rintro e w217 ⟨v504, rfl, ho0, hb⟩; refine ⟨_, rfl, ?_⟩; have HO505 := Kd.R_lo ho0 HB; replace BK502 := Aside0.mk (blk_below (g := gb502) (o := .cells #[.int .i64 t498, .int .i64 t499, .int .i64 t500] 26 (0, 0)) (kpq_ (kputs BK502 [(0, _), (1, _), (2, _)])) hb); replace HB := hbs_ HB hb; (try clear hb); (try clear hb2); (try clear hk); (try clear hi); (try clear ho0); obtain ⟨hcz218_0, hcz218_1, hcz218_2, hfz218_0, hfz218_1, hfz218_2⟩ := bx3 BK502) | ((with_reducible refine gate_callee (f := 30) rfl ?_); refine gl_ (some 284) Tryd.func30 #[.agg #[.int .i64 t498, .int .i64 t499, .int .i64 t500], .int .i64 t501] rfl rfl rfl ?_; (with_reducible refine (spec_LevelBlocks.calls kj28 t498 t499 t500 t501 t507 t510 _ A115.out).mono ?_); rintro e w219 ⟨v508, rfl, ho0, hb⟩; refine ⟨_, rfl, ?_⟩; have HO509 := Kd.R_lo (Kd.R_nw ho0 HO505) HB; replace HO505 := Kd.R_e HO505 ho0 hb; replace BK502 := kb_ BK502 hb; replace HB := hbs_ HB hb; (try clear hb); (try clear hb2); (try clear hk); (try clear hi); (try clear ho0); try clear BK502; try clear GW502; try clear GE502) | ((with_reducible refine gate_callee (f := 31) rfl ?_); refine gl_ (some 289) Tryd.func31 #[.slice A1 l1.length c1] rfl rfl rfl ?_; (with_reducible refine (spec_DrawColumnBlocks.calls kj28 _ _ l1 t511 t512 t513 t514 t515 _ ?side1 ?side2 A116.out).mono ?_); (case side1 => exact Kd.C_w HR1 HB); (case side2 => exact HC1.out); rintro e w220 ⟨rfl, hb⟩; refine ⟨_, rfl, ?_⟩; replace HO505 := Kd.R_b HO505 hb; replace HO509 := Kd.R_b HO509 hb; replace HB := hbs_ HB hb; (try clear hb); (try clear hb2); (try clear hk); (try clear hi)) | ((with_reducible refine gate_dst (N := 52) rfl ?_); (try (refine gate_guard (by rfl) ?_; dsimp only)); refine box_event ?hg (N := 52) ?hd (cs := #[.int .i64 0, .int .i64 0, .int .i64 0]) (t := 26) ?hr ?_; (case hd => rfl); (case hg => rfl); (case hr => first | (go_simp; done) | (go_simp; rfl)); intro gb516 hg w221 hbox hb; have BK516 := Aside0.mk (hbox); have GW516 := gs_ hg HB; have GE516 := gs_ hg HB; replace HO505 := Kd.R_b HO505 hb; replace HO509 := Kd.R_b HO509 hb; replace HB := hbs_ HB hb; clear hb hbox hg; obtain ⟨hcz222_0, hcz222_1, hcz222_2, hfz222_0, hfz222_1, hfz222_2⟩ := bx3 BK516) | ((with_reducible refine gate_callee (f := 23) rfl ?_); refine gl_ (some 297) Tryd.func23 #[.agg #[.int .i64 t511, .int .i64 t512, .int .i64 t513], .int .i64 t514, .int .i64 t515] rfl rfl rfl ?_; (with_reducible refine (impl_ColumnBlocks.calls kj28 t511 t512 t513 t514 t515 t517 t520 _ A117.out).mono ?_); rintro e w223 ⟨v518, rfl, ho0, hb⟩; refine ⟨_, rfl, ?_⟩; have HO519 := Kd.R_lo (Kd.R_ns (Kd.R_ns ho0 HO505 BK516) HO509 BK516) HB; replace HO505 := Kd.R_e1s HO505 BK516 ho0 hb; replace HO509 := Kd.R_e1s HO509 BK516 ho0 hb; replace HB := hbs_ HB hb; replace BK516 := Aside0.mk (blk_below (g := gb516) (o := .cells #[.int .i64 t511, .int .i64 t512, .int .i64 t513] 26 (0, 0)) (kpq_ (kputs BK516 [(0, _), (1, _), (2, _)])) hb); (try clear hb); (try clear hb2); (try clear hk); (try clear hi); (try clear ho0); obtain ⟨hcz224_0, hcz224_1, hcz224_2, hfz224_0, hfz224_1, hfz224_2⟩ := bx3 BK516; try clear HO519) | ((with_reducible refine gate_callee (f := 32) rfl ?_); refine gl_ (some 304) Tryd.func32 #[.agg #[.int .i64 t511, .int .i64 t512, .int .i64 t513], .int .i64 t514, .int .i64 t515] rfl rfl rfl ?_; (with_reducible refine (spec_ColumnBlocks.calls kj28 t511 t512 t513 t514 t515 t521 t524 _ A118.out).mono ?_); rintro e w225 ⟨v522, rfl, ho0, hb⟩; refine ⟨_, rfl, ?_⟩; have HO523 := Kd.R_lo (Kd.R_nw (Kd.R_nw ho0 HO505) HO509) HB; replace HO505 := Kd.R_e HO505 ho0 hb; replace HO509 := Kd.R_e HO509 ho0 hb; replace BK516 := kb_ BK516 hb; replace HB := hbs_ HB hb; (try clear hb); (try clear hb2); (try clear hk); (try clear hi); (try clear ho0); try clear BK516; try clear GW516; try clear GE516; try clear HO523; obtain ⟨Ao226, co226, eo226⟩ := Kd.R_slice HO505.out; subst eo226; obtain ⟨Ao227, co227, eo227⟩ := Kd.R_slice HO509.out; subst eo227) | (go_at_call 33; (with_reducible refine (laws_sameInts.calls kj28 _ _ t503 _ _ t507 false _ ?side1 ?side2 ?side3 ?side4 A126.out).mono ?_); (case side1 => exact Kd.C_o HO505); (case side2 => exact (Kd.R_reads' HO505.out).2.1); (case side3 => exact Kd.C_o HO509); (case side4 => exact (Kd.R_reads' HO509.out).2.1); rintro e w' ⟨rfl, ⟨nd, rfl⟩⟩))
               go_ret
               exact ⟨by first | rfl | (simp [errW_none, errW_some] <;> rfl) | (simp [*, errW_none, errW_some] <;> rfl), hb_ HB⟩
             ·rw [if_neg c125] at H
              have c125b0 : (t506 == t510) = false := by simpa using c125
              (try (have c125b1 : decide (t506 = t510) = false := by simpa using c125))
              (try (have c125b2 : (t506 == t510) = false := by simpa using c125))
              (try (have c125b3 : ¬ (t506 = t510) := by simpa using c125))
              clear c125
              obtain rfl := Option.some.inj H
              go_wp2_with (first | ((with_reducible refine gate_callee (f := 25) rfl ?_); refine gl_ (some 220) Tryd.func25 #[.slice A1 l1.length c1] rfl rfl rfl ?_; (with_reducible refine (spec_DrawBlockAt.calls kj28 _ _ l1 t470 t471 t472 t473 t474 t475 _ ?side1 ?side2 A104.out).mono ?_); (case side1 => exact Kd.C_w HR1 HB); (case side2 => exact HC1.out); rintro e w228 ⟨rfl, hb⟩; refine ⟨_, rfl, ?_⟩; replace HB := hbs_ HB hb; (try clear hb); (try clear hb2); (try clear hk); (try clear hi)) | ((with_reducible refine gate_dst (N := 27) rfl ?_); (try (refine gate_guard (by rfl) ?_; dsimp only)); refine box_event ?hg (N := 27) ?hd (cs := #[.int .i64 0, .int .i64 0, .int .i64 0]) (t := 26) ?hr ?_; (case hd => rfl); (case hg => rfl); (case hr => first | (go_simp; done) | (go_simp; rfl)); intro gb476 hg w229 hbox hb; have BK476 := Aside0.mk (hbox); have GW476 := gs_ hg HB; have GE476 := gs_ hg HB; replace HB := hbs_ HB hb; clear hb hbox hg; obtain ⟨hcz230_0, hcz230_1, hcz230_2, hfz230_0, hfz230_1, hfz230_2⟩ := bx3 BK476) | ((with_reducible refine gate_callee (f := 20) rfl ?_); refine gl_ (some 230) Tryd.func20 #[.agg #[.int .i64 t470, .int .i64 t471, .int .i64 t472], .int .i64 t473, .int .i64 t474, .int .i64 t475] rfl rfl rfl ?_; (with_reducible refine (impl_BlockAt.calls t470 t471 t472 t473 t474 t475 t477 t478 _ A105.out).mono ?_); rintro e w231 ⟨rfl, hb⟩; refine ⟨_, rfl, ?_⟩; replace BK476 := Aside0.mk (blk_below (g := gb476) (o := .cells #[.int .i64 t470, .int .i64 t471, .int .i64 t472] 26 (0, 0)) (kpq_ (kputs BK476 [(0, _), (1, _), (2, _)])) hb); replace HB := hbs_ HB hb; (try clear hb); (try clear hb2); (try clear hk); (try clear hi); obtain ⟨hcz232_0, hcz232_1, hcz232_2, hfz232_0, hfz232_1, hfz232_2⟩ := bx3 BK476) | ((with_reducible refine gate_callee (f := 26) rfl ?_); refine gl_ (some 238) Tryd.func26 #[.agg #[.int .i64 t470, .int .i64 t471, .int .i64 t472], .int .i64 t473, .int .i64 t474, .int .i64 t475] rfl rfl rfl ?_; (with_reducible refine (spec_BlockAt.calls t470 t471 t472 t473 t474 t475 t479 t480 _ A106.out).mono ?_); rintro e w233 ⟨rfl, hb⟩; refine ⟨_, rfl, ?_⟩; replace BK476 := kb_ BK476 hb; replace HB := hbs_ HB hb; (try clear hb); (try clear hb2); (try clear hk); (try clear hi); try clear BK476; try clear GW476; try clear GE476) | ((with_reducible refine gate_callee (f := 27) rfl ?_); refine gl_ (some 243) Tryd.func27 #[.slice A1 l1.length c1] rfl rfl rfl ?_; (with_reducible refine (spec_DrawParseBlock.calls kj28 _ _ l1 t481 t482 t483 t484 _ ?side1 ?side2 A107.out).mono ?_); (case side1 => exact Kd.C_w HR1 HB); (case side2 => exact HC1.out); rintro e w234 ⟨rfl, hb⟩; refine ⟨_, rfl, ?_⟩; replace HB := hbs_ HB hb; (try clear hb); (try clear hb2); (try clear hk); (try clear hi)) | ((with_reducible refine gate_dst (N := 35) rfl ?_); (try (refine gate_guard (by rfl) ?_; dsimp only)); refine box_event ?hg (N := 35) ?hd (cs := #[.int .i64 0, .int .i64 0, .int .i64 0]) (t := 26) ?hr ?_; (case hd => rfl); (case hg => rfl); (case hr => first | (go_simp; done) | (go_simp; rfl)); intro gb485 hg w235 hbox hb; have BK485 := Aside0.mk (hbox); have GW485 := gs_ hg HB; have GE485 := gs_ hg HB; replace HB := hbs_ HB hb; clear hb hbox hg; obtain ⟨hcz236_0, hcz236_1, hcz236_2, hfz236_0, hfz236_1, hfz236_2⟩ := bx3 BK485) | ((with_reducible refine gate_callee (f := 11) rfl ?_); refine gl_ (some 249) Tryd.func11 #[.agg #[.int .i64 t481, .int .i64 t482, .int .i64 t483], .string t484] rfl rfl rfl ?_; (with_reducible refine (impl_ParseBlock.calls kj28 t481 t482 t483 t484 t486 t487 _ A108.out).mono ?_); rintro e w237 ⟨rfl, hb⟩; refine ⟨_, rfl, ?_⟩; replace BK485 := Aside0.mk (blk_below (g := gb485) (o := .cells #[.int .i64 t481, .int .i64 t482, .int .i64 t483] 26 (0, 0)) (kpq_ (kputs BK485 [(0, _), (1, _), (2, _)])) hb); replace HB := hbs_ HB hb; (try clear hb); (try clear hb2); (try clear hk); (try clear hi); obtain ⟨hcz238_0, hcz238_1, hcz238_2, hfz238_0, hfz238_1, hfz238_2⟩ := bx3 BK485) | ((with_reducible refine gate_callee (f := 10) rfl ?_); refine gl_ (some 255) Tryd.func10 #[.agg #[.int .i64 t481, .int .i64 t482, .int .i64 t483], .string t484] rfl rfl rfl ?_; (with_reducible refine (spec_ParseBlock.calls kj28 t481 t482 t483 t484 t488 t489 _ A109.out).mono ?_); rintro e w239 ⟨rfl, hb⟩; refine ⟨_, rfl, ?_⟩; replace BK485 := kb_ BK485 hb; replace HB := hbs_ HB hb; (try clear hb); (try clear hb2); (try clear hk); (try clear hi); try clear BK485; try clear GW485; try clear GE485) | ((with_reducible refine gate_callee (f := 28) rfl ?_); refine gl_ (some 259) Tryd.func28 #[.slice A1 l1.length c1] rfl rfl rfl ?_; (with_reducible refine (spec_DrawGridText.calls kj28 _ _ l1 t490 t491 t492 _ ?side1 ?side2 A110.out).mono ?_); (case side1 => exact Kd.C_w HR1 HB); (case side2 => exact HC1.out); rintro e w240 ⟨rfl, hb⟩; refine ⟨_, rfl, ?_⟩; replace HB := hbs_ HB hb; (try clear hb); (try clear hb2); (try clear hk); (try clear hi)) | ((with_reducible refine gate_dst (N := 41) rfl ?_); (try (refine gate_guard (by rfl) ?_; dsimp only)); refine box_event ?hg (N := 41) ?hd (cs := #[.int .i64 0, .int .i64 0, .int .i64 0]) (t := 26) ?hr ?_; (case hd => rfl); (case hg => rfl); (case hr => first | (go_simp; done) | (go_simp; rfl)); intro gb493 hg w241 hbox hb; have BK493 := Aside0.mk (hbox); have GW493 := gs_ hg HB; have GE493 := gs_ hg HB; replace HB := hbs_ HB hb; clear hb hbox hg; obtain ⟨hcz242_0, hcz242_1, hcz242_2, hfz242_0, hfz242_1, hfz242_2⟩ := bx3 BK493) | ((with_reducible refine gate_callee (f := 13) rfl ?_); refine gl_ (some 262) Tryd.func13 #[.agg #[.int .i64 t490, .int .i64 t491, .int .i64 t492]] rfl rfl rfl ?_; (with_reducible refine (impl_GridText.calls t490 t491 t492 t494 t495 _ A111.out).mono ?_); rintro e w243 ⟨rfl, hb⟩; refine ⟨_, rfl, ?_⟩; replace BK493 := Aside0.mk (blk_below (g := gb493) (o := .cells #[.int .i64 t490, .int .i64 t491, .int .i64 t492] 26 (0, 0)) (kpq_ (kputs BK493 [(0, _), (1, _), (2, _)])) hb); replace HB := hbs_ HB hb; (try clear hb); (try clear hb2); (try clear hk); (try clear hi); obtain ⟨hcz244_0, hcz244_1, hcz244_2, hfz244_0, hfz244_1, hfz244_2⟩ := bx3 BK493) | ((with_reducible refine gate_callee (f := 12) rfl ?_); refine gl_ (some 267) Tryd.func12 #[.agg #[.int .i64 t490, .int .i64 t491, .int .i64 t492]] rfl rfl rfl ?_; (with_reducible refine (spec_GridText.calls kj28 t490 t491 t492 t496 t497 _ A112.out).mono ?_); rintro e w245 ⟨rfl, hb⟩; refine ⟨_, rfl, ?_⟩; replace BK493 := kb_ BK493 hb; replace HB := hbs_ HB hb; (try clear hb); (try clear hb2); (try clear hk); (try clear hi); try clear BK493; try clear GW493; try clear GE493) | ((with_reducible refine gate_callee (f := 29) rfl ?_); refine gl_ (some 272) Tryd.func29 #[.slice A1 l1.length c1] rfl rfl rfl ?_; (with_reducible refine (spec_DrawLevelBlocks.calls kj28 _ _ l1 t498 t499 t500 t501 _ ?side1 ?side2 A113.out).mono ?_); (case side1 => exact Kd.C_w HR1 HB); (case side2 => exact HC1.out); rintro e w246 ⟨rfl, hb⟩; refine ⟨_, rfl, ?_⟩; replace HB := hbs_ HB hb; (try clear hb); (try clear hb2); (try clear hk); (try clear hi)) | ((with_reducible refine gate_dst (N := 46) rfl ?_); (try (refine gate_guard (by rfl) ?_; dsimp only)); refine box_event ?hg (N := 46) ?hd (cs := #[.int .i64 0, .int .i64 0, .int .i64 0]) (t := 26) ?hr ?_; (case hd => rfl); (case hg => rfl); (case hr => first | (go_simp; done) | (go_simp; rfl)); intro gb502 hg w247 hbox hb; have BK502 := Aside0.mk (hbox); have GW502 := gs_ hg HB; have GE502 := gs_ hg HB; replace HB := hbs_ HB hb; clear hb hbox hg; obtain ⟨hcz248_0, hcz248_1, hcz248_2, hfz248_0, hfz248_1, hfz248_2⟩ := bx3 BK502) | ((with_reducible refine gate_callee (f := 22) rfl ?_); refine gl_ (some 278) Tryd.func22 #[.agg #[.int .i64 t498, .int .i64 t499, .int .i64 t500], .int .i64 t501] rfl rfl rfl ?_; (with_reducible refine (impl_LevelBlocks.calls kj28 t498 t499 t500 t501 t503 t506 _ A114.out).mono ?_); rintro e w249 ⟨v504, rfl, ho0, hb⟩; refine ⟨_, rfl, ?_⟩; have HO505 := Kd.R_lo ho0 HB; replace BK502 := Aside0.mk (blk_below (g := gb502) (o := .cells #[.int .i64 t498, .int .i64 t499, .int .i64 t500] 26 (0, 0)) (kpq_ (kputs BK502 [(0, _), (1, _), (2, _)])) hb); replace HB := hbs_ HB hb; (try clear hb); (try clear hb2); (try clear hk); (try clear hi); (try clear ho0); obtain ⟨hcz250_0, hcz250_1, hcz250_2, hfz250_0, hfz250_1, hfz250_2⟩ := bx3 BK502; try clear HO505) | ((with_reducible refine gate_callee (f := 30) rfl ?_); refine gl_ (some 284) Tryd.func30 #[.agg #[.int .i64 t498, .int .i64 t499, .int .i64 t500], .int .i64 t501] rfl rfl rfl ?_; (with_reducible refine (spec_LevelBlocks.calls kj28 t498 t499 t500 t501 t507 t510 _ A115.out).mono ?_); rintro e w251 ⟨v508, rfl, ho0, hb⟩; refine ⟨_, rfl, ?_⟩; have HO509 := Kd.R_lo ho0 HB; replace BK502 := kb_ BK502 hb; replace HB := hbs_ HB hb; (try clear hb); (try clear hb2); (try clear hk); (try clear hi); (try clear ho0); try clear BK502; try clear GW502; try clear GE502; try clear HO509) | ((with_reducible refine gate_callee (f := 31) rfl ?_); refine gl_ (some 289) Tryd.func31 #[.slice A1 l1.length c1] rfl rfl rfl ?_; (with_reducible refine (spec_DrawColumnBlocks.calls kj28 _ _ l1 t511 t512 t513 t514 t515 _ ?side1 ?side2 A116.out).mono ?_); (case side1 => exact Kd.C_w HR1 HB); (case side2 => exact HC1.out); rintro e w252 ⟨rfl, hb⟩; refine ⟨_, rfl, ?_⟩; replace HB := hbs_ HB hb; (try clear hb); (try clear hb2); (try clear hk); (try clear hi)) | ((with_reducible refine gate_dst (N := 52) rfl ?_); (try (refine gate_guard (by rfl) ?_; dsimp only)); refine box_event ?hg (N := 52) ?hd (cs := #[.int .i64 0, .int .i64 0, .int .i64 0]) (t := 26) ?hr ?_; (case hd => rfl); (case hg => rfl); (case hr => first | (go_simp; done) | (go_simp; rfl)); intro gb516 hg w253 hbox hb; have BK516 := Aside0.mk (hbox); have GW516 := gs_ hg HB; have GE516 := gs_ hg HB; replace HB := hbs_ HB hb; clear hb hbox hg; obtain ⟨hcz254_0, hcz254_1, hcz254_2, hfz254_0, hfz254_1, hfz254_2⟩ := bx3 BK516) | ((with_reducible refine gate_callee (f := 23) rfl ?_); refine gl_ (some 297) Tryd.func23 #[.agg #[.int .i64 t511, .int .i64 t512, .int .i64 t513], .int .i64 t514, .int .i64 t515] rfl rfl rfl ?_; (with_reducible refine (impl_ColumnBlocks.calls kj28 t511 t512 t513 t514 t515 t517 t520 _ A117.out).mono ?_); rintro e w255 ⟨v518, rfl, ho0, hb⟩; refine ⟨_, rfl, ?_⟩; have HO519 := Kd.R_lo ho0 HB; replace BK516 := Aside0.mk (blk_below (g := gb516) (o := .cells #[.int .i64 t511, .int .i64 t512, .int .i64 t513] 26 (0, 0)) (kpq_ (kputs BK516 [(0, _), (1, _), (2, _)])) hb); replace HB := hbs_ HB hb; (try clear hb); (try clear hb2); (try clear hk); (try clear hi); (try clear ho0); obtain ⟨hcz256_0, hcz256_1, hcz256_2, hfz256_0, hfz256_1, hfz256_2⟩ := bx3 BK516; try clear HO519) | ((with_reducible refine gate_callee (f := 32) rfl ?_); refine gl_ (some 304) Tryd.func32 #[.agg #[.int .i64 t511, .int .i64 t512, .int .i64 t513], .int .i64 t514, .int .i64 t515] rfl rfl rfl ?_; (with_reducible refine (spec_ColumnBlocks.calls kj28 t511 t512 t513 t514 t515 t521 t524 _ A118.out).mono ?_); rintro e w257 ⟨v522, rfl, ho0, hb⟩; refine ⟨_, rfl, ?_⟩; have HO523 := Kd.R_lo ho0 HB; replace BK516 := kb_ BK516 hb; replace HB := hbs_ HB hb; (try clear hb); (try clear hb2); (try clear hk); (try clear hi); (try clear ho0)))
              go_ret
              exact ⟨by first | rfl | (simp [errW_none, errW_some] <;> rfl) | (simp [*, errW_none, errW_some] <;> rfl), hb_ HB⟩
            ·rw [if_neg c124] at H
             have c124b0 : (t494.toList == t496.toList) = false := beq_eq_false_iff_ne.mpr c124
             have c124b1 : (t494.toList != t496.toList) = true := bne_iff_ne.mpr c124
             obtain rfl := Option.some.inj H
             go_wp2_with (first | ((with_reducible refine gate_callee (f := 25) rfl ?_); refine gl_ (some 220) Tryd.func25 #[.slice A1 l1.length c1] rfl rfl rfl ?_; (with_reducible refine (spec_DrawBlockAt.calls kj28 _ _ l1 t470 t471 t472 t473 t474 t475 _ ?side1 ?side2 A104.out).mono ?_); (case side1 => exact Kd.C_w HR1 HB); (case side2 => exact HC1.out); rintro e w258 ⟨rfl, hb⟩; refine ⟨_, rfl, ?_⟩; replace HB := hbs_ HB hb; (try clear hb); (try clear hb2); (try clear hk); (try clear hi)) | ((with_reducible refine gate_dst (N := 27) rfl ?_); (try (refine gate_guard (by rfl) ?_; dsimp only)); refine box_event ?hg (N := 27) ?hd (cs := #[.int .i64 0, .int .i64 0, .int .i64 0]) (t := 26) ?hr ?_; (case hd => rfl); (case hg => rfl); (case hr => first | (go_simp; done) | (go_simp; rfl)); intro gb476 hg w259 hbox hb; have BK476 := Aside0.mk (hbox); have GW476 := gs_ hg HB; have GE476 := gs_ hg HB; replace HB := hbs_ HB hb; clear hb hbox hg; obtain ⟨hcz260_0, hcz260_1, hcz260_2, hfz260_0, hfz260_1, hfz260_2⟩ := bx3 BK476) | ((with_reducible refine gate_callee (f := 20) rfl ?_); refine gl_ (some 230) Tryd.func20 #[.agg #[.int .i64 t470, .int .i64 t471, .int .i64 t472], .int .i64 t473, .int .i64 t474, .int .i64 t475] rfl rfl rfl ?_; (with_reducible refine (impl_BlockAt.calls t470 t471 t472 t473 t474 t475 t477 t478 _ A105.out).mono ?_); rintro e w261 ⟨rfl, hb⟩; refine ⟨_, rfl, ?_⟩; replace BK476 := Aside0.mk (blk_below (g := gb476) (o := .cells #[.int .i64 t470, .int .i64 t471, .int .i64 t472] 26 (0, 0)) (kpq_ (kputs BK476 [(0, _), (1, _), (2, _)])) hb); replace HB := hbs_ HB hb; (try clear hb); (try clear hb2); (try clear hk); (try clear hi); obtain ⟨hcz262_0, hcz262_1, hcz262_2, hfz262_0, hfz262_1, hfz262_2⟩ := bx3 BK476) | ((with_reducible refine gate_callee (f := 26) rfl ?_); refine gl_ (some 238) Tryd.func26 #[.agg #[.int .i64 t470, .int .i64 t471, .int .i64 t472], .int .i64 t473, .int .i64 t474, .int .i64 t475] rfl rfl rfl ?_; (with_reducible refine (spec_BlockAt.calls t470 t471 t472 t473 t474 t475 t479 t480 _ A106.out).mono ?_); rintro e w263 ⟨rfl, hb⟩; refine ⟨_, rfl, ?_⟩; replace BK476 := kb_ BK476 hb; replace HB := hbs_ HB hb; (try clear hb); (try clear hb2); (try clear hk); (try clear hi); try clear BK476; try clear GW476; try clear GE476) | ((with_reducible refine gate_callee (f := 27) rfl ?_); refine gl_ (some 243) Tryd.func27 #[.slice A1 l1.length c1] rfl rfl rfl ?_; (with_reducible refine (spec_DrawParseBlock.calls kj28 _ _ l1 t481 t482 t483 t484 _ ?side1 ?side2 A107.out).mono ?_); (case side1 => exact Kd.C_w HR1 HB); (case side2 => exact HC1.out); rintro e w264 ⟨rfl, hb⟩; refine ⟨_, rfl, ?_⟩; replace HB := hbs_ HB hb; (try clear hb); (try clear hb2); (try clear hk); (try clear hi)) | ((with_reducible refine gate_dst (N := 35) rfl ?_); (try (refine gate_guard (by rfl) ?_; dsimp only)); refine box_event ?hg (N := 35) ?hd (cs := #[.int .i64 0, .int .i64 0, .int .i64 0]) (t := 26) ?hr ?_; (case hd => rfl); (case hg => rfl); (case hr => first | (go_simp; done) | (go_simp; rfl)); intro gb485 hg w265 hbox hb; have BK485 := Aside0.mk (hbox); have GW485 := gs_ hg HB; have GE485 := gs_ hg HB; replace HB := hbs_ HB hb; clear hb hbox hg; obtain ⟨hcz266_0, hcz266_1, hcz266_2, hfz266_0, hfz266_1, hfz266_2⟩ := bx3 BK485) | ((with_reducible refine gate_callee (f := 11) rfl ?_); refine gl_ (some 249) Tryd.func11 #[.agg #[.int .i64 t481, .int .i64 t482, .int .i64 t483], .string t484] rfl rfl rfl ?_; (with_reducible refine (impl_ParseBlock.calls kj28 t481 t482 t483 t484 t486 t487 _ A108.out).mono ?_); rintro e w267 ⟨rfl, hb⟩; refine ⟨_, rfl, ?_⟩; replace BK485 := Aside0.mk (blk_below (g := gb485) (o := .cells #[.int .i64 t481, .int .i64 t482, .int .i64 t483] 26 (0, 0)) (kpq_ (kputs BK485 [(0, _), (1, _), (2, _)])) hb); replace HB := hbs_ HB hb; (try clear hb); (try clear hb2); (try clear hk); (try clear hi); obtain ⟨hcz268_0, hcz268_1, hcz268_2, hfz268_0, hfz268_1, hfz268_2⟩ := bx3 BK485) | ((with_reducible refine gate_callee (f := 10) rfl ?_); refine gl_ (some 255) Tryd.func10 #[.agg #[.int .i64 t481, .int .i64 t482, .int .i64 t483], .string t484] rfl rfl rfl ?_; (with_reducible refine (spec_ParseBlock.calls kj28 t481 t482 t483 t484 t488 t489 _ A109.out).mono ?_); rintro e w269 ⟨rfl, hb⟩; refine ⟨_, rfl, ?_⟩; replace BK485 := kb_ BK485 hb; replace HB := hbs_ HB hb; (try clear hb); (try clear hb2); (try clear hk); (try clear hi); try clear BK485; try clear GW485; try clear GE485) | ((with_reducible refine gate_callee (f := 28) rfl ?_); refine gl_ (some 259) Tryd.func28 #[.slice A1 l1.length c1] rfl rfl rfl ?_; (with_reducible refine (spec_DrawGridText.calls kj28 _ _ l1 t490 t491 t492 _ ?side1 ?side2 A110.out).mono ?_); (case side1 => exact Kd.C_w HR1 HB); (case side2 => exact HC1.out); rintro e w270 ⟨rfl, hb⟩; refine ⟨_, rfl, ?_⟩; replace HB := hbs_ HB hb; (try clear hb); (try clear hb2); (try clear hk); (try clear hi)) | ((with_reducible refine gate_dst (N := 41) rfl ?_); (try (refine gate_guard (by rfl) ?_; dsimp only)); refine box_event ?hg (N := 41) ?hd (cs := #[.int .i64 0, .int .i64 0, .int .i64 0]) (t := 26) ?hr ?_; (case hd => rfl); (case hg => rfl); (case hr => first | (go_simp; done) | (go_simp; rfl)); intro gb493 hg w271 hbox hb; have BK493 := Aside0.mk (hbox); have GW493 := gs_ hg HB; have GE493 := gs_ hg HB; replace HB := hbs_ HB hb; clear hb hbox hg; obtain ⟨hcz272_0, hcz272_1, hcz272_2, hfz272_0, hfz272_1, hfz272_2⟩ := bx3 BK493) | ((with_reducible refine gate_callee (f := 13) rfl ?_); refine gl_ (some 262) Tryd.func13 #[.agg #[.int .i64 t490, .int .i64 t491, .int .i64 t492]] rfl rfl rfl ?_; (with_reducible refine (impl_GridText.calls t490 t491 t492 t494 t495 _ A111.out).mono ?_); rintro e w273 ⟨rfl, hb⟩; refine ⟨_, rfl, ?_⟩; replace BK493 := Aside0.mk (blk_below (g := gb493) (o := .cells #[.int .i64 t490, .int .i64 t491, .int .i64 t492] 26 (0, 0)) (kpq_ (kputs BK493 [(0, _), (1, _), (2, _)])) hb); replace HB := hbs_ HB hb; (try clear hb); (try clear hb2); (try clear hk); (try clear hi); obtain ⟨hcz274_0, hcz274_1, hcz274_2, hfz274_0, hfz274_1, hfz274_2⟩ := bx3 BK493) | ((with_reducible refine gate_callee (f := 12) rfl ?_); refine gl_ (some 267) Tryd.func12 #[.agg #[.int .i64 t490, .int .i64 t491, .int .i64 t492]] rfl rfl rfl ?_; (with_reducible refine (spec_GridText.calls kj28 t490 t491 t492 t496 t497 _ A112.out).mono ?_); rintro e w275 ⟨rfl, hb⟩; refine ⟨_, rfl, ?_⟩; replace BK493 := kb_ BK493 hb; replace HB := hbs_ HB hb; (try clear hb); (try clear hb2); (try clear hk); (try clear hi); try clear BK493; try clear GW493; try clear GE493) | ((with_reducible refine gate_callee (f := 29) rfl ?_); refine gl_ (some 272) Tryd.func29 #[.slice A1 l1.length c1] rfl rfl rfl ?_; (with_reducible refine (spec_DrawLevelBlocks.calls kj28 _ _ l1 t498 t499 t500 t501 _ ?side1 ?side2 A113.out).mono ?_); (case side1 => exact Kd.C_w HR1 HB); (case side2 => exact HC1.out); rintro e w276 ⟨rfl, hb⟩; refine ⟨_, rfl, ?_⟩; replace HB := hbs_ HB hb; (try clear hb); (try clear hb2); (try clear hk); (try clear hi)) | ((with_reducible refine gate_dst (N := 46) rfl ?_); (try (refine gate_guard (by rfl) ?_; dsimp only)); refine box_event ?hg (N := 46) ?hd (cs := #[.int .i64 0, .int .i64 0, .int .i64 0]) (t := 26) ?hr ?_; (case hd => rfl); (case hg => rfl); (case hr => first | (go_simp; done) | (go_simp; rfl)); intro gb502 hg w277 hbox hb; have BK502 := Aside0.mk (hbox); have GW502 := gs_ hg HB; have GE502 := gs_ hg HB; replace HB := hbs_ HB hb; clear hb hbox hg; obtain ⟨hcz278_0, hcz278_1, hcz278_2, hfz278_0, hfz278_1, hfz278_2⟩ := bx3 BK502) | ((with_reducible refine gate_callee (f := 22) rfl ?_); refine gl_ (some 278) Tryd.func22 #[.agg #[.int .i64 t498, .int .i64 t499, .int .i64 t500], .int .i64 t501] rfl rfl rfl ?_; (with_reducible refine (impl_LevelBlocks.calls kj28 t498 t499 t500 t501 t503 t506 _ A114.out).mono ?_); rintro e w279 ⟨v504, rfl, ho0, hb⟩; refine ⟨_, rfl, ?_⟩; have HO505 := Kd.R_lo ho0 HB; replace BK502 := Aside0.mk (blk_below (g := gb502) (o := .cells #[.int .i64 t498, .int .i64 t499, .int .i64 t500] 26 (0, 0)) (kpq_ (kputs BK502 [(0, _), (1, _), (2, _)])) hb); replace HB := hbs_ HB hb; (try clear hb); (try clear hb2); (try clear hk); (try clear hi); (try clear ho0); obtain ⟨hcz280_0, hcz280_1, hcz280_2, hfz280_0, hfz280_1, hfz280_2⟩ := bx3 BK502; try clear HO505) | ((with_reducible refine gate_callee (f := 30) rfl ?_); refine gl_ (some 284) Tryd.func30 #[.agg #[.int .i64 t498, .int .i64 t499, .int .i64 t500], .int .i64 t501] rfl rfl rfl ?_; (with_reducible refine (spec_LevelBlocks.calls kj28 t498 t499 t500 t501 t507 t510 _ A115.out).mono ?_); rintro e w281 ⟨v508, rfl, ho0, hb⟩; refine ⟨_, rfl, ?_⟩; have HO509 := Kd.R_lo ho0 HB; replace BK502 := kb_ BK502 hb; replace HB := hbs_ HB hb; (try clear hb); (try clear hb2); (try clear hk); (try clear hi); (try clear ho0); try clear BK502; try clear GW502; try clear GE502; try clear HO509) | ((with_reducible refine gate_callee (f := 31) rfl ?_); refine gl_ (some 289) Tryd.func31 #[.slice A1 l1.length c1] rfl rfl rfl ?_; (with_reducible refine (spec_DrawColumnBlocks.calls kj28 _ _ l1 t511 t512 t513 t514 t515 _ ?side1 ?side2 A116.out).mono ?_); (case side1 => exact Kd.C_w HR1 HB); (case side2 => exact HC1.out); rintro e w282 ⟨rfl, hb⟩; refine ⟨_, rfl, ?_⟩; replace HB := hbs_ HB hb; (try clear hb); (try clear hb2); (try clear hk); (try clear hi)) | ((with_reducible refine gate_dst (N := 52) rfl ?_); (try (refine gate_guard (by rfl) ?_; dsimp only)); refine box_event ?hg (N := 52) ?hd (cs := #[.int .i64 0, .int .i64 0, .int .i64 0]) (t := 26) ?hr ?_; (case hd => rfl); (case hg => rfl); (case hr => first | (go_simp; done) | (go_simp; rfl)); intro gb516 hg w283 hbox hb; have BK516 := Aside0.mk (hbox); have GW516 := gs_ hg HB; have GE516 := gs_ hg HB; replace HB := hbs_ HB hb; clear hb hbox hg; obtain ⟨hcz284_0, hcz284_1, hcz284_2, hfz284_0, hfz284_1, hfz284_2⟩ := bx3 BK516) | ((with_reducible refine gate_callee (f := 23) rfl ?_); refine gl_ (some 297) Tryd.func23 #[.agg #[.int .i64 t511, .int .i64 t512, .int .i64 t513], .int .i64 t514, .int .i64 t515] rfl rfl rfl ?_; (with_reducible refine (impl_ColumnBlocks.calls kj28 t511 t512 t513 t514 t515 t517 t520 _ A117.out).mono ?_); rintro e w285 ⟨v518, rfl, ho0, hb⟩; refine ⟨_, rfl, ?_⟩; have HO519 := Kd.R_lo ho0 HB; replace BK516 := Aside0.mk (blk_below (g := gb516) (o := .cells #[.int .i64 t511, .int .i64 t512, .int .i64 t513] 26 (0, 0)) (kpq_ (kputs BK516 [(0, _), (1, _), (2, _)])) hb); replace HB := hbs_ HB hb; (try clear hb); (try clear hb2); (try clear hk); (try clear hi); (try clear ho0); obtain ⟨hcz286_0, hcz286_1, hcz286_2, hfz286_0, hfz286_1, hfz286_2⟩ := bx3 BK516; try clear HO519) | ((with_reducible refine gate_callee (f := 32) rfl ?_); refine gl_ (some 304) Tryd.func32 #[.agg #[.int .i64 t511, .int .i64 t512, .int .i64 t513], .int .i64 t514, .int .i64 t515] rfl rfl rfl ?_; (with_reducible refine (spec_ColumnBlocks.calls kj28 t511 t512 t513 t514 t515 t521 t524 _ A118.out).mono ?_); rintro e w287 ⟨v522, rfl, ho0, hb⟩; refine ⟨_, rfl, ?_⟩; have HO523 := Kd.R_lo ho0 HB; replace BK516 := kb_ BK516 hb; replace HB := hbs_ HB hb; (try clear hb); (try clear hb2); (try clear hk); (try clear hi); (try clear ho0)))
             go_ret
             exact ⟨by first | rfl | (simp [errW_none, errW_some] <;> rfl) | (simp [*, errW_none, errW_some] <;> rfl), hb_ HB⟩
           ·rw [if_neg c123] at H
            have c123b0 : (t495 == t497) = false := by simpa using c123
            (try (have c123b1 : decide (t495 = t497) = false := by simpa using c123))
            (try (have c123b2 : (t495 == t497) = false := by simpa using c123))
            (try (have c123b3 : ¬ (t495 = t497) := by simpa using c123))
            clear c123
            obtain rfl := Option.some.inj H
            go_wp2_with (first | ((with_reducible refine gate_callee (f := 25) rfl ?_); refine gl_ (some 220) Tryd.func25 #[.slice A1 l1.length c1] rfl rfl rfl ?_; (with_reducible refine (spec_DrawBlockAt.calls kj28 _ _ l1 t470 t471 t472 t473 t474 t475 _ ?side1 ?side2 A104.out).mono ?_); (case side1 => exact Kd.C_w HR1 HB); (case side2 => exact HC1.out); rintro e w288 ⟨rfl, hb⟩; refine ⟨_, rfl, ?_⟩; replace HB := hbs_ HB hb; (try clear hb); (try clear hb2); (try clear hk); (try clear hi)) | ((with_reducible refine gate_dst (N := 27) rfl ?_); (try (refine gate_guard (by rfl) ?_; dsimp only)); refine box_event ?hg (N := 27) ?hd (cs := #[.int .i64 0, .int .i64 0, .int .i64 0]) (t := 26) ?hr ?_; (case hd => rfl); (case hg => rfl); (case hr => first | (go_simp; done) | (go_simp; rfl)); intro gb476 hg w289 hbox hb; have BK476 := Aside0.mk (hbox); have GW476 := gs_ hg HB; have GE476 := gs_ hg HB; replace HB := hbs_ HB hb; clear hb hbox hg; obtain ⟨hcz290_0, hcz290_1, hcz290_2, hfz290_0, hfz290_1, hfz290_2⟩ := bx3 BK476) | ((with_reducible refine gate_callee (f := 20) rfl ?_); refine gl_ (some 230) Tryd.func20 #[.agg #[.int .i64 t470, .int .i64 t471, .int .i64 t472], .int .i64 t473, .int .i64 t474, .int .i64 t475] rfl rfl rfl ?_; (with_reducible refine (impl_BlockAt.calls t470 t471 t472 t473 t474 t475 t477 t478 _ A105.out).mono ?_); rintro e w291 ⟨rfl, hb⟩; refine ⟨_, rfl, ?_⟩; replace BK476 := Aside0.mk (blk_below (g := gb476) (o := .cells #[.int .i64 t470, .int .i64 t471, .int .i64 t472] 26 (0, 0)) (kpq_ (kputs BK476 [(0, _), (1, _), (2, _)])) hb); replace HB := hbs_ HB hb; (try clear hb); (try clear hb2); (try clear hk); (try clear hi); obtain ⟨hcz292_0, hcz292_1, hcz292_2, hfz292_0, hfz292_1, hfz292_2⟩ := bx3 BK476) | ((with_reducible refine gate_callee (f := 26) rfl ?_); refine gl_ (some 238) Tryd.func26 #[.agg #[.int .i64 t470, .int .i64 t471, .int .i64 t472], .int .i64 t473, .int .i64 t474, .int .i64 t475] rfl rfl rfl ?_; (with_reducible refine (spec_BlockAt.calls t470 t471 t472 t473 t474 t475 t479 t480 _ A106.out).mono ?_); rintro e w293 ⟨rfl, hb⟩; refine ⟨_, rfl, ?_⟩; replace BK476 := kb_ BK476 hb; replace HB := hbs_ HB hb; (try clear hb); (try clear hb2); (try clear hk); (try clear hi); try clear BK476; try clear GW476; try clear GE476) | ((with_reducible refine gate_callee (f := 27) rfl ?_); refine gl_ (some 243) Tryd.func27 #[.slice A1 l1.length c1] rfl rfl rfl ?_; (with_reducible refine (spec_DrawParseBlock.calls kj28 _ _ l1 t481 t482 t483 t484 _ ?side1 ?side2 A107.out).mono ?_); (case side1 => exact Kd.C_w HR1 HB); (case side2 => exact HC1.out); rintro e w294 ⟨rfl, hb⟩; refine ⟨_, rfl, ?_⟩; replace HB := hbs_ HB hb; (try clear hb); (try clear hb2); (try clear hk); (try clear hi)) | ((with_reducible refine gate_dst (N := 35) rfl ?_); (try (refine gate_guard (by rfl) ?_; dsimp only)); refine box_event ?hg (N := 35) ?hd (cs := #[.int .i64 0, .int .i64 0, .int .i64 0]) (t := 26) ?hr ?_; (case hd => rfl); (case hg => rfl); (case hr => first | (go_simp; done) | (go_simp; rfl)); intro gb485 hg w295 hbox hb; have BK485 := Aside0.mk (hbox); have GW485 := gs_ hg HB; have GE485 := gs_ hg HB; replace HB := hbs_ HB hb; clear hb hbox hg; obtain ⟨hcz296_0, hcz296_1, hcz296_2, hfz296_0, hfz296_1, hfz296_2⟩ := bx3 BK485) | ((with_reducible refine gate_callee (f := 11) rfl ?_); refine gl_ (some 249) Tryd.func11 #[.agg #[.int .i64 t481, .int .i64 t482, .int .i64 t483], .string t484] rfl rfl rfl ?_; (with_reducible refine (impl_ParseBlock.calls kj28 t481 t482 t483 t484 t486 t487 _ A108.out).mono ?_); rintro e w297 ⟨rfl, hb⟩; refine ⟨_, rfl, ?_⟩; replace BK485 := Aside0.mk (blk_below (g := gb485) (o := .cells #[.int .i64 t481, .int .i64 t482, .int .i64 t483] 26 (0, 0)) (kpq_ (kputs BK485 [(0, _), (1, _), (2, _)])) hb); replace HB := hbs_ HB hb; (try clear hb); (try clear hb2); (try clear hk); (try clear hi); obtain ⟨hcz298_0, hcz298_1, hcz298_2, hfz298_0, hfz298_1, hfz298_2⟩ := bx3 BK485) | ((with_reducible refine gate_callee (f := 10) rfl ?_); refine gl_ (some 255) Tryd.func10 #[.agg #[.int .i64 t481, .int .i64 t482, .int .i64 t483], .string t484] rfl rfl rfl ?_; (with_reducible refine (spec_ParseBlock.calls kj28 t481 t482 t483 t484 t488 t489 _ A109.out).mono ?_); rintro e w299 ⟨rfl, hb⟩; refine ⟨_, rfl, ?_⟩; replace BK485 := kb_ BK485 hb; replace HB := hbs_ HB hb; (try clear hb); (try clear hb2); (try clear hk); (try clear hi); try clear BK485; try clear GW485; try clear GE485) | ((with_reducible refine gate_callee (f := 28) rfl ?_); refine gl_ (some 259) Tryd.func28 #[.slice A1 l1.length c1] rfl rfl rfl ?_; (with_reducible refine (spec_DrawGridText.calls kj28 _ _ l1 t490 t491 t492 _ ?side1 ?side2 A110.out).mono ?_); (case side1 => exact Kd.C_w HR1 HB); (case side2 => exact HC1.out); rintro e w300 ⟨rfl, hb⟩; refine ⟨_, rfl, ?_⟩; replace HB := hbs_ HB hb; (try clear hb); (try clear hb2); (try clear hk); (try clear hi)) | ((with_reducible refine gate_dst (N := 41) rfl ?_); (try (refine gate_guard (by rfl) ?_; dsimp only)); refine box_event ?hg (N := 41) ?hd (cs := #[.int .i64 0, .int .i64 0, .int .i64 0]) (t := 26) ?hr ?_; (case hd => rfl); (case hg => rfl); (case hr => first | (go_simp; done) | (go_simp; rfl)); intro gb493 hg w301 hbox hb; have BK493 := Aside0.mk (hbox); have GW493 := gs_ hg HB; have GE493 := gs_ hg HB; replace HB := hbs_ HB hb; clear hb hbox hg; obtain ⟨hcz302_0, hcz302_1, hcz302_2, hfz302_0, hfz302_1, hfz302_2⟩ := bx3 BK493) | ((with_reducible refine gate_callee (f := 13) rfl ?_); refine gl_ (some 262) Tryd.func13 #[.agg #[.int .i64 t490, .int .i64 t491, .int .i64 t492]] rfl rfl rfl ?_; (with_reducible refine (impl_GridText.calls t490 t491 t492 t494 t495 _ A111.out).mono ?_); rintro e w303 ⟨rfl, hb⟩; refine ⟨_, rfl, ?_⟩; replace BK493 := Aside0.mk (blk_below (g := gb493) (o := .cells #[.int .i64 t490, .int .i64 t491, .int .i64 t492] 26 (0, 0)) (kpq_ (kputs BK493 [(0, _), (1, _), (2, _)])) hb); replace HB := hbs_ HB hb; (try clear hb); (try clear hb2); (try clear hk); (try clear hi); obtain ⟨hcz304_0, hcz304_1, hcz304_2, hfz304_0, hfz304_1, hfz304_2⟩ := bx3 BK493) | ((with_reducible refine gate_callee (f := 12) rfl ?_); refine gl_ (some 267) Tryd.func12 #[.agg #[.int .i64 t490, .int .i64 t491, .int .i64 t492]] rfl rfl rfl ?_; (with_reducible refine (spec_GridText.calls kj28 t490 t491 t492 t496 t497 _ A112.out).mono ?_); rintro e w305 ⟨rfl, hb⟩; refine ⟨_, rfl, ?_⟩; replace BK493 := kb_ BK493 hb; replace HB := hbs_ HB hb; (try clear hb); (try clear hb2); (try clear hk); (try clear hi); try clear BK493; try clear GW493; try clear GE493) | ((with_reducible refine gate_callee (f := 29) rfl ?_); refine gl_ (some 272) Tryd.func29 #[.slice A1 l1.length c1] rfl rfl rfl ?_; (with_reducible refine (spec_DrawLevelBlocks.calls kj28 _ _ l1 t498 t499 t500 t501 _ ?side1 ?side2 A113.out).mono ?_); (case side1 => exact Kd.C_w HR1 HB); (case side2 => exact HC1.out); rintro e w306 ⟨rfl, hb⟩; refine ⟨_, rfl, ?_⟩; replace HB := hbs_ HB hb; (try clear hb); (try clear hb2); (try clear hk); (try clear hi)) | ((with_reducible refine gate_dst (N := 46) rfl ?_); (try (refine gate_guard (by rfl) ?_; dsimp only)); refine box_event ?hg (N := 46) ?hd (cs := #[.int .i64 0, .int .i64 0, .int .i64 0]) (t := 26) ?hr ?_; (case hd => rfl); (case hg => rfl); (case hr => first | (go_simp; done) | (go_simp; rfl)); intro gb502 hg w307 hbox hb; have BK502 := Aside0.mk (hbox); have GW502 := gs_ hg HB; have GE502 := gs_ hg HB; replace HB := hbs_ HB hb; clear hb hbox hg; obtain ⟨hcz308_0, hcz308_1, hcz308_2, hfz308_0, hfz308_1, hfz308_2⟩ := bx3 BK502) | ((with_reducible refine gate_callee (f := 22) rfl ?_); refine gl_ (some 278) Tryd.func22 #[.agg #[.int .i64 t498, .int .i64 t499, .int .i64 t500], .int .i64 t501] rfl rfl rfl ?_; (with_reducible refine (impl_LevelBlocks.calls kj28 t498 t499 t500 t501 t503 t506 _ A114.out).mono ?_); rintro e w309 ⟨v504, rfl, ho0, hb⟩; refine ⟨_, rfl, ?_⟩; have HO505 := Kd.R_lo ho0 HB; replace BK502 := Aside0.mk (blk_below (g := gb502) (o := .cells #[.int .i64 t498, .int .i64 t499, .int .i64 t500] 26 (0, 0)) (kpq_ (kputs BK502 [(0, _), (1, _), (2, _)])) hb); replace HB := hbs_ HB hb; (try clear hb); (try clear hb2); (try clear hk); (try clear hi); (try clear ho0); obtain ⟨hcz310_0, hcz310_1, hcz310_2, hfz310_0, hfz310_1, hfz310_2⟩ := bx3 BK502; try clear HO505) | ((with_reducible refine gate_callee (f := 30) rfl ?_); refine gl_ (some 284) Tryd.func30 #[.agg #[.int .i64 t498, .int .i64 t499, .int .i64 t500], .int .i64 t501] rfl rfl rfl ?_; (with_reducible refine (spec_LevelBlocks.calls kj28 t498 t499 t500 t501 t507 t510 _ A115.out).mono ?_); rintro e w311 ⟨v508, rfl, ho0, hb⟩; refine ⟨_, rfl, ?_⟩; have HO509 := Kd.R_lo ho0 HB; replace BK502 := kb_ BK502 hb; replace HB := hbs_ HB hb; (try clear hb); (try clear hb2); (try clear hk); (try clear hi); (try clear ho0); try clear BK502; try clear GW502; try clear GE502; try clear HO509) | ((with_reducible refine gate_callee (f := 31) rfl ?_); refine gl_ (some 289) Tryd.func31 #[.slice A1 l1.length c1] rfl rfl rfl ?_; (with_reducible refine (spec_DrawColumnBlocks.calls kj28 _ _ l1 t511 t512 t513 t514 t515 _ ?side1 ?side2 A116.out).mono ?_); (case side1 => exact Kd.C_w HR1 HB); (case side2 => exact HC1.out); rintro e w312 ⟨rfl, hb⟩; refine ⟨_, rfl, ?_⟩; replace HB := hbs_ HB hb; (try clear hb); (try clear hb2); (try clear hk); (try clear hi)) | ((with_reducible refine gate_dst (N := 52) rfl ?_); (try (refine gate_guard (by rfl) ?_; dsimp only)); refine box_event ?hg (N := 52) ?hd (cs := #[.int .i64 0, .int .i64 0, .int .i64 0]) (t := 26) ?hr ?_; (case hd => rfl); (case hg => rfl); (case hr => first | (go_simp; done) | (go_simp; rfl)); intro gb516 hg w313 hbox hb; have BK516 := Aside0.mk (hbox); have GW516 := gs_ hg HB; have GE516 := gs_ hg HB; replace HB := hbs_ HB hb; clear hb hbox hg; obtain ⟨hcz314_0, hcz314_1, hcz314_2, hfz314_0, hfz314_1, hfz314_2⟩ := bx3 BK516) | ((with_reducible refine gate_callee (f := 23) rfl ?_); refine gl_ (some 297) Tryd.func23 #[.agg #[.int .i64 t511, .int .i64 t512, .int .i64 t513], .int .i64 t514, .int .i64 t515] rfl rfl rfl ?_; (with_reducible refine (impl_ColumnBlocks.calls kj28 t511 t512 t513 t514 t515 t517 t520 _ A117.out).mono ?_); rintro e w315 ⟨v518, rfl, ho0, hb⟩; refine ⟨_, rfl, ?_⟩; have HO519 := Kd.R_lo ho0 HB; replace BK516 := Aside0.mk (blk_below (g := gb516) (o := .cells #[.int .i64 t511, .int .i64 t512, .int .i64 t513] 26 (0, 0)) (kpq_ (kputs BK516 [(0, _), (1, _), (2, _)])) hb); replace HB := hbs_ HB hb; (try clear hb); (try clear hb2); (try clear hk); (try clear hi); (try clear ho0); obtain ⟨hcz316_0, hcz316_1, hcz316_2, hfz316_0, hfz316_1, hfz316_2⟩ := bx3 BK516; try clear HO519) | ((with_reducible refine gate_callee (f := 32) rfl ?_); refine gl_ (some 304) Tryd.func32 #[.agg #[.int .i64 t511, .int .i64 t512, .int .i64 t513], .int .i64 t514, .int .i64 t515] rfl rfl rfl ?_; (with_reducible refine (spec_ColumnBlocks.calls kj28 t511 t512 t513 t514 t515 t521 t524 _ A118.out).mono ?_); rintro e w317 ⟨v522, rfl, ho0, hb⟩; refine ⟨_, rfl, ?_⟩; have HO523 := Kd.R_lo ho0 HB; replace BK516 := kb_ BK516 hb; replace HB := hbs_ HB hb; (try clear hb); (try clear hb2); (try clear hk); (try clear hi); (try clear ho0)))
            go_ret
            exact ⟨by first | rfl | (simp [errW_none, errW_some] <;> rfl) | (simp [*, errW_none, errW_some] <;> rfl), hb_ HB⟩
          ·rw [if_neg c122] at H
           have c122b0 : (t486 == t488) = false := beq_eq_false_iff_ne.mpr c122
           have c122b1 : (t486 != t488) = true := bne_iff_ne.mpr c122
           obtain rfl := Option.some.inj H
           go_wp2_with (first | ((with_reducible refine gate_callee (f := 25) rfl ?_); refine gl_ (some 220) Tryd.func25 #[.slice A1 l1.length c1] rfl rfl rfl ?_; (with_reducible refine (spec_DrawBlockAt.calls kj28 _ _ l1 t470 t471 t472 t473 t474 t475 _ ?side1 ?side2 A104.out).mono ?_); (case side1 => exact Kd.C_w HR1 HB); (case side2 => exact HC1.out); rintro e w318 ⟨rfl, hb⟩; refine ⟨_, rfl, ?_⟩; replace HB := hbs_ HB hb; (try clear hb); (try clear hb2); (try clear hk); (try clear hi)) | ((with_reducible refine gate_dst (N := 27) rfl ?_); (try (refine gate_guard (by rfl) ?_; dsimp only)); refine box_event ?hg (N := 27) ?hd (cs := #[.int .i64 0, .int .i64 0, .int .i64 0]) (t := 26) ?hr ?_; (case hd => rfl); (case hg => rfl); (case hr => first | (go_simp; done) | (go_simp; rfl)); intro gb476 hg w319 hbox hb; have BK476 := Aside0.mk (hbox); have GW476 := gs_ hg HB; have GE476 := gs_ hg HB; replace HB := hbs_ HB hb; clear hb hbox hg; obtain ⟨hcz320_0, hcz320_1, hcz320_2, hfz320_0, hfz320_1, hfz320_2⟩ := bx3 BK476) | ((with_reducible refine gate_callee (f := 20) rfl ?_); refine gl_ (some 230) Tryd.func20 #[.agg #[.int .i64 t470, .int .i64 t471, .int .i64 t472], .int .i64 t473, .int .i64 t474, .int .i64 t475] rfl rfl rfl ?_; (with_reducible refine (impl_BlockAt.calls t470 t471 t472 t473 t474 t475 t477 t478 _ A105.out).mono ?_); rintro e w321 ⟨rfl, hb⟩; refine ⟨_, rfl, ?_⟩; replace BK476 := Aside0.mk (blk_below (g := gb476) (o := .cells #[.int .i64 t470, .int .i64 t471, .int .i64 t472] 26 (0, 0)) (kpq_ (kputs BK476 [(0, _), (1, _), (2, _)])) hb); replace HB := hbs_ HB hb; (try clear hb); (try clear hb2); (try clear hk); (try clear hi); obtain ⟨hcz322_0, hcz322_1, hcz322_2, hfz322_0, hfz322_1, hfz322_2⟩ := bx3 BK476) | ((with_reducible refine gate_callee (f := 26) rfl ?_); refine gl_ (some 238) Tryd.func26 #[.agg #[.int .i64 t470, .int .i64 t471, .int .i64 t472], .int .i64 t473, .int .i64 t474, .int .i64 t475] rfl rfl rfl ?_; (with_reducible refine (spec_BlockAt.calls t470 t471 t472 t473 t474 t475 t479 t480 _ A106.out).mono ?_); rintro e w323 ⟨rfl, hb⟩; refine ⟨_, rfl, ?_⟩; replace BK476 := kb_ BK476 hb; replace HB := hbs_ HB hb; (try clear hb); (try clear hb2); (try clear hk); (try clear hi); try clear BK476; try clear GW476; try clear GE476) | ((with_reducible refine gate_callee (f := 27) rfl ?_); refine gl_ (some 243) Tryd.func27 #[.slice A1 l1.length c1] rfl rfl rfl ?_; (with_reducible refine (spec_DrawParseBlock.calls kj28 _ _ l1 t481 t482 t483 t484 _ ?side1 ?side2 A107.out).mono ?_); (case side1 => exact Kd.C_w HR1 HB); (case side2 => exact HC1.out); rintro e w324 ⟨rfl, hb⟩; refine ⟨_, rfl, ?_⟩; replace HB := hbs_ HB hb; (try clear hb); (try clear hb2); (try clear hk); (try clear hi)) | ((with_reducible refine gate_dst (N := 35) rfl ?_); (try (refine gate_guard (by rfl) ?_; dsimp only)); refine box_event ?hg (N := 35) ?hd (cs := #[.int .i64 0, .int .i64 0, .int .i64 0]) (t := 26) ?hr ?_; (case hd => rfl); (case hg => rfl); (case hr => first | (go_simp; done) | (go_simp; rfl)); intro gb485 hg w325 hbox hb; have BK485 := Aside0.mk (hbox); have GW485 := gs_ hg HB; have GE485 := gs_ hg HB; replace HB := hbs_ HB hb; clear hb hbox hg; obtain ⟨hcz326_0, hcz326_1, hcz326_2, hfz326_0, hfz326_1, hfz326_2⟩ := bx3 BK485) | ((with_reducible refine gate_callee (f := 11) rfl ?_); refine gl_ (some 249) Tryd.func11 #[.agg #[.int .i64 t481, .int .i64 t482, .int .i64 t483], .string t484] rfl rfl rfl ?_; (with_reducible refine (impl_ParseBlock.calls kj28 t481 t482 t483 t484 t486 t487 _ A108.out).mono ?_); rintro e w327 ⟨rfl, hb⟩; refine ⟨_, rfl, ?_⟩; replace BK485 := Aside0.mk (blk_below (g := gb485) (o := .cells #[.int .i64 t481, .int .i64 t482, .int .i64 t483] 26 (0, 0)) (kpq_ (kputs BK485 [(0, _), (1, _), (2, _)])) hb); replace HB := hbs_ HB hb; (try clear hb); (try clear hb2); (try clear hk); (try clear hi); obtain ⟨hcz328_0, hcz328_1, hcz328_2, hfz328_0, hfz328_1, hfz328_2⟩ := bx3 BK485) | ((with_reducible refine gate_callee (f := 10) rfl ?_); refine gl_ (some 255) Tryd.func10 #[.agg #[.int .i64 t481, .int .i64 t482, .int .i64 t483], .string t484] rfl rfl rfl ?_; (with_reducible refine (spec_ParseBlock.calls kj28 t481 t482 t483 t484 t488 t489 _ A109.out).mono ?_); rintro e w329 ⟨rfl, hb⟩; refine ⟨_, rfl, ?_⟩; replace BK485 := kb_ BK485 hb; replace HB := hbs_ HB hb; (try clear hb); (try clear hb2); (try clear hk); (try clear hi); try clear BK485; try clear GW485; try clear GE485) | ((with_reducible refine gate_callee (f := 28) rfl ?_); refine gl_ (some 259) Tryd.func28 #[.slice A1 l1.length c1] rfl rfl rfl ?_; (with_reducible refine (spec_DrawGridText.calls kj28 _ _ l1 t490 t491 t492 _ ?side1 ?side2 A110.out).mono ?_); (case side1 => exact Kd.C_w HR1 HB); (case side2 => exact HC1.out); rintro e w330 ⟨rfl, hb⟩; refine ⟨_, rfl, ?_⟩; replace HB := hbs_ HB hb; (try clear hb); (try clear hb2); (try clear hk); (try clear hi)) | ((with_reducible refine gate_dst (N := 41) rfl ?_); (try (refine gate_guard (by rfl) ?_; dsimp only)); refine box_event ?hg (N := 41) ?hd (cs := #[.int .i64 0, .int .i64 0, .int .i64 0]) (t := 26) ?hr ?_; (case hd => rfl); (case hg => rfl); (case hr => first | (go_simp; done) | (go_simp; rfl)); intro gb493 hg w331 hbox hb; have BK493 := Aside0.mk (hbox); have GW493 := gs_ hg HB; have GE493 := gs_ hg HB; replace HB := hbs_ HB hb; clear hb hbox hg; obtain ⟨hcz332_0, hcz332_1, hcz332_2, hfz332_0, hfz332_1, hfz332_2⟩ := bx3 BK493) | ((with_reducible refine gate_callee (f := 13) rfl ?_); refine gl_ (some 262) Tryd.func13 #[.agg #[.int .i64 t490, .int .i64 t491, .int .i64 t492]] rfl rfl rfl ?_; (with_reducible refine (impl_GridText.calls t490 t491 t492 t494 t495 _ A111.out).mono ?_); rintro e w333 ⟨rfl, hb⟩; refine ⟨_, rfl, ?_⟩; replace BK493 := Aside0.mk (blk_below (g := gb493) (o := .cells #[.int .i64 t490, .int .i64 t491, .int .i64 t492] 26 (0, 0)) (kpq_ (kputs BK493 [(0, _), (1, _), (2, _)])) hb); replace HB := hbs_ HB hb; (try clear hb); (try clear hb2); (try clear hk); (try clear hi); obtain ⟨hcz334_0, hcz334_1, hcz334_2, hfz334_0, hfz334_1, hfz334_2⟩ := bx3 BK493) | ((with_reducible refine gate_callee (f := 12) rfl ?_); refine gl_ (some 267) Tryd.func12 #[.agg #[.int .i64 t490, .int .i64 t491, .int .i64 t492]] rfl rfl rfl ?_; (with_reducible refine (spec_GridText.calls kj28 t490 t491 t492 t496 t497 _ A112.out).mono ?_); rintro e w335 ⟨rfl, hb⟩; refine ⟨_, rfl, ?_⟩; replace BK493 := kb_ BK493 hb; replace HB := hbs_ HB hb; (try clear hb); (try clear hb2); (try clear hk); (try clear hi); try clear BK493; try clear GW493; try clear GE493) | ((with_reducible refine gate_callee (f := 29) rfl ?_); refine gl_ (some 272) Tryd.func29 #[.slice A1 l1.length c1] rfl rfl rfl ?_; (with_reducible refine (spec_DrawLevelBlocks.calls kj28 _ _ l1 t498 t499 t500 t501 _ ?side1 ?side2 A113.out).mono ?_); (case side1 => exact Kd.C_w HR1 HB); (case side2 => exact HC1.out); rintro e w336 ⟨rfl, hb⟩; refine ⟨_, rfl, ?_⟩; replace HB := hbs_ HB hb; (try clear hb); (try clear hb2); (try clear hk); (try clear hi)) | ((with_reducible refine gate_dst (N := 46) rfl ?_); (try (refine gate_guard (by rfl) ?_; dsimp only)); refine box_event ?hg (N := 46) ?hd (cs := #[.int .i64 0, .int .i64 0, .int .i64 0]) (t := 26) ?hr ?_; (case hd => rfl); (case hg => rfl); (case hr => first | (go_simp; done) | (go_simp; rfl)); intro gb502 hg w337 hbox hb; have BK502 := Aside0.mk (hbox); have GW502 := gs_ hg HB; have GE502 := gs_ hg HB; replace HB := hbs_ HB hb; clear hb hbox hg; obtain ⟨hcz338_0, hcz338_1, hcz338_2, hfz338_0, hfz338_1, hfz338_2⟩ := bx3 BK502) | ((with_reducible refine gate_callee (f := 22) rfl ?_); refine gl_ (some 278) Tryd.func22 #[.agg #[.int .i64 t498, .int .i64 t499, .int .i64 t500], .int .i64 t501] rfl rfl rfl ?_; (with_reducible refine (impl_LevelBlocks.calls kj28 t498 t499 t500 t501 t503 t506 _ A114.out).mono ?_); rintro e w339 ⟨v504, rfl, ho0, hb⟩; refine ⟨_, rfl, ?_⟩; have HO505 := Kd.R_lo ho0 HB; replace BK502 := Aside0.mk (blk_below (g := gb502) (o := .cells #[.int .i64 t498, .int .i64 t499, .int .i64 t500] 26 (0, 0)) (kpq_ (kputs BK502 [(0, _), (1, _), (2, _)])) hb); replace HB := hbs_ HB hb; (try clear hb); (try clear hb2); (try clear hk); (try clear hi); (try clear ho0); obtain ⟨hcz340_0, hcz340_1, hcz340_2, hfz340_0, hfz340_1, hfz340_2⟩ := bx3 BK502; try clear HO505) | ((with_reducible refine gate_callee (f := 30) rfl ?_); refine gl_ (some 284) Tryd.func30 #[.agg #[.int .i64 t498, .int .i64 t499, .int .i64 t500], .int .i64 t501] rfl rfl rfl ?_; (with_reducible refine (spec_LevelBlocks.calls kj28 t498 t499 t500 t501 t507 t510 _ A115.out).mono ?_); rintro e w341 ⟨v508, rfl, ho0, hb⟩; refine ⟨_, rfl, ?_⟩; have HO509 := Kd.R_lo ho0 HB; replace BK502 := kb_ BK502 hb; replace HB := hbs_ HB hb; (try clear hb); (try clear hb2); (try clear hk); (try clear hi); (try clear ho0); try clear BK502; try clear GW502; try clear GE502; try clear HO509) | ((with_reducible refine gate_callee (f := 31) rfl ?_); refine gl_ (some 289) Tryd.func31 #[.slice A1 l1.length c1] rfl rfl rfl ?_; (with_reducible refine (spec_DrawColumnBlocks.calls kj28 _ _ l1 t511 t512 t513 t514 t515 _ ?side1 ?side2 A116.out).mono ?_); (case side1 => exact Kd.C_w HR1 HB); (case side2 => exact HC1.out); rintro e w342 ⟨rfl, hb⟩; refine ⟨_, rfl, ?_⟩; replace HB := hbs_ HB hb; (try clear hb); (try clear hb2); (try clear hk); (try clear hi)) | ((with_reducible refine gate_dst (N := 52) rfl ?_); (try (refine gate_guard (by rfl) ?_; dsimp only)); refine box_event ?hg (N := 52) ?hd (cs := #[.int .i64 0, .int .i64 0, .int .i64 0]) (t := 26) ?hr ?_; (case hd => rfl); (case hg => rfl); (case hr => first | (go_simp; done) | (go_simp; rfl)); intro gb516 hg w343 hbox hb; have BK516 := Aside0.mk (hbox); have GW516 := gs_ hg HB; have GE516 := gs_ hg HB; replace HB := hbs_ HB hb; clear hb hbox hg; obtain ⟨hcz344_0, hcz344_1, hcz344_2, hfz344_0, hfz344_1, hfz344_2⟩ := bx3 BK516) | ((with_reducible refine gate_callee (f := 23) rfl ?_); refine gl_ (some 297) Tryd.func23 #[.agg #[.int .i64 t511, .int .i64 t512, .int .i64 t513], .int .i64 t514, .int .i64 t515] rfl rfl rfl ?_; (with_reducible refine (impl_ColumnBlocks.calls kj28 t511 t512 t513 t514 t515 t517 t520 _ A117.out).mono ?_); rintro e w345 ⟨v518, rfl, ho0, hb⟩; refine ⟨_, rfl, ?_⟩; have HO519 := Kd.R_lo ho0 HB; replace BK516 := Aside0.mk (blk_below (g := gb516) (o := .cells #[.int .i64 t511, .int .i64 t512, .int .i64 t513] 26 (0, 0)) (kpq_ (kputs BK516 [(0, _), (1, _), (2, _)])) hb); replace HB := hbs_ HB hb; (try clear hb); (try clear hb2); (try clear hk); (try clear hi); (try clear ho0); obtain ⟨hcz346_0, hcz346_1, hcz346_2, hfz346_0, hfz346_1, hfz346_2⟩ := bx3 BK516; try clear HO519) | ((with_reducible refine gate_callee (f := 32) rfl ?_); refine gl_ (some 304) Tryd.func32 #[.agg #[.int .i64 t511, .int .i64 t512, .int .i64 t513], .int .i64 t514, .int .i64 t515] rfl rfl rfl ?_; (with_reducible refine (spec_ColumnBlocks.calls kj28 t511 t512 t513 t514 t515 t521 t524 _ A118.out).mono ?_); rintro e w347 ⟨v522, rfl, ho0, hb⟩; refine ⟨_, rfl, ?_⟩; have HO523 := Kd.R_lo ho0 HB; replace BK516 := kb_ BK516 hb; replace HB := hbs_ HB hb; (try clear hb); (try clear hb2); (try clear hk); (try clear hi); (try clear ho0)))
           go_ret
           exact ⟨by first | rfl | (simp [errW_none, errW_some] <;> rfl) | (simp [*, errW_none, errW_some] <;> rfl), hb_ HB⟩
         ·rw [if_neg c121] at H
          have c121b0 : (t487 == t489) = false := by simpa using c121
          (try (have c121b1 : decide (t487 = t489) = false := by simpa using c121))
          (try (have c121b2 : (t487 == t489) = false := by simpa using c121))
          (try (have c121b3 : ¬ (t487 = t489) := by simpa using c121))
          clear c121
          obtain rfl := Option.some.inj H
          go_wp2_with (first | ((with_reducible refine gate_callee (f := 25) rfl ?_); refine gl_ (some 220) Tryd.func25 #[.slice A1 l1.length c1] rfl rfl rfl ?_; (with_reducible refine (spec_DrawBlockAt.calls kj28 _ _ l1 t470 t471 t472 t473 t474 t475 _ ?side1 ?side2 A104.out).mono ?_); (case side1 => exact Kd.C_w HR1 HB); (case side2 => exact HC1.out); rintro e w348 ⟨rfl, hb⟩; refine ⟨_, rfl, ?_⟩; replace HB := hbs_ HB hb; (try clear hb); (try clear hb2); (try clear hk); (try clear hi)) | ((with_reducible refine gate_dst (N := 27) rfl ?_); (try (refine gate_guard (by rfl) ?_; dsimp only)); refine box_event ?hg (N := 27) ?hd (cs := #[.int .i64 0, .int .i64 0, .int .i64 0]) (t := 26) ?hr ?_; (case hd => rfl); (case hg => rfl); (case hr => first | (go_simp; done) | (go_simp; rfl)); intro gb476 hg w349 hbox hb; have BK476 := Aside0.mk (hbox); have GW476 := gs_ hg HB; have GE476 := gs_ hg HB; replace HB := hbs_ HB hb; clear hb hbox hg; obtain ⟨hcz350_0, hcz350_1, hcz350_2, hfz350_0, hfz350_1, hfz350_2⟩ := bx3 BK476) | ((with_reducible refine gate_callee (f := 20) rfl ?_); refine gl_ (some 230) Tryd.func20 #[.agg #[.int .i64 t470, .int .i64 t471, .int .i64 t472], .int .i64 t473, .int .i64 t474, .int .i64 t475] rfl rfl rfl ?_; (with_reducible refine (impl_BlockAt.calls t470 t471 t472 t473 t474 t475 t477 t478 _ A105.out).mono ?_); rintro e w351 ⟨rfl, hb⟩; refine ⟨_, rfl, ?_⟩; replace BK476 := Aside0.mk (blk_below (g := gb476) (o := .cells #[.int .i64 t470, .int .i64 t471, .int .i64 t472] 26 (0, 0)) (kpq_ (kputs BK476 [(0, _), (1, _), (2, _)])) hb); replace HB := hbs_ HB hb; (try clear hb); (try clear hb2); (try clear hk); (try clear hi); obtain ⟨hcz352_0, hcz352_1, hcz352_2, hfz352_0, hfz352_1, hfz352_2⟩ := bx3 BK476) | ((with_reducible refine gate_callee (f := 26) rfl ?_); refine gl_ (some 238) Tryd.func26 #[.agg #[.int .i64 t470, .int .i64 t471, .int .i64 t472], .int .i64 t473, .int .i64 t474, .int .i64 t475] rfl rfl rfl ?_; (with_reducible refine (spec_BlockAt.calls t470 t471 t472 t473 t474 t475 t479 t480 _ A106.out).mono ?_); rintro e w353 ⟨rfl, hb⟩; refine ⟨_, rfl, ?_⟩; replace BK476 := kb_ BK476 hb; replace HB := hbs_ HB hb; (try clear hb); (try clear hb2); (try clear hk); (try clear hi); try clear BK476; try clear GW476; try clear GE476) | ((with_reducible refine gate_callee (f := 27) rfl ?_); refine gl_ (some 243) Tryd.func27 #[.slice A1 l1.length c1] rfl rfl rfl ?_; (with_reducible refine (spec_DrawParseBlock.calls kj28 _ _ l1 t481 t482 t483 t484 _ ?side1 ?side2 A107.out).mono ?_); (case side1 => exact Kd.C_w HR1 HB); (case side2 => exact HC1.out); rintro e w354 ⟨rfl, hb⟩; refine ⟨_, rfl, ?_⟩; replace HB := hbs_ HB hb; (try clear hb); (try clear hb2); (try clear hk); (try clear hi)) | ((with_reducible refine gate_dst (N := 35) rfl ?_); (try (refine gate_guard (by rfl) ?_; dsimp only)); refine box_event ?hg (N := 35) ?hd (cs := #[.int .i64 0, .int .i64 0, .int .i64 0]) (t := 26) ?hr ?_; (case hd => rfl); (case hg => rfl); (case hr => first | (go_simp; done) | (go_simp; rfl)); intro gb485 hg w355 hbox hb; have BK485 := Aside0.mk (hbox); have GW485 := gs_ hg HB; have GE485 := gs_ hg HB; replace HB := hbs_ HB hb; clear hb hbox hg; obtain ⟨hcz356_0, hcz356_1, hcz356_2, hfz356_0, hfz356_1, hfz356_2⟩ := bx3 BK485) | ((with_reducible refine gate_callee (f := 11) rfl ?_); refine gl_ (some 249) Tryd.func11 #[.agg #[.int .i64 t481, .int .i64 t482, .int .i64 t483], .string t484] rfl rfl rfl ?_; (with_reducible refine (impl_ParseBlock.calls kj28 t481 t482 t483 t484 t486 t487 _ A108.out).mono ?_); rintro e w357 ⟨rfl, hb⟩; refine ⟨_, rfl, ?_⟩; replace BK485 := Aside0.mk (blk_below (g := gb485) (o := .cells #[.int .i64 t481, .int .i64 t482, .int .i64 t483] 26 (0, 0)) (kpq_ (kputs BK485 [(0, _), (1, _), (2, _)])) hb); replace HB := hbs_ HB hb; (try clear hb); (try clear hb2); (try clear hk); (try clear hi); obtain ⟨hcz358_0, hcz358_1, hcz358_2, hfz358_0, hfz358_1, hfz358_2⟩ := bx3 BK485) | ((with_reducible refine gate_callee (f := 10) rfl ?_); refine gl_ (some 255) Tryd.func10 #[.agg #[.int .i64 t481, .int .i64 t482, .int .i64 t483], .string t484] rfl rfl rfl ?_; (with_reducible refine (spec_ParseBlock.calls kj28 t481 t482 t483 t484 t488 t489 _ A109.out).mono ?_); rintro e w359 ⟨rfl, hb⟩; refine ⟨_, rfl, ?_⟩; replace BK485 := kb_ BK485 hb; replace HB := hbs_ HB hb; (try clear hb); (try clear hb2); (try clear hk); (try clear hi); try clear BK485; try clear GW485; try clear GE485) | ((with_reducible refine gate_callee (f := 28) rfl ?_); refine gl_ (some 259) Tryd.func28 #[.slice A1 l1.length c1] rfl rfl rfl ?_; (with_reducible refine (spec_DrawGridText.calls kj28 _ _ l1 t490 t491 t492 _ ?side1 ?side2 A110.out).mono ?_); (case side1 => exact Kd.C_w HR1 HB); (case side2 => exact HC1.out); rintro e w360 ⟨rfl, hb⟩; refine ⟨_, rfl, ?_⟩; replace HB := hbs_ HB hb; (try clear hb); (try clear hb2); (try clear hk); (try clear hi)) | ((with_reducible refine gate_dst (N := 41) rfl ?_); (try (refine gate_guard (by rfl) ?_; dsimp only)); refine box_event ?hg (N := 41) ?hd (cs := #[.int .i64 0, .int .i64 0, .int .i64 0]) (t := 26) ?hr ?_; (case hd => rfl); (case hg => rfl); (case hr => first | (go_simp; done) | (go_simp; rfl)); intro gb493 hg w361 hbox hb; have BK493 := Aside0.mk (hbox); have GW493 := gs_ hg HB; have GE493 := gs_ hg HB; replace HB := hbs_ HB hb; clear hb hbox hg; obtain ⟨hcz362_0, hcz362_1, hcz362_2, hfz362_0, hfz362_1, hfz362_2⟩ := bx3 BK493) | ((with_reducible refine gate_callee (f := 13) rfl ?_); refine gl_ (some 262) Tryd.func13 #[.agg #[.int .i64 t490, .int .i64 t491, .int .i64 t492]] rfl rfl rfl ?_; (with_reducible refine (impl_GridText.calls t490 t491 t492 t494 t495 _ A111.out).mono ?_); rintro e w363 ⟨rfl, hb⟩; refine ⟨_, rfl, ?_⟩; replace BK493 := Aside0.mk (blk_below (g := gb493) (o := .cells #[.int .i64 t490, .int .i64 t491, .int .i64 t492] 26 (0, 0)) (kpq_ (kputs BK493 [(0, _), (1, _), (2, _)])) hb); replace HB := hbs_ HB hb; (try clear hb); (try clear hb2); (try clear hk); (try clear hi); obtain ⟨hcz364_0, hcz364_1, hcz364_2, hfz364_0, hfz364_1, hfz364_2⟩ := bx3 BK493) | ((with_reducible refine gate_callee (f := 12) rfl ?_); refine gl_ (some 267) Tryd.func12 #[.agg #[.int .i64 t490, .int .i64 t491, .int .i64 t492]] rfl rfl rfl ?_; (with_reducible refine (spec_GridText.calls kj28 t490 t491 t492 t496 t497 _ A112.out).mono ?_); rintro e w365 ⟨rfl, hb⟩; refine ⟨_, rfl, ?_⟩; replace BK493 := kb_ BK493 hb; replace HB := hbs_ HB hb; (try clear hb); (try clear hb2); (try clear hk); (try clear hi); try clear BK493; try clear GW493; try clear GE493) | ((with_reducible refine gate_callee (f := 29) rfl ?_); refine gl_ (some 272) Tryd.func29 #[.slice A1 l1.length c1] rfl rfl rfl ?_; (with_reducible refine (spec_DrawLevelBlocks.calls kj28 _ _ l1 t498 t499 t500 t501 _ ?side1 ?side2 A113.out).mono ?_); (case side1 => exact Kd.C_w HR1 HB); (case side2 => exact HC1.out); rintro e w366 ⟨rfl, hb⟩; refine ⟨_, rfl, ?_⟩; replace HB := hbs_ HB hb; (try clear hb); (try clear hb2); (try clear hk); (try clear hi)) | ((with_reducible refine gate_dst (N := 46) rfl ?_); (try (refine gate_guard (by rfl) ?_; dsimp only)); refine box_event ?hg (N := 46) ?hd (cs := #[.int .i64 0, .int .i64 0, .int .i64 0]) (t := 26) ?hr ?_; (case hd => rfl); (case hg => rfl); (case hr => first | (go_simp; done) | (go_simp; rfl)); intro gb502 hg w367 hbox hb; have BK502 := Aside0.mk (hbox); have GW502 := gs_ hg HB; have GE502 := gs_ hg HB; replace HB := hbs_ HB hb; clear hb hbox hg; obtain ⟨hcz368_0, hcz368_1, hcz368_2, hfz368_0, hfz368_1, hfz368_2⟩ := bx3 BK502) | ((with_reducible refine gate_callee (f := 22) rfl ?_); refine gl_ (some 278) Tryd.func22 #[.agg #[.int .i64 t498, .int .i64 t499, .int .i64 t500], .int .i64 t501] rfl rfl rfl ?_; (with_reducible refine (impl_LevelBlocks.calls kj28 t498 t499 t500 t501 t503 t506 _ A114.out).mono ?_); rintro e w369 ⟨v504, rfl, ho0, hb⟩; refine ⟨_, rfl, ?_⟩; have HO505 := Kd.R_lo ho0 HB; replace BK502 := Aside0.mk (blk_below (g := gb502) (o := .cells #[.int .i64 t498, .int .i64 t499, .int .i64 t500] 26 (0, 0)) (kpq_ (kputs BK502 [(0, _), (1, _), (2, _)])) hb); replace HB := hbs_ HB hb; (try clear hb); (try clear hb2); (try clear hk); (try clear hi); (try clear ho0); obtain ⟨hcz370_0, hcz370_1, hcz370_2, hfz370_0, hfz370_1, hfz370_2⟩ := bx3 BK502; try clear HO505) | ((with_reducible refine gate_callee (f := 30) rfl ?_); refine gl_ (some 284) Tryd.func30 #[.agg #[.int .i64 t498, .int .i64 t499, .int .i64 t500], .int .i64 t501] rfl rfl rfl ?_; (with_reducible refine (spec_LevelBlocks.calls kj28 t498 t499 t500 t501 t507 t510 _ A115.out).mono ?_); rintro e w371 ⟨v508, rfl, ho0, hb⟩; refine ⟨_, rfl, ?_⟩; have HO509 := Kd.R_lo ho0 HB; replace BK502 := kb_ BK502 hb; replace HB := hbs_ HB hb; (try clear hb); (try clear hb2); (try clear hk); (try clear hi); (try clear ho0); try clear BK502; try clear GW502; try clear GE502; try clear HO509) | ((with_reducible refine gate_callee (f := 31) rfl ?_); refine gl_ (some 289) Tryd.func31 #[.slice A1 l1.length c1] rfl rfl rfl ?_; (with_reducible refine (spec_DrawColumnBlocks.calls kj28 _ _ l1 t511 t512 t513 t514 t515 _ ?side1 ?side2 A116.out).mono ?_); (case side1 => exact Kd.C_w HR1 HB); (case side2 => exact HC1.out); rintro e w372 ⟨rfl, hb⟩; refine ⟨_, rfl, ?_⟩; replace HB := hbs_ HB hb; (try clear hb); (try clear hb2); (try clear hk); (try clear hi)) | ((with_reducible refine gate_dst (N := 52) rfl ?_); (try (refine gate_guard (by rfl) ?_; dsimp only)); refine box_event ?hg (N := 52) ?hd (cs := #[.int .i64 0, .int .i64 0, .int .i64 0]) (t := 26) ?hr ?_; (case hd => rfl); (case hg => rfl); (case hr => first | (go_simp; done) | (go_simp; rfl)); intro gb516 hg w373 hbox hb; have BK516 := Aside0.mk (hbox); have GW516 := gs_ hg HB; have GE516 := gs_ hg HB; replace HB := hbs_ HB hb; clear hb hbox hg; obtain ⟨hcz374_0, hcz374_1, hcz374_2, hfz374_0, hfz374_1, hfz374_2⟩ := bx3 BK516) | ((with_reducible refine gate_callee (f := 23) rfl ?_); refine gl_ (some 297) Tryd.func23 #[.agg #[.int .i64 t511, .int .i64 t512, .int .i64 t513], .int .i64 t514, .int .i64 t515] rfl rfl rfl ?_; (with_reducible refine (impl_ColumnBlocks.calls kj28 t511 t512 t513 t514 t515 t517 t520 _ A117.out).mono ?_); rintro e w375 ⟨v518, rfl, ho0, hb⟩; refine ⟨_, rfl, ?_⟩; have HO519 := Kd.R_lo ho0 HB; replace BK516 := Aside0.mk (blk_below (g := gb516) (o := .cells #[.int .i64 t511, .int .i64 t512, .int .i64 t513] 26 (0, 0)) (kpq_ (kputs BK516 [(0, _), (1, _), (2, _)])) hb); replace HB := hbs_ HB hb; (try clear hb); (try clear hb2); (try clear hk); (try clear hi); (try clear ho0); obtain ⟨hcz376_0, hcz376_1, hcz376_2, hfz376_0, hfz376_1, hfz376_2⟩ := bx3 BK516; try clear HO519) | ((with_reducible refine gate_callee (f := 32) rfl ?_); refine gl_ (some 304) Tryd.func32 #[.agg #[.int .i64 t511, .int .i64 t512, .int .i64 t513], .int .i64 t514, .int .i64 t515] rfl rfl rfl ?_; (with_reducible refine (spec_ColumnBlocks.calls kj28 t511 t512 t513 t514 t515 t521 t524 _ A118.out).mono ?_); rintro e w377 ⟨v522, rfl, ho0, hb⟩; refine ⟨_, rfl, ?_⟩; have HO523 := Kd.R_lo ho0 HB; replace BK516 := kb_ BK516 hb; replace HB := hbs_ HB hb; (try clear hb); (try clear hb2); (try clear hk); (try clear hi); (try clear ho0)))
          go_ret
          exact ⟨by first | rfl | (simp [errW_none, errW_some] <;> rfl) | (simp [*, errW_none, errW_some] <;> rfl), hb_ HB⟩
        ·rw [if_neg c120] at H
         have c120b0 : (t477 == t479) = false := beq_eq_false_iff_ne.mpr c120
         have c120b1 : (t477 != t479) = true := bne_iff_ne.mpr c120
         obtain rfl := Option.some.inj H
         go_wp2_with (first | ((with_reducible refine gate_callee (f := 25) rfl ?_); refine gl_ (some 220) Tryd.func25 #[.slice A1 l1.length c1] rfl rfl rfl ?_; (with_reducible refine (spec_DrawBlockAt.calls kj28 _ _ l1 t470 t471 t472 t473 t474 t475 _ ?side1 ?side2 A104.out).mono ?_); (case side1 => exact Kd.C_w HR1 HB); (case side2 => exact HC1.out); rintro e w378 ⟨rfl, hb⟩; refine ⟨_, rfl, ?_⟩; replace HB := hbs_ HB hb; (try clear hb); (try clear hb2); (try clear hk); (try clear hi)) | ((with_reducible refine gate_dst (N := 27) rfl ?_); (try (refine gate_guard (by rfl) ?_; dsimp only)); refine box_event ?hg (N := 27) ?hd (cs := #[.int .i64 0, .int .i64 0, .int .i64 0]) (t := 26) ?hr ?_; (case hd => rfl); (case hg => rfl); (case hr => first | (go_simp; done) | (go_simp; rfl)); intro gb476 hg w379 hbox hb; have BK476 := Aside0.mk (hbox); have GW476 := gs_ hg HB; have GE476 := gs_ hg HB; replace HB := hbs_ HB hb; clear hb hbox hg; obtain ⟨hcz380_0, hcz380_1, hcz380_2, hfz380_0, hfz380_1, hfz380_2⟩ := bx3 BK476) | ((with_reducible refine gate_callee (f := 20) rfl ?_); refine gl_ (some 230) Tryd.func20 #[.agg #[.int .i64 t470, .int .i64 t471, .int .i64 t472], .int .i64 t473, .int .i64 t474, .int .i64 t475] rfl rfl rfl ?_; (with_reducible refine (impl_BlockAt.calls t470 t471 t472 t473 t474 t475 t477 t478 _ A105.out).mono ?_); rintro e w381 ⟨rfl, hb⟩; refine ⟨_, rfl, ?_⟩; replace BK476 := Aside0.mk (blk_below (g := gb476) (o := .cells #[.int .i64 t470, .int .i64 t471, .int .i64 t472] 26 (0, 0)) (kpq_ (kputs BK476 [(0, _), (1, _), (2, _)])) hb); replace HB := hbs_ HB hb; (try clear hb); (try clear hb2); (try clear hk); (try clear hi); obtain ⟨hcz382_0, hcz382_1, hcz382_2, hfz382_0, hfz382_1, hfz382_2⟩ := bx3 BK476) | ((with_reducible refine gate_callee (f := 26) rfl ?_); refine gl_ (some 238) Tryd.func26 #[.agg #[.int .i64 t470, .int .i64 t471, .int .i64 t472], .int .i64 t473, .int .i64 t474, .int .i64 t475] rfl rfl rfl ?_; (with_reducible refine (spec_BlockAt.calls t470 t471 t472 t473 t474 t475 t479 t480 _ A106.out).mono ?_); rintro e w383 ⟨rfl, hb⟩; refine ⟨_, rfl, ?_⟩; replace BK476 := kb_ BK476 hb; replace HB := hbs_ HB hb; (try clear hb); (try clear hb2); (try clear hk); (try clear hi); try clear BK476; try clear GW476; try clear GE476) | ((with_reducible refine gate_callee (f := 27) rfl ?_); refine gl_ (some 243) Tryd.func27 #[.slice A1 l1.length c1] rfl rfl rfl ?_; (with_reducible refine (spec_DrawParseBlock.calls kj28 _ _ l1 t481 t482 t483 t484 _ ?side1 ?side2 A107.out).mono ?_); (case side1 => exact Kd.C_w HR1 HB); (case side2 => exact HC1.out); rintro e w384 ⟨rfl, hb⟩; refine ⟨_, rfl, ?_⟩; replace HB := hbs_ HB hb; (try clear hb); (try clear hb2); (try clear hk); (try clear hi)) | ((with_reducible refine gate_dst (N := 35) rfl ?_); (try (refine gate_guard (by rfl) ?_; dsimp only)); refine box_event ?hg (N := 35) ?hd (cs := #[.int .i64 0, .int .i64 0, .int .i64 0]) (t := 26) ?hr ?_; (case hd => rfl); (case hg => rfl); (case hr => first | (go_simp; done) | (go_simp; rfl)); intro gb485 hg w385 hbox hb; have BK485 := Aside0.mk (hbox); have GW485 := gs_ hg HB; have GE485 := gs_ hg HB; replace HB := hbs_ HB hb; clear hb hbox hg; obtain ⟨hcz386_0, hcz386_1, hcz386_2, hfz386_0, hfz386_1, hfz386_2⟩ := bx3 BK485) | ((with_reducible refine gate_callee (f := 11) rfl ?_); refine gl_ (some 249) Tryd.func11 #[.agg #[.int .i64 t481, .int .i64 t482, .int .i64 t483], .string t484] rfl rfl rfl ?_; (with_reducible refine (impl_ParseBlock.calls kj28 t481 t482 t483 t484 t486 t487 _ A108.out).mono ?_); rintro e w387 ⟨rfl, hb⟩; refine ⟨_, rfl, ?_⟩; replace BK485 := Aside0.mk (blk_below (g := gb485) (o := .cells #[.int .i64 t481, .int .i64 t482, .int .i64 t483] 26 (0, 0)) (kpq_ (kputs BK485 [(0, _), (1, _), (2, _)])) hb); replace HB := hbs_ HB hb; (try clear hb); (try clear hb2); (try clear hk); (try clear hi); obtain ⟨hcz388_0, hcz388_1, hcz388_2, hfz388_0, hfz388_1, hfz388_2⟩ := bx3 BK485) | ((with_reducible refine gate_callee (f := 10) rfl ?_); refine gl_ (some 255) Tryd.func10 #[.agg #[.int .i64 t481, .int .i64 t482, .int .i64 t483], .string t484] rfl rfl rfl ?_; (with_reducible refine (spec_ParseBlock.calls kj28 t481 t482 t483 t484 t488 t489 _ A109.out).mono ?_); rintro e w389 ⟨rfl, hb⟩; refine ⟨_, rfl, ?_⟩; replace BK485 := kb_ BK485 hb; replace HB := hbs_ HB hb; (try clear hb); (try clear hb2); (try clear hk); (try clear hi); try clear BK485; try clear GW485; try clear GE485) | ((with_reducible refine gate_callee (f := 28) rfl ?_); refine gl_ (some 259) Tryd.func28 #[.slice A1 l1.length c1] rfl rfl rfl ?_; (with_reducible refine (spec_DrawGridText.calls kj28 _ _ l1 t490 t491 t492 _ ?side1 ?side2 A110.out).mono ?_); (case side1 => exact Kd.C_w HR1 HB); (case side2 => exact HC1.out); rintro e w390 ⟨rfl, hb⟩; refine ⟨_, rfl, ?_⟩; replace HB := hbs_ HB hb; (try clear hb); (try clear hb2); (try clear hk); (try clear hi)) | ((with_reducible refine gate_dst (N := 41) rfl ?_); (try (refine gate_guard (by rfl) ?_; dsimp only)); refine box_event ?hg (N := 41) ?hd (cs := #[.int .i64 0, .int .i64 0, .int .i64 0]) (t := 26) ?hr ?_; (case hd => rfl); (case hg => rfl); (case hr => first | (go_simp; done) | (go_simp; rfl)); intro gb493 hg w391 hbox hb; have BK493 := Aside0.mk (hbox); have GW493 := gs_ hg HB; have GE493 := gs_ hg HB; replace HB := hbs_ HB hb; clear hb hbox hg; obtain ⟨hcz392_0, hcz392_1, hcz392_2, hfz392_0, hfz392_1, hfz392_2⟩ := bx3 BK493) | ((with_reducible refine gate_callee (f := 13) rfl ?_); refine gl_ (some 262) Tryd.func13 #[.agg #[.int .i64 t490, .int .i64 t491, .int .i64 t492]] rfl rfl rfl ?_; (with_reducible refine (impl_GridText.calls t490 t491 t492 t494 t495 _ A111.out).mono ?_); rintro e w393 ⟨rfl, hb⟩; refine ⟨_, rfl, ?_⟩; replace BK493 := Aside0.mk (blk_below (g := gb493) (o := .cells #[.int .i64 t490, .int .i64 t491, .int .i64 t492] 26 (0, 0)) (kpq_ (kputs BK493 [(0, _), (1, _), (2, _)])) hb); replace HB := hbs_ HB hb; (try clear hb); (try clear hb2); (try clear hk); (try clear hi); obtain ⟨hcz394_0, hcz394_1, hcz394_2, hfz394_0, hfz394_1, hfz394_2⟩ := bx3 BK493) | ((with_reducible refine gate_callee (f := 12) rfl ?_); refine gl_ (some 267) Tryd.func12 #[.agg #[.int .i64 t490, .int .i64 t491, .int .i64 t492]] rfl rfl rfl ?_; (with_reducible refine (spec_GridText.calls kj28 t490 t491 t492 t496 t497 _ A112.out).mono ?_); rintro e w395 ⟨rfl, hb⟩; refine ⟨_, rfl, ?_⟩; replace BK493 := kb_ BK493 hb; replace HB := hbs_ HB hb; (try clear hb); (try clear hb2); (try clear hk); (try clear hi); try clear BK493; try clear GW493; try clear GE493) | ((with_reducible refine gate_callee (f := 29) rfl ?_); refine gl_ (some 272) Tryd.func29 #[.slice A1 l1.length c1] rfl rfl rfl ?_; (with_reducible refine (spec_DrawLevelBlocks.calls kj28 _ _ l1 t498 t499 t500 t501 _ ?side1 ?side2 A113.out).mono ?_); (case side1 => exact Kd.C_w HR1 HB); (case side2 => exact HC1.out); rintro e w396 ⟨rfl, hb⟩; refine ⟨_, rfl, ?_⟩; replace HB := hbs_ HB hb; (try clear hb); (try clear hb2); (try clear hk); (try clear hi)) | ((with_reducible refine gate_dst (N := 46) rfl ?_); (try (refine gate_guard (by rfl) ?_; dsimp only)); refine box_event ?hg (N := 46) ?hd (cs := #[.int .i64 0, .int .i64 0, .int .i64 0]) (t := 26) ?hr ?_; (case hd => rfl); (case hg => rfl); (case hr => first | (go_simp; done) | (go_simp; rfl)); intro gb502 hg w397 hbox hb; have BK502 := Aside0.mk (hbox); have GW502 := gs_ hg HB; have GE502 := gs_ hg HB; replace HB := hbs_ HB hb; clear hb hbox hg; obtain ⟨hcz398_0, hcz398_1, hcz398_2, hfz398_0, hfz398_1, hfz398_2⟩ := bx3 BK502) | ((with_reducible refine gate_callee (f := 22) rfl ?_); refine gl_ (some 278) Tryd.func22 #[.agg #[.int .i64 t498, .int .i64 t499, .int .i64 t500], .int .i64 t501] rfl rfl rfl ?_; (with_reducible refine (impl_LevelBlocks.calls kj28 t498 t499 t500 t501 t503 t506 _ A114.out).mono ?_); rintro e w399 ⟨v504, rfl, ho0, hb⟩; refine ⟨_, rfl, ?_⟩; have HO505 := Kd.R_lo ho0 HB; replace BK502 := Aside0.mk (blk_below (g := gb502) (o := .cells #[.int .i64 t498, .int .i64 t499, .int .i64 t500] 26 (0, 0)) (kpq_ (kputs BK502 [(0, _), (1, _), (2, _)])) hb); replace HB := hbs_ HB hb; (try clear hb); (try clear hb2); (try clear hk); (try clear hi); (try clear ho0); obtain ⟨hcz400_0, hcz400_1, hcz400_2, hfz400_0, hfz400_1, hfz400_2⟩ := bx3 BK502; try clear HO505) | ((with_reducible refine gate_callee (f := 30) rfl ?_); refine gl_ (some 284) Tryd.func30 #[.agg #[.int .i64 t498, .int .i64 t499, .int .i64 t500], .int .i64 t501] rfl rfl rfl ?_; (with_reducible refine (spec_LevelBlocks.calls kj28 t498 t499 t500 t501 t507 t510 _ A115.out).mono ?_); rintro e w401 ⟨v508, rfl, ho0, hb⟩; refine ⟨_, rfl, ?_⟩; have HO509 := Kd.R_lo ho0 HB; replace BK502 := kb_ BK502 hb; replace HB := hbs_ HB hb; (try clear hb); (try clear hb2); (try clear hk); (try clear hi); (try clear ho0); try clear BK502; try clear GW502; try clear GE502; try clear HO509) | ((with_reducible refine gate_callee (f := 31) rfl ?_); refine gl_ (some 289) Tryd.func31 #[.slice A1 l1.length c1] rfl rfl rfl ?_; (with_reducible refine (spec_DrawColumnBlocks.calls kj28 _ _ l1 t511 t512 t513 t514 t515 _ ?side1 ?side2 A116.out).mono ?_); (case side1 => exact Kd.C_w HR1 HB); (case side2 => exact HC1.out); rintro e w402 ⟨rfl, hb⟩; refine ⟨_, rfl, ?_⟩; replace HB := hbs_ HB hb; (try clear hb); (try clear hb2); (try clear hk); (try clear hi)) | ((with_reducible refine gate_dst (N := 52) rfl ?_); (try (refine gate_guard (by rfl) ?_; dsimp only)); refine box_event ?hg (N := 52) ?hd (cs := #[.int .i64 0, .int .i64 0, .int .i64 0]) (t := 26) ?hr ?_; (case hd => rfl); (case hg => rfl); (case hr => first | (go_simp; done) | (go_simp; rfl)); intro gb516 hg w403 hbox hb; have BK516 := Aside0.mk (hbox); have GW516 := gs_ hg HB; have GE516 := gs_ hg HB; replace HB := hbs_ HB hb; clear hb hbox hg; obtain ⟨hcz404_0, hcz404_1, hcz404_2, hfz404_0, hfz404_1, hfz404_2⟩ := bx3 BK516) | ((with_reducible refine gate_callee (f := 23) rfl ?_); refine gl_ (some 297) Tryd.func23 #[.agg #[.int .i64 t511, .int .i64 t512, .int .i64 t513], .int .i64 t514, .int .i64 t515] rfl rfl rfl ?_; (with_reducible refine (impl_ColumnBlocks.calls kj28 t511 t512 t513 t514 t515 t517 t520 _ A117.out).mono ?_); rintro e w405 ⟨v518, rfl, ho0, hb⟩; refine ⟨_, rfl, ?_⟩; have HO519 := Kd.R_lo ho0 HB; replace BK516 := Aside0.mk (blk_below (g := gb516) (o := .cells #[.int .i64 t511, .int .i64 t512, .int .i64 t513] 26 (0, 0)) (kpq_ (kputs BK516 [(0, _), (1, _), (2, _)])) hb); replace HB := hbs_ HB hb; (try clear hb); (try clear hb2); (try clear hk); (try clear hi); (try clear ho0); obtain ⟨hcz406_0, hcz406_1, hcz406_2, hfz406_0, hfz406_1, hfz406_2⟩ := bx3 BK516; try clear HO519) | ((with_reducible refine gate_callee (f := 32) rfl ?_); refine gl_ (some 304) Tryd.func32 #[.agg #[.int .i64 t511, .int .i64 t512, .int .i64 t513], .int .i64 t514, .int .i64 t515] rfl rfl rfl ?_; (with_reducible refine (spec_ColumnBlocks.calls kj28 t511 t512 t513 t514 t515 t521 t524 _ A118.out).mono ?_); rintro e w407 ⟨v522, rfl, ho0, hb⟩; refine ⟨_, rfl, ?_⟩; have HO523 := Kd.R_lo ho0 HB; replace BK516 := kb_ BK516 hb; replace HB := hbs_ HB hb; (try clear hb); (try clear hb2); (try clear hk); (try clear hi); (try clear ho0)))
         go_ret
         exact ⟨by first | rfl | (simp [errW_none, errW_some] <;> rfl) | (simp [*, errW_none, errW_some] <;> rfl), hb_ HB⟩
       ·rw [if_neg c119] at H
        have c119b0 : (t478 == t480) = false := by simpa using c119
        (try (have c119b1 : decide (t478 = t480) = false := by simpa using c119))
        (try (have c119b2 : (t478 == t480) = false := by simpa using c119))
        (try (have c119b3 : ¬ (t478 = t480) := by simpa using c119))
        clear c119
        obtain rfl := Option.some.inj H
        go_wp2_with (first | ((with_reducible refine gate_callee (f := 25) rfl ?_); refine gl_ (some 220) Tryd.func25 #[.slice A1 l1.length c1] rfl rfl rfl ?_; (with_reducible refine (spec_DrawBlockAt.calls kj28 _ _ l1 t470 t471 t472 t473 t474 t475 _ ?side1 ?side2 A104.out).mono ?_); (case side1 => exact Kd.C_w HR1 HB); (case side2 => exact HC1.out); rintro e w408 ⟨rfl, hb⟩; refine ⟨_, rfl, ?_⟩; replace HB := hbs_ HB hb; (try clear hb); (try clear hb2); (try clear hk); (try clear hi)) | ((with_reducible refine gate_dst (N := 27) rfl ?_); (try (refine gate_guard (by rfl) ?_; dsimp only)); refine box_event ?hg (N := 27) ?hd (cs := #[.int .i64 0, .int .i64 0, .int .i64 0]) (t := 26) ?hr ?_; (case hd => rfl); (case hg => rfl); (case hr => first | (go_simp; done) | (go_simp; rfl)); intro gb476 hg w409 hbox hb; have BK476 := Aside0.mk (hbox); have GW476 := gs_ hg HB; have GE476 := gs_ hg HB; replace HB := hbs_ HB hb; clear hb hbox hg; obtain ⟨hcz410_0, hcz410_1, hcz410_2, hfz410_0, hfz410_1, hfz410_2⟩ := bx3 BK476) | ((with_reducible refine gate_callee (f := 20) rfl ?_); refine gl_ (some 230) Tryd.func20 #[.agg #[.int .i64 t470, .int .i64 t471, .int .i64 t472], .int .i64 t473, .int .i64 t474, .int .i64 t475] rfl rfl rfl ?_; (with_reducible refine (impl_BlockAt.calls t470 t471 t472 t473 t474 t475 t477 t478 _ A105.out).mono ?_); rintro e w411 ⟨rfl, hb⟩; refine ⟨_, rfl, ?_⟩; replace BK476 := Aside0.mk (blk_below (g := gb476) (o := .cells #[.int .i64 t470, .int .i64 t471, .int .i64 t472] 26 (0, 0)) (kpq_ (kputs BK476 [(0, _), (1, _), (2, _)])) hb); replace HB := hbs_ HB hb; (try clear hb); (try clear hb2); (try clear hk); (try clear hi); obtain ⟨hcz412_0, hcz412_1, hcz412_2, hfz412_0, hfz412_1, hfz412_2⟩ := bx3 BK476) | ((with_reducible refine gate_callee (f := 26) rfl ?_); refine gl_ (some 238) Tryd.func26 #[.agg #[.int .i64 t470, .int .i64 t471, .int .i64 t472], .int .i64 t473, .int .i64 t474, .int .i64 t475] rfl rfl rfl ?_; (with_reducible refine (spec_BlockAt.calls t470 t471 t472 t473 t474 t475 t479 t480 _ A106.out).mono ?_); rintro e w413 ⟨rfl, hb⟩; refine ⟨_, rfl, ?_⟩; replace BK476 := kb_ BK476 hb; replace HB := hbs_ HB hb; (try clear hb); (try clear hb2); (try clear hk); (try clear hi); try clear BK476; try clear GW476; try clear GE476) | ((with_reducible refine gate_callee (f := 27) rfl ?_); refine gl_ (some 243) Tryd.func27 #[.slice A1 l1.length c1] rfl rfl rfl ?_; (with_reducible refine (spec_DrawParseBlock.calls kj28 _ _ l1 t481 t482 t483 t484 _ ?side1 ?side2 A107.out).mono ?_); (case side1 => exact Kd.C_w HR1 HB); (case side2 => exact HC1.out); rintro e w414 ⟨rfl, hb⟩; refine ⟨_, rfl, ?_⟩; replace HB := hbs_ HB hb; (try clear hb); (try clear hb2); (try clear hk); (try clear hi)) | ((with_reducible refine gate_dst (N := 35) rfl ?_); (try (refine gate_guard (by rfl) ?_; dsimp only)); refine box_event ?hg (N := 35) ?hd (cs := #[.int .i64 0, .int .i64 0, .int .i64 0]) (t := 26) ?hr ?_; (case hd => rfl); (case hg => rfl); (case hr => first | (go_simp; done) | (go_simp; rfl)); intro gb485 hg w415 hbox hb; have BK485 := Aside0.mk (hbox); have GW485 := gs_ hg HB; have GE485 := gs_ hg HB; replace HB := hbs_ HB hb; clear hb hbox hg; obtain ⟨hcz416_0, hcz416_1, hcz416_2, hfz416_0, hfz416_1, hfz416_2⟩ := bx3 BK485) | ((with_reducible refine gate_callee (f := 11) rfl ?_); refine gl_ (some 249) Tryd.func11 #[.agg #[.int .i64 t481, .int .i64 t482, .int .i64 t483], .string t484] rfl rfl rfl ?_; (with_reducible refine (impl_ParseBlock.calls kj28 t481 t482 t483 t484 t486 t487 _ A108.out).mono ?_); rintro e w417 ⟨rfl, hb⟩; refine ⟨_, rfl, ?_⟩; replace BK485 := Aside0.mk (blk_below (g := gb485) (o := .cells #[.int .i64 t481, .int .i64 t482, .int .i64 t483] 26 (0, 0)) (kpq_ (kputs BK485 [(0, _), (1, _), (2, _)])) hb); replace HB := hbs_ HB hb; (try clear hb); (try clear hb2); (try clear hk); (try clear hi); obtain ⟨hcz418_0, hcz418_1, hcz418_2, hfz418_0, hfz418_1, hfz418_2⟩ := bx3 BK485) | ((with_reducible refine gate_callee (f := 10) rfl ?_); refine gl_ (some 255) Tryd.func10 #[.agg #[.int .i64 t481, .int .i64 t482, .int .i64 t483], .string t484] rfl rfl rfl ?_; (with_reducible refine (spec_ParseBlock.calls kj28 t481 t482 t483 t484 t488 t489 _ A109.out).mono ?_); rintro e w419 ⟨rfl, hb⟩; refine ⟨_, rfl, ?_⟩; replace BK485 := kb_ BK485 hb; replace HB := hbs_ HB hb; (try clear hb); (try clear hb2); (try clear hk); (try clear hi); try clear BK485; try clear GW485; try clear GE485) | ((with_reducible refine gate_callee (f := 28) rfl ?_); refine gl_ (some 259) Tryd.func28 #[.slice A1 l1.length c1] rfl rfl rfl ?_; (with_reducible refine (spec_DrawGridText.calls kj28 _ _ l1 t490 t491 t492 _ ?side1 ?side2 A110.out).mono ?_); (case side1 => exact Kd.C_w HR1 HB); (case side2 => exact HC1.out); rintro e w420 ⟨rfl, hb⟩; refine ⟨_, rfl, ?_⟩; replace HB := hbs_ HB hb; (try clear hb); (try clear hb2); (try clear hk); (try clear hi)) | ((with_reducible refine gate_dst (N := 41) rfl ?_); (try (refine gate_guard (by rfl) ?_; dsimp only)); refine box_event ?hg (N := 41) ?hd (cs := #[.int .i64 0, .int .i64 0, .int .i64 0]) (t := 26) ?hr ?_; (case hd => rfl); (case hg => rfl); (case hr => first | (go_simp; done) | (go_simp; rfl)); intro gb493 hg w421 hbox hb; have BK493 := Aside0.mk (hbox); have GW493 := gs_ hg HB; have GE493 := gs_ hg HB; replace HB := hbs_ HB hb; clear hb hbox hg; obtain ⟨hcz422_0, hcz422_1, hcz422_2, hfz422_0, hfz422_1, hfz422_2⟩ := bx3 BK493) | ((with_reducible refine gate_callee (f := 13) rfl ?_); refine gl_ (some 262) Tryd.func13 #[.agg #[.int .i64 t490, .int .i64 t491, .int .i64 t492]] rfl rfl rfl ?_; (with_reducible refine (impl_GridText.calls t490 t491 t492 t494 t495 _ A111.out).mono ?_); rintro e w423 ⟨rfl, hb⟩; refine ⟨_, rfl, ?_⟩; replace BK493 := Aside0.mk (blk_below (g := gb493) (o := .cells #[.int .i64 t490, .int .i64 t491, .int .i64 t492] 26 (0, 0)) (kpq_ (kputs BK493 [(0, _), (1, _), (2, _)])) hb); replace HB := hbs_ HB hb; (try clear hb); (try clear hb2); (try clear hk); (try clear hi); obtain ⟨hcz424_0, hcz424_1, hcz424_2, hfz424_0, hfz424_1, hfz424_2⟩ := bx3 BK493) | ((with_reducible refine gate_callee (f := 12) rfl ?_); refine gl_ (some 267) Tryd.func12 #[.agg #[.int .i64 t490, .int .i64 t491, .int .i64 t492]] rfl rfl rfl ?_; (with_reducible refine (spec_GridText.calls kj28 t490 t491 t492 t496 t497 _ A112.out).mono ?_); rintro e w425 ⟨rfl, hb⟩; refine ⟨_, rfl, ?_⟩; replace BK493 := kb_ BK493 hb; replace HB := hbs_ HB hb; (try clear hb); (try clear hb2); (try clear hk); (try clear hi); try clear BK493; try clear GW493; try clear GE493) | ((with_reducible refine gate_callee (f := 29) rfl ?_); refine gl_ (some 272) Tryd.func29 #[.slice A1 l1.length c1] rfl rfl rfl ?_; (with_reducible refine (spec_DrawLevelBlocks.calls kj28 _ _ l1 t498 t499 t500 t501 _ ?side1 ?side2 A113.out).mono ?_); (case side1 => exact Kd.C_w HR1 HB); (case side2 => exact HC1.out); rintro e w426 ⟨rfl, hb⟩; refine ⟨_, rfl, ?_⟩; replace HB := hbs_ HB hb; (try clear hb); (try clear hb2); (try clear hk); (try clear hi)) | ((with_reducible refine gate_dst (N := 46) rfl ?_); (try (refine gate_guard (by rfl) ?_; dsimp only)); refine box_event ?hg (N := 46) ?hd (cs := #[.int .i64 0, .int .i64 0, .int .i64 0]) (t := 26) ?hr ?_; (case hd => rfl); (case hg => rfl); (case hr => first | (go_simp; done) | (go_simp; rfl)); intro gb502 hg w427 hbox hb; have BK502 := Aside0.mk (hbox); have GW502 := gs_ hg HB; have GE502 := gs_ hg HB; replace HB := hbs_ HB hb; clear hb hbox hg; obtain ⟨hcz428_0, hcz428_1, hcz428_2, hfz428_0, hfz428_1, hfz428_2⟩ := bx3 BK502) | ((with_reducible refine gate_callee (f := 22) rfl ?_); refine gl_ (some 278) Tryd.func22 #[.agg #[.int .i64 t498, .int .i64 t499, .int .i64 t500], .int .i64 t501] rfl rfl rfl ?_; (with_reducible refine (impl_LevelBlocks.calls kj28 t498 t499 t500 t501 t503 t506 _ A114.out).mono ?_); rintro e w429 ⟨v504, rfl, ho0, hb⟩; refine ⟨_, rfl, ?_⟩; have HO505 := Kd.R_lo ho0 HB; replace BK502 := Aside0.mk (blk_below (g := gb502) (o := .cells #[.int .i64 t498, .int .i64 t499, .int .i64 t500] 26 (0, 0)) (kpq_ (kputs BK502 [(0, _), (1, _), (2, _)])) hb); replace HB := hbs_ HB hb; (try clear hb); (try clear hb2); (try clear hk); (try clear hi); (try clear ho0); obtain ⟨hcz430_0, hcz430_1, hcz430_2, hfz430_0, hfz430_1, hfz430_2⟩ := bx3 BK502; try clear HO505) | ((with_reducible refine gate_callee (f := 30) rfl ?_); refine gl_ (some 284) Tryd.func30 #[.agg #[.int .i64 t498, .int .i64 t499, .int .i64 t500], .int .i64 t501] rfl rfl rfl ?_; (with_reducible refine (spec_LevelBlocks.calls kj28 t498 t499 t500 t501 t507 t510 _ A115.out).mono ?_); rintro e w431 ⟨v508, rfl, ho0, hb⟩; refine ⟨_, rfl, ?_⟩; have HO509 := Kd.R_lo ho0 HB; replace BK502 := kb_ BK502 hb; replace HB := hbs_ HB hb; (try clear hb); (try clear hb2); (try clear hk); (try clear hi); (try clear ho0); try clear BK502; try clear GW502; try clear GE502; try clear HO509) | ((with_reducible refine gate_callee (f := 31) rfl ?_); refine gl_ (some 289) Tryd.func31 #[.slice A1 l1.length c1] rfl rfl rfl ?_; (with_reducible refine (spec_DrawColumnBlocks.calls kj28 _ _ l1 t511 t512 t513 t514 t515 _ ?side1 ?side2 A116.out).mono ?_); (case side1 => exact Kd.C_w HR1 HB); (case side2 => exact HC1.out); rintro e w432 ⟨rfl, hb⟩; refine ⟨_, rfl, ?_⟩; replace HB := hbs_ HB hb; (try clear hb); (try clear hb2); (try clear hk); (try clear hi)) | ((with_reducible refine gate_dst (N := 52) rfl ?_); (try (refine gate_guard (by rfl) ?_; dsimp only)); refine box_event ?hg (N := 52) ?hd (cs := #[.int .i64 0, .int .i64 0, .int .i64 0]) (t := 26) ?hr ?_; (case hd => rfl); (case hg => rfl); (case hr => first | (go_simp; done) | (go_simp; rfl)); intro gb516 hg w433 hbox hb; have BK516 := Aside0.mk (hbox); have GW516 := gs_ hg HB; have GE516 := gs_ hg HB; replace HB := hbs_ HB hb; clear hb hbox hg; obtain ⟨hcz434_0, hcz434_1, hcz434_2, hfz434_0, hfz434_1, hfz434_2⟩ := bx3 BK516) | ((with_reducible refine gate_callee (f := 23) rfl ?_); refine gl_ (some 297) Tryd.func23 #[.agg #[.int .i64 t511, .int .i64 t512, .int .i64 t513], .int .i64 t514, .int .i64 t515] rfl rfl rfl ?_; (with_reducible refine (impl_ColumnBlocks.calls kj28 t511 t512 t513 t514 t515 t517 t520 _ A117.out).mono ?_); rintro e w435 ⟨v518, rfl, ho0, hb⟩; refine ⟨_, rfl, ?_⟩; have HO519 := Kd.R_lo ho0 HB; replace BK516 := Aside0.mk (blk_below (g := gb516) (o := .cells #[.int .i64 t511, .int .i64 t512, .int .i64 t513] 26 (0, 0)) (kpq_ (kputs BK516 [(0, _), (1, _), (2, _)])) hb); replace HB := hbs_ HB hb; (try clear hb); (try clear hb2); (try clear hk); (try clear hi); (try clear ho0); obtain ⟨hcz436_0, hcz436_1, hcz436_2, hfz436_0, hfz436_1, hfz436_2⟩ := bx3 BK516; try clear HO519) | ((with_reducible refine gate_callee (f := 32) rfl ?_); refine gl_ (some 304) Tryd.func32 #[.agg #[.int .i64 t511, .int .i64 t512, .int .i64 t513], .int .i64 t514, .int .i64 t515] rfl rfl rfl ?_; (with_reducible refine (spec_ColumnBlocks.calls kj28 t511 t512 t513 t514 t515 t521 t524 _ A118.out).mono ?_); rintro e w437 ⟨v522, rfl, ho0, hb⟩; refine ⟨_, rfl, ?_⟩; have HO523 := Kd.R_lo ho0 HB; replace BK516 := kb_ BK516 hb; replace HB := hbs_ HB hb; (try clear hb); (try clear hb2); (try clear hk); (try clear hi); (try clear ho0)))
        go_ret
        exact ⟨by first | rfl | (simp [errW_none, errW_some] <;> rfl) | (simp [*, errW_none, errW_some] <;> rfl), hb_ HB⟩

/-- THE ONE PURE STATEMENT of laws_FnGrids: yours. -/
def laws_FnGrids.Pure : Prop := ∀ (l0 : List Int) (l1 : List Int), l0.length ≤ maxLen → l0.length * 1 ≤ 140737488351232 → (∀ x ∈ l0, (Lit.int .u8 x).wf = true) → l1.length ≤ maxLen → l1.length * 1 ≤ 140737488351232 → (∀ x ∈ l1, (Lit.int .u8 x).wf = true) → ∃ k, laws_FnGrids.f k l0 l1 = some true
theorem laws_FnGrids.walk (P : laws_FnGrids.Pure) (a0 : Option Addr) (len0 cap0 : Nat) (z0 : List Int) (a1 : Option Addr) (len1 cap1 : Nat) (z1 : List Int) (w : World) (w0 : (a0 = none ∧ len0 = 0 ∧ cap0 = 0 ∧ z0 = []) ∨ ∃ x, a0 = some x ∧ len0 ≤ cap0 ∧ cap0 ≤ maxLen ∧ z0.length = cap0 ∧ (∀ i, i < z0.length → w.cell? (x.add i) = some (.int .u8 (z0.getD i 0))) ∧ ∀ n ∈ z0, (Lit.int .u8 n).wf = true) (y0 : len0 * 1 ≤ 140737488351232) (w1 : (a1 = none ∧ len1 = 0 ∧ cap1 = 0 ∧ z1 = []) ∨ ∃ x, a1 = some x ∧ len1 ≤ cap1 ∧ cap1 ≤ maxLen ∧ z1.length = cap1 ∧ (∀ i, i < z1.length → w.cell? (x.add i) = some (.int .u8 (z1.getD i 0))) ∧ ∀ n ∈ z1, (Lit.int .u8 n).wf = true) (y1 : len1 * 1 ≤ 140737488351232) :
  Calls Tryd.prog 6 #[.slice a0 len0 cap0, .slice a1 len1 cap1] w fun e w' => e = .returned (.bool true) ∧ Below w.heap.size w w' := by
 obtain ⟨l0, rfl, hr0, hm0, hw0, hc0⟩ := ReadsInt.ofRowC w0
 obtain ⟨l1, rfl, hr1, hm1, hw1, hc1⟩ := ReadsInt.ofRowC w1
 obtain ⟨k, h⟩ := P l0 l1 hm0 y0 hw0 hm1 y1 hw1
 refine (laws_FnGrids.calls k _ _ l0 _ _ l1 true w (Kd.C_of_reads (d := (0 : Int)) (h1 := fun _ => rfl) hr0) hc0 (Kd.C_of_reads (d := (0 : Int)) (h1 := fun _ => rfl) hr1) hc1 h).mono ?_
 rintro e w' ⟨rfl, hd⟩
 exact ⟨rfl, hd⟩

end Go.Proofs.YtgeoecfphklcmaaDoor.PFnGrids
