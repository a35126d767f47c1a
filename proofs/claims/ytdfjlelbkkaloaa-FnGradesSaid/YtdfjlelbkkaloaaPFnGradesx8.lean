-- Laid for this claim by wip/tools/print2.sh, a changed copy of the kit's print (wip/tools/patch_print.py): not by print.sh.
import Derived.Test.YtdfjlelbkkaloaaPFnGradesx0
import Derived.Test.YtdfjlelbkkaloaaPFnGradesx2
import Derived.Test.YtdfjlelbkkaloaaPFnGradesx5
import Derived.Test.YtdfjlelbkkaloaaPFnGradesx6
import Derived.Test.YtdfjlelbkkaloaaPFnGradesx7
namespace Go.Proofs.Ytdfjlelbkkaloaa.PFnGrades
open Go.RowKit Go.Proofs.YtdfjlelbkkaloaaW.PrintWords Go.Proofs.YtdfjlelbkkaloaaW.PrintLast Go.Proofs.YtdfjlelbkkaloaaW.PrintMore
attribute [local go_sem] max2_int min2_int max_two min_two max_three min_three max_four min_four   -- for this text's walks alone
set_option linter.unusedVariables false
set_option linter.unusedSimpArgs false

/-! ### spec_l1Cur_anyModel: function 56 -/
def spec_l1Cur_anyModel.j0 : Nat → List Int → Int → Int → Int → Int → Int → List Int → List Int → List Int → Option (Int × Int × Int × List Int × List Int × List Int × Int × Int)
 | 0, _, _, _, _, _, _, _, _, _ => none
 | k + 1, x1000, x1001, x1002, x328000, x328001, x328002, x328003, x328004, x328005 => some (x328000, x328001, x328002, x328003, x328004, x328005, x1001, x1002)
def spec_l1Cur_anyModel.f (k : Nat) (s0_0 : List Int) (s0_1 : Int) (s0_2 : Int) : Option (Int × Int × Int × List Int × List Int × List Int × Int × Int) := (spec_l1Cur_model.f k s0_0 s0_1 s0_2).bind fun bt313 => ((spec_grCount.f bt313.1 bt313.2.1 bt313.2.2.1).bind fun t328 => ((spec_l1Cur_pick.f s0_0 bt313.2.2.2.2.2.2.1 bt313.2.2.2.2.2.2.2 30).bind fun bt329 => (if bt329.1 = 0 then ((spec_l1Cur_anyGrid.f k s0_0 bt329.2.1 bt329.2.2).bind fun bt332 => (spec_l1Cur_anyModel.j0 k s0_0 bt332.2.2.2.1 bt332.2.2.2.2 bt332.1 bt332.2.1 bt332.2.2.1 bt313.2.2.2.1 bt313.2.2.2.2.1 bt313.2.2.2.2.2.1)) else (if bt329.1 = 1 then ((spec_l1Cur_pick.f s0_0 bt329.2.1 bt329.2.2 t328).bind fun bt337 => ((spec_l1Cur_among.f s0_0 bt337.2.1 bt337.2.2 (([(-1), 10000, 10001] : List Int))).bind fun bt343 => (if 0 ≤ bt337.1 then (if bt337.1 < (bt313.2.2.2.1.length : Int) then (spec_l1Cur_anyModel.j0 k s0_0 bt343.2.1 bt343.2.2 bt313.1 bt313.2.1 bt313.2.2.1 (bt313.2.2.2.1.set (bt337.1 : Int).toNat bt343.1) bt313.2.2.2.2.1 bt313.2.2.2.2.2.1) else (none)) else (none)))) else (if bt329.1 = 2 then ((spec_l1Cur_pick.f s0_0 bt329.2.1 bt329.2.2 t328).bind fun bt347 => ((spec_l1Cur_among.f s0_0 bt347.2.1 bt347.2.2 (([(-1), 1000, 1001] : List Int))).bind fun bt353 => (if 0 ≤ bt347.1 then (if bt347.1 < (bt313.2.2.2.2.1.length : Int) then (spec_l1Cur_anyModel.j0 k s0_0 bt353.2.1 bt353.2.2 bt313.1 bt313.2.1 bt313.2.2.1 bt313.2.2.2.1 (bt313.2.2.2.2.1.set (bt347.1 : Int).toNat bt353.1) bt313.2.2.2.2.2.1) else (none)) else (none)))) else (if bt329.1 = 3 then ((spec_l1Cur_pick.f s0_0 bt329.2.1 bt329.2.2 t328).bind fun bt357 => ((spec_l1Cur_among.f s0_0 bt357.2.1 bt357.2.2 (([(-1), 4, 5] : List Int))).bind fun bt363 => (if 0 ≤ bt357.1 then (if bt357.1 < (bt313.2.2.2.2.2.1.length : Int) then (spec_l1Cur_anyModel.j0 k s0_0 bt363.2.1 bt363.2.2 bt313.1 bt313.2.1 bt313.2.2.1 bt313.2.2.2.1 bt313.2.2.2.2.1 (bt313.2.2.2.2.2.1.set (bt357.1 : Int).toNat bt363.1)) else (none)) else (none)))) else (if bt329.1 = 4 then (if bt313.2.2.2.2.2.1.length < 17592186044416 then (spec_l1Cur_anyModel.j0 k s0_0 bt329.2.1 bt329.2.2 bt313.1 bt313.2.1 bt313.2.2.1 bt313.2.2.2.1 bt313.2.2.2.2.1 (bt313.2.2.2.2.2.1 ++ [0])) else (none)) else (spec_l1Cur_anyModel.j0 k s0_0 bt329.2.1 bt329.2.2 bt313.1 bt313.2.1 bt313.2.2.1 bt313.2.2.2.1 bt313.2.2.2.2.1 bt313.2.2.2.2.2.1))))))))
def spec_l1Cur_anyModel.T7 : Bool × List (List Nat × List Nat) := (true, [([], []), ([0], [0]), ([], []), ([], []), ([2, 3], [2, 3]), ([], []), ([], []), ([5, 6, 4], [5, 6]), ([1, 4, 0, 1, 2, 3, 4, 5, 6, 7], [1, 4]), ([8, 7, 7, 0, 1, 2, 3, 4, 5, 6, 7], [7, 8])])
def spec_l1Cur_anyModel.B7 : List Nat := [0, 1, 0, 0, 12, 0, 0, 124, 255, 511]
theorem spec_l1Cur_anyModel.tab7 : rtab .any (opsOf Try.f56 7) = spec_l1Cur_anyModel.T7 := by kernel_rfl
theorem spec_l1Cur_anyModel.bits7 : waitsOk spec_l1Cur_anyModel.T7.2 spec_l1Cur_anyModel.B7 = true := by kernel_rfl
def spec_l1Cur_anyModel.T9 : Bool × List (List Nat × List Nat) := (true, [([], []), ([0], [0]), ([], []), ([], []), ([2, 3], [2, 3]), ([], []), ([], []), ([5, 6, 4], [5, 6]), ([1, 4, 0, 1, 2, 3, 4, 5, 6, 7], [1, 4]), ([8, 7, 7, 0, 1, 2, 3, 4, 5, 6, 7], [7, 8])])
def spec_l1Cur_anyModel.B9 : List Nat := [0, 1, 0, 0, 12, 0, 0, 124, 255, 511]
theorem spec_l1Cur_anyModel.tab9 : rtab .any (opsOf Try.f56 9) = spec_l1Cur_anyModel.T9 := by kernel_rfl
theorem spec_l1Cur_anyModel.bits9 : waitsOk spec_l1Cur_anyModel.T9.2 spec_l1Cur_anyModel.B9 = true := by kernel_rfl
def spec_l1Cur_anyModel.T11 : Bool × List (List Nat × List Nat) := (true, [([], []), ([0], [0]), ([], []), ([], []), ([2, 3], [2, 3]), ([], []), ([], []), ([5, 6, 4], [5, 6]), ([1, 4, 0, 1, 2, 3, 4, 5, 6, 7], [1, 4]), ([8, 7, 7, 0, 1, 2, 3, 4, 5, 6, 7], [7, 8])])
def spec_l1Cur_anyModel.B11 : List Nat := [0, 1, 0, 0, 12, 0, 0, 124, 255, 511]
theorem spec_l1Cur_anyModel.tab11 : rtab .any (opsOf Try.f56 11) = spec_l1Cur_anyModel.T11 := by kernel_rfl
theorem spec_l1Cur_anyModel.bits11 : waitsOk spec_l1Cur_anyModel.T11.2 spec_l1Cur_anyModel.B11 = true := by kernel_rfl
set_option maxHeartbeats 8000000 in
set_option maxRecDepth 100000 in
theorem spec_l1Cur_anyModel.calls (k : Nat) (g : Nat) (s0_0 : List Int) (s0_1 : Int) (s0_2 : Int) (r1 : Int) (r2 : Int) (r3 : Int) (r4 : List Int) (r5 : List Int) (r6 : List Int) (r7 : Int) (r8 : Int) (w0 w : World) (hI : IsS76 w0 w g s0_0 s0_1 s0_2) (hB : Below w0.heap.size w0 w) (h : spec_l1Cur_anyModel.f k s0_0 s0_1 s0_2 = some (r1, r2, r3, r4, r5, r6, r7, r8)) :
  Calls Try.prog 56 #[.pointer (some ⟨g, 0, none⟩)] w fun e w' => ∃ v3_ v4_ v5_ : Value, e = .returned (.agg #[.int .i64 r1, .int .i64 r2, .int .i64 r3, v3_, v4_, v5_]) ∧ Kd.R (Kd.int .i64) 3 w' w.heap.size (fun k_ => some k_ ≠ (v4_ : Value).ownBlock ∧ some k_ ≠ (v5_ : Value).ownBlock) v3_ r4 ∧ Kd.R (Kd.int .i64) 3 w' w.heap.size (fun k_ => some k_ ≠ (v3_ : Value).ownBlock ∧ some k_ ≠ (v5_ : Value).ownBlock) v4_ r5 ∧ Kd.R (Kd.int .i64) 3 w' w.heap.size (fun k_ => some k_ ≠ (v3_ : Value).ownBlock ∧ some k_ ≠ (v4_ : Value).ownBlock) v5_ r6 ∧ IsS76 w0 w' g s0_0 r7 r8 ∧ Below w0.heap.size w0 w' ∧ KeepBut w w' g none := by
 have hu30 := Try.underlying30
 have hu28 := Try.underlying28
 have HI0 := Aside0.mk hI
 have HK := Aside0.mk (KeepBut.refl w g none)
 have HL := Aside0.mk hB.size
 clear hI
 have HW0 := Aside0.mk hB.size
 have HB := Aside0.mk hB
 clear hB
 have H : ((spec_l1Cur_model.f k s0_0 s0_1 s0_2).bind fun bt313 => ((spec_grCount.f bt313.1 bt313.2.1 bt313.2.2.1).bind fun t328 => ((spec_l1Cur_pick.f s0_0 bt313.2.2.2.2.2.2.1 bt313.2.2.2.2.2.2.2 30).bind fun bt329 => (if bt329.1 = 0 then ((spec_l1Cur_anyGrid.f k s0_0 bt329.2.1 bt329.2.2).bind fun bt332 => (spec_l1Cur_anyModel.j0 k s0_0 bt332.2.2.2.1 bt332.2.2.2.2 bt332.1 bt332.2.1 bt332.2.2.1 bt313.2.2.2.1 bt313.2.2.2.2.1 bt313.2.2.2.2.2.1)) else (if bt329.1 = 1 then ((spec_l1Cur_pick.f s0_0 bt329.2.1 bt329.2.2 t328).bind fun bt337 => ((spec_l1Cur_among.f s0_0 bt337.2.1 bt337.2.2 (([(-1), 10000, 10001] : List Int))).bind fun bt343 => (if 0 ≤ bt337.1 then (if bt337.1 < (bt313.2.2.2.1.length : Int) then (spec_l1Cur_anyModel.j0 k s0_0 bt343.2.1 bt343.2.2 bt313.1 bt313.2.1 bt313.2.2.1 (bt313.2.2.2.1.set (bt337.1 : Int).toNat bt343.1) bt313.2.2.2.2.1 bt313.2.2.2.2.2.1) else (none)) else (none)))) else (if bt329.1 = 2 then ((spec_l1Cur_pick.f s0_0 bt329.2.1 bt329.2.2 t328).bind fun bt347 => ((spec_l1Cur_among.f s0_0 bt347.2.1 bt347.2.2 (([(-1), 1000, 1001] : List Int))).bind fun bt353 => (if 0 ≤ bt347.1 then (if bt347.1 < (bt313.2.2.2.2.1.length : Int) then (spec_l1Cur_anyModel.j0 k s0_0 bt353.2.1 bt353.2.2 bt313.1 bt313.2.1 bt313.2.2.1 bt313.2.2.2.1 (bt313.2.2.2.2.1.set (bt347.1 : Int).toNat bt353.1) bt313.2.2.2.2.2.1) else (none)) else (none)))) else (if bt329.1 = 3 then ((spec_l1Cur_pick.f s0_0 bt329.2.1 bt329.2.2 t328).bind fun bt357 => ((spec_l1Cur_among.f s0_0 bt357.2.1 bt357.2.2 (([(-1), 4, 5] : List Int))).bind fun bt363 => (if 0 ≤ bt357.1 then (if bt357.1 < (bt313.2.2.2.2.2.1.length : Int) then (spec_l1Cur_anyModel.j0 k s0_0 bt363.2.1 bt363.2.2 bt313.1 bt313.2.1 bt313.2.2.1 bt313.2.2.2.1 bt313.2.2.2.2.1 (bt313.2.2.2.2.2.1.set (bt357.1 : Int).toNat bt363.1)) else (none)) else (none)))) else (if bt329.1 = 4 then (if bt313.2.2.2.2.2.1.length < 17592186044416 then (spec_l1Cur_anyModel.j0 k s0_0 bt329.2.1 bt329.2.2 bt313.1 bt313.2.1 bt313.2.2.1 bt313.2.2.2.1 bt313.2.2.2.2.1 (bt313.2.2.2.2.2.1 ++ [0])) else (none)) else (spec_l1Cur_anyModel.j0 k s0_0 bt329.2.1 bt329.2.2 bt313.1 bt313.2.1 bt313.2.2.1 bt313.2.2.2.1 bt313.2.2.2.2.1 bt313.2.2.2.2.2.1))))))))) = some (r1, r2, r3, r4, r5, r6, r7, r8) := h
 clear h
 replace H := Option.bind_eq_some_iff.mp H
 obtain ⟨⟨t313, t314, t315, t316, t319, t322, t325, t326⟩, A20, H⟩ := H
 replace H : ((spec_grCount.f t313 t314 t315).bind fun t328 => ((spec_l1Cur_pick.f s0_0 t325 t326 30).bind fun bt329 => (if bt329.1 = 0 then ((spec_l1Cur_anyGrid.f k s0_0 bt329.2.1 bt329.2.2).bind fun bt332 => (spec_l1Cur_anyModel.j0 k s0_0 bt332.2.2.2.1 bt332.2.2.2.2 bt332.1 bt332.2.1 bt332.2.2.1 t316 t319 t322)) else (if bt329.1 = 1 then ((spec_l1Cur_pick.f s0_0 bt329.2.1 bt329.2.2 t328).bind fun bt337 => ((spec_l1Cur_among.f s0_0 bt337.2.1 bt337.2.2 (([(-1), 10000, 10001] : List Int))).bind fun bt343 => (if 0 ≤ bt337.1 then (if bt337.1 < (t316.length : Int) then (spec_l1Cur_anyModel.j0 k s0_0 bt343.2.1 bt343.2.2 t313 t314 t315 (t316.set (bt337.1 : Int).toNat bt343.1) t319 t322) else (none)) else (none)))) else (if bt329.1 = 2 then ((spec_l1Cur_pick.f s0_0 bt329.2.1 bt329.2.2 t328).bind fun bt347 => ((spec_l1Cur_among.f s0_0 bt347.2.1 bt347.2.2 (([(-1), 1000, 1001] : List Int))).bind fun bt353 => (if 0 ≤ bt347.1 then (if bt347.1 < (t319.length : Int) then (spec_l1Cur_anyModel.j0 k s0_0 bt353.2.1 bt353.2.2 t313 t314 t315 t316 (t319.set (bt347.1 : Int).toNat bt353.1) t322) else (none)) else (none)))) else (if bt329.1 = 3 then ((spec_l1Cur_pick.f s0_0 bt329.2.1 bt329.2.2 t328).bind fun bt357 => ((spec_l1Cur_among.f s0_0 bt357.2.1 bt357.2.2 (([(-1), 4, 5] : List Int))).bind fun bt363 => (if 0 ≤ bt357.1 then (if bt357.1 < (t322.length : Int) then (spec_l1Cur_anyModel.j0 k s0_0 bt363.2.1 bt363.2.2 t313 t314 t315 t316 t319 (t322.set (bt357.1 : Int).toNat bt363.1)) else (none)) else (none)))) else (if bt329.1 = 4 then (if t322.length < 17592186044416 then (spec_l1Cur_anyModel.j0 k s0_0 bt329.2.1 bt329.2.2 t313 t314 t315 t316 t319 (t322 ++ [0])) else (none)) else (spec_l1Cur_anyModel.j0 k s0_0 bt329.2.1 bt329.2.2 t313 t314 t315 t316 t319 t322)))))))) = some (r1, r2, r3, r4, r5, r6, r7, r8) := H
 have A2 := Aside0.mk A20
 clear A20
 replace H := Option.bind_eq_some_iff.mp H
 obtain ⟨t328, A30, H⟩ := H
 replace H : ((spec_l1Cur_pick.f s0_0 t325 t326 30).bind fun bt329 => (if bt329.1 = 0 then ((spec_l1Cur_anyGrid.f k s0_0 bt329.2.1 bt329.2.2).bind fun bt332 => (spec_l1Cur_anyModel.j0 k s0_0 bt332.2.2.2.1 bt332.2.2.2.2 bt332.1 bt332.2.1 bt332.2.2.1 t316 t319 t322)) else (if bt329.1 = 1 then ((spec_l1Cur_pick.f s0_0 bt329.2.1 bt329.2.2 t328).bind fun bt337 => ((spec_l1Cur_among.f s0_0 bt337.2.1 bt337.2.2 (([(-1), 10000, 10001] : List Int))).bind fun bt343 => (if 0 ≤ bt337.1 then (if bt337.1 < (t316.length : Int) then (spec_l1Cur_anyModel.j0 k s0_0 bt343.2.1 bt343.2.2 t313 t314 t315 (t316.set (bt337.1 : Int).toNat bt343.1) t319 t322) else (none)) else (none)))) else (if bt329.1 = 2 then ((spec_l1Cur_pick.f s0_0 bt329.2.1 bt329.2.2 t328).bind fun bt347 => ((spec_l1Cur_among.f s0_0 bt347.2.1 bt347.2.2 (([(-1), 1000, 1001] : List Int))).bind fun bt353 => (if 0 ≤ bt347.1 then (if bt347.1 < (t319.length : Int) then (spec_l1Cur_anyModel.j0 k s0_0 bt353.2.1 bt353.2.2 t313 t314 t315 t316 (t319.set (bt347.1 : Int).toNat bt353.1) t322) else (none)) else (none)))) else (if bt329.1 = 3 then ((spec_l1Cur_pick.f s0_0 bt329.2.1 bt329.2.2 t328).bind fun bt357 => ((spec_l1Cur_among.f s0_0 bt357.2.1 bt357.2.2 (([(-1), 4, 5] : List Int))).bind fun bt363 => (if 0 ≤ bt357.1 then (if bt357.1 < (t322.length : Int) then (spec_l1Cur_anyModel.j0 k s0_0 bt363.2.1 bt363.2.2 t313 t314 t315 t316 t319 (t322.set (bt357.1 : Int).toNat bt363.1)) else (none)) else (none)))) else (if bt329.1 = 4 then (if t322.length < 17592186044416 then (spec_l1Cur_anyModel.j0 k s0_0 bt329.2.1 bt329.2.2 t313 t314 t315 t316 t319 (t322 ++ [0])) else (none)) else (spec_l1Cur_anyModel.j0 k s0_0 bt329.2.1 bt329.2.2 t313 t314 t315 t316 t319 t322))))))) = some (r1, r2, r3, r4, r5, r6, r7, r8) := H
 have A3 := Aside0.mk A30
 clear A30
 replace H := Option.bind_eq_some_iff.mp H
 obtain ⟨⟨t329, t330, t331⟩, A40, H⟩ := H
 replace H : (if t329 = 0 then ((spec_l1Cur_anyGrid.f k s0_0 t330 t331).bind fun bt332 => (spec_l1Cur_anyModel.j0 k s0_0 bt332.2.2.2.1 bt332.2.2.2.2 bt332.1 bt332.2.1 bt332.2.2.1 t316 t319 t322)) else (if t329 = 1 then ((spec_l1Cur_pick.f s0_0 t330 t331 t328).bind fun bt337 => ((spec_l1Cur_among.f s0_0 bt337.2.1 bt337.2.2 (([(-1), 10000, 10001] : List Int))).bind fun bt343 => (if 0 ≤ bt337.1 then (if bt337.1 < (t316.length : Int) then (spec_l1Cur_anyModel.j0 k s0_0 bt343.2.1 bt343.2.2 t313 t314 t315 (t316.set (bt337.1 : Int).toNat bt343.1) t319 t322) else (none)) else (none)))) else (if t329 = 2 then ((spec_l1Cur_pick.f s0_0 t330 t331 t328).bind fun bt347 => ((spec_l1Cur_among.f s0_0 bt347.2.1 bt347.2.2 (([(-1), 1000, 1001] : List Int))).bind fun bt353 => (if 0 ≤ bt347.1 then (if bt347.1 < (t319.length : Int) then (spec_l1Cur_anyModel.j0 k s0_0 bt353.2.1 bt353.2.2 t313 t314 t315 t316 (t319.set (bt347.1 : Int).toNat bt353.1) t322) else (none)) else (none)))) else (if t329 = 3 then ((spec_l1Cur_pick.f s0_0 t330 t331 t328).bind fun bt357 => ((spec_l1Cur_among.f s0_0 bt357.2.1 bt357.2.2 (([(-1), 4, 5] : List Int))).bind fun bt363 => (if 0 ≤ bt357.1 then (if bt357.1 < (t322.length : Int) then (spec_l1Cur_anyModel.j0 k s0_0 bt363.2.1 bt363.2.2 t313 t314 t315 t316 t319 (t322.set (bt357.1 : Int).toNat bt363.1)) else (none)) else (none)))) else (if t329 = 4 then (if t322.length < 17592186044416 then (spec_l1Cur_anyModel.j0 k s0_0 t330 t331 t313 t314 t315 t316 t319 (t322 ++ [0])) else (none)) else (spec_l1Cur_anyModel.j0 k s0_0 t330 t331 t313 t314 t315 t316 t319 t322)))))) = some (r1, r2, r3, r4, r5, r6, r7, r8) := H
 have A4 := Aside0.mk A40
 clear A40
 have HC5 := Aside0.mk H
 clear H
 go_enter Try.func56, Try.ntmps56
 go_upto_block 0 with (first | ((with_reducible refine gate_dst (N := 2) rfl ?_); refine box_event ?hg (N := 2) ?hd (cs := #[.int .i64 0, .int .i64 0, .int .i64 0, .slice none 0 0, .slice none 0 0, .slice none 0 0]) (t := 30) ?hr ?_; (case hd => rfl); (case hg => rfl); (case hr => first | (go_simp; done) | (go_simp; rfl)); intro gb312 hg w6 hbox hb; have BK312 := Aside0.mk (hbox); have GW312 := Aside0.mk ((by rw [hg]; exact (keep_size (hk_ HK)) : w.heap.size ≤ gb312)); have GE312 := Aside0.mk ((Nat.le_trans HW0.out (by rw [hg]; exact (keep_size (hk_ HK)) : w.heap.size ≤ gb312) : w0.heap.size ≤ gb312)); have NB0_312 := Aside0.mk ((by rw [hg]; exact Nat.ne_of_lt (IsS76.lt (show IsS76 w0 _ g s0_0 s0_1 s0_2 from IsS76.q HI0)) : g ≠ gb312)); have NB312_0 := Aside0.mk ((by rw [hg]; exact Nat.ne_of_gt (IsS76.lt (show IsS76 w0 _ g s0_0 s0_1 s0_2 from IsS76.q HI0)) : gb312 ≠ g)); replace HK := hkb_ HK hb; replace HB := Aside0.mk (below_step (hbI_ HB (IsS76.ge HI0.out)) hb); replace HI0 := IsS76.b HI0 hb; clear hb hbox hg) | ((with_reducible refine gate_callee (f := 71) rfl ?_); refine gl_ (some 6) Try.func71 #[.pointer (some ⟨g, 0, none⟩)] rfl rfl rfl ?_; (with_reducible refine (spec_l1Cur_model.calls k g s0_0 s0_1 s0_2 t313 t314 t315 t316 t319 t322 t325 t326 w0 _ ?side1 ?side2 A2.out).mono ?_); (case side1 => exact IsS76.q HI0); (case side2 => exact hbI_ HB (IsS76.ge HI0.out)); rintro e w7 ⟨v317, v320, v323, rfl, ho0, ho1, ho2, hi, hb, hk⟩; refine ⟨_, rfl, ?_⟩; have HO318 := Aside0.mk (Kd.R_lower ho0 (keep_size (hk_ HK))); have HO321 := Aside0.mk (Kd.R_lower ho1 (keep_size (hk_ HK))); have HO324 := Aside0.mk (Kd.R_lower ho2 (keep_size (hk_ HK))); replace BK312 := kk_ BK312 hk NB312_0; replace HK := Aside0.mk (KeepBut.trans (hk_ HK) hk (.inl rfl)); replace HB := Aside0.mk (hb); replace HI0 := Aside0.mk (hi); (try clear hb); (try clear hb2); (try clear hk); (try clear hi); (try clear ho0); (try clear ho1); (try clear ho2)) | ((with_reducible refine gate_dst (N := 3) rfl ?_); refine box_event ?hg (N := 3) ?hd (cs := #[.int .i64 0, .int .i64 0, .int .i64 0, .slice none 0 0, .slice none 0 0, .slice none 0 0]) (t := 30) ?hr ?_; (case hd => rfl); (case hg => rfl); (case hr => first | (go_simp; done) | (go_simp; rfl)); intro gb327 hg w8 hbox hb; have BK327 := Aside0.mk (hbox); have GW327 := Aside0.mk ((by rw [hg]; exact (keep_size (hk_ HK)) : w.heap.size ≤ gb327)); have GE327 := Aside0.mk ((Nat.le_trans HW0.out (by rw [hg]; exact (keep_size (hk_ HK)) : w.heap.size ≤ gb327) : w0.heap.size ≤ gb327)); have NB312_327 := nl_ hg BK312; have NB327_312 := ng_ hg BK312; have NB0_327 := Aside0.mk ((by rw [hg]; exact Nat.ne_of_lt (IsS76.lt (show IsS76 w0 _ g s0_0 t325 t326 from IsS76.q HI0)) : g ≠ gb327)); have NB327_0 := Aside0.mk ((by rw [hg]; exact Nat.ne_of_gt (IsS76.lt (show IsS76 w0 _ g s0_0 t325 t326 from IsS76.q HI0)) : gb327 ≠ g)); replace HO318 := Kd.R_b HO318 hb; replace HO321 := Kd.R_b HO321 hb; replace HO324 := Kd.R_b HO324 hb; replace BK312 := kb_ BK312 hb; replace HK := hkb_ HK hb; replace HB := Aside0.mk (below_step (hbI_ HB (IsS76.ge HI0.out)) hb); replace HI0 := IsS76.b HI0 hb; clear hb hbox hg; have hnb9 := NB327_312.out; have hnc9 := NB312_327.out; have hnb10 := NB327_0.out; have hnc10 := NB0_327.out; obtain ⟨hcz11_0, hcz11_1, hcz11_2, hcz11_3, hcz11_4, hcz11_5, hfz11_0, hfz11_1, hfz11_2, hfz11_3, hfz11_4, hfz11_5⟩ := bx6 BK327; obtain ⟨Ao12, co12, eo12⟩ := Kd.R_slice HO318.out; subst eo12; obtain ⟨Ao13, co13, eo13⟩ := Kd.R_slice HO321.out; subst eo13; obtain ⟨Ao14, co14, eo14⟩ := Kd.R_slice HO324.out; subst eo14) | ((with_reducible refine gate_callee (f := 64) rfl ?_); refine gl_ (some 9) Try.func64 #[.agg #[.int .i64 t313, .int .i64 t314, .int .i64 t315]] rfl rfl rfl ?_; (with_reducible refine (spec_grCount.calls t313 t314 t315 t328 _ A3.out).mono ?_); rintro e w15 ⟨rfl, hb⟩; refine ⟨_, rfl, ?_⟩; replace HO318 := Kd.R_sb HO318 BK327 hb; replace HO321 := Kd.R_sb HO321 BK327 hb; replace HO324 := Kd.R_sb HO324 BK327 hb; replace BK312 := kfb_ BK312 NB312_327 hb; replace HK := hkb_ HK hb; replace HB := Aside0.mk (below_step (hbI_ HB (IsS76.ge HI0.out)) hb); replace HI0 := Aside0.mk (IsS76.below (show IsS76 w0 ((((((w8.setCell ⟨gb327, 0, none⟩ (.int .i64 t313)).setCell ⟨gb327, 1, none⟩ (.int .i64 t314)).setCell ⟨gb327, 2, none⟩ (.int .i64 t315)).setCell ⟨gb327, 3, none⟩ (.slice Ao12 t316.length co12)).setCell ⟨gb327, 4, none⟩ (.slice Ao13 t319.length co13)).setCell ⟨gb327, 5, none⟩ (.slice Ao14 t322.length co14)) g s0_0 t325 t326 from IsS76.q HI0) hb); replace BK327 := Aside0.mk (blk_below (g := gb327) (o := .cells #[.int .i64 t313, .int .i64 t314, .int .i64 t315, .slice Ao12 t316.length co12, .slice Ao13 t319.length co13, .slice Ao14 t322.length co14] 30 (0, 0)) (kpq_ (kputs BK327 [(0, _), (1, _), (2, _), (3, _), (4, _), (5, _)])) hb); (try clear hb); (try clear hb2); (try clear hk); (try clear hi)) | ((with_reducible refine gate_callee (f := 60) rfl ?_); refine gl_ (some 11) Try.func60 #[.pointer (some ⟨g, 0, none⟩), .int .i64 30] rfl rfl rfl ?_; (with_reducible refine (spec_l1Cur_pick.calls g s0_0 t325 t326 30 t329 t330 t331 w0 _ ?side1 ?side2 A4.out).mono ?_); (case side1 => exact IsS76.q HI0); (case side2 => exact hbI_ HB (IsS76.ge HI0.out)); rintro e w16 ⟨rfl, hi, hb, hk⟩; refine ⟨_, rfl, ?_⟩; have n0_ := Aside0.mk (KeepBut.blk hk (kp_ BK312) NB312_0.out (by simp)); have n1_ := IsS76.rk HI0 HO318 hk; have n2_ := IsS76.rk HI0 HO321 hk; have n3_ := IsS76.rk HI0 HO324 hk; have n4_ := Aside0.mk (KeepBut.blk hk (kp_ BK327) NB327_0.out (by simp)); have n5_ := Aside0.mk (KeepBut.trans (hk_ HK) hk (.inl rfl)); have n6_ := Aside0.mk (hb); have n7_ := Aside0.mk (hi); clear BK312 HO318 HO321 HO324 BK327 HK HB HI0; have BK312 := n0_; have HO318 := n1_; have HO321 := n2_; have HO324 := n3_; have BK327 := n4_; have HK := n5_; have HB := n6_; have HI0 := n7_; clear n0_ n1_ n2_ n3_ n4_ n5_ n6_ n7_; (try clear hb); (try clear hb2); (try clear hk); (try clear hi)))
 (try simp only [Act.put, List.setIfInBounds_toArray, List.set_cons_zero, List.set_cons_succ])
 go_cut [] (fun wc => ∃ (kq : Nat) (x1001_4 : Int) (x1002_4 : Int) (x328000_4 : Int) (x328001_4 : Int) (x328002_4 : Int) (x328003_4 : List Int) (x328004_4 : List Int) (x328005_4 : List Int) (u328003 : Value) (u328004 : Value) (u328005 : Value), Aside0 (spec_l1Cur_anyModel.j0 kq s0_0 x1001_4 x1002_4 x328000_4 x328001_4 x328002_4 x328003_4 x328004_4 x328005_4 = some (r1, r2, r3, r4, r5, r6, r7, r8)) ∧ Aside0 (kq ≤ k) ∧ Aside0 (Kd.R (Kd.int .i64) 3 wc w.heap.size (fun k_ => some k_ ≠ (u328004 : Value).ownBlock ∧ some k_ ≠ (u328005 : Value).ownBlock) u328003 x328003_4) ∧ Aside0 (Kd.R (Kd.int .i64) 3 wc w.heap.size (fun k_ => some k_ ≠ (u328003 : Value).ownBlock ∧ some k_ ≠ (u328005 : Value).ownBlock) u328004 x328004_4) ∧ Aside0 (Kd.R (Kd.int .i64) 3 wc w.heap.size (fun k_ => some k_ ≠ (u328003 : Value).ownBlock ∧ some k_ ≠ (u328004 : Value).ownBlock) u328005 x328005_4) ∧ Aside0 (wc.heap[gb312]? = some (.cells #[.int .i64 0, .int .i64 0, .int .i64 0, (.slice none 0 0), (.slice none 0 0), (.slice none 0 0)] 30 (0, 0))) ∧ Aside0 (wc.heap[gb327]? = some (.cells #[.int .i64 x328000_4, .int .i64 x328001_4, .int .i64 x328002_4, u328003, u328004, u328005] 30 (0, 0))) ∧ Aside0 (IsS76 w0 wc g s0_0 x1001_4 x1002_4) ∧ Aside0 (KeepBut w wc g none) ∧ Aside0 (Below w0.heap.size w0 wc))
 case first =>
  have H := HC5.out
  clear HC5
  by_cases c17 : t329 = 0
  ·rw [if_pos c17] at H
   have c17b0 : (t329 == 0) = true := beq_iff_eq.mpr c17
   have c17b1 : (t329 != 0) = false := bne_eq_false_iff_eq.mpr c17
   clear c17
   (first | rw [c17b0] | (simp only [i64_w, i32_w]; rw [c17b0]) | skip)
   replace H := Option.bind_eq_some_iff.mp H
   obtain ⟨⟨t332, t333, t334, t335, t336⟩, A180, H⟩ := H
   replace H : (spec_l1Cur_anyModel.j0 k s0_0 t335 t336 t332 t333 t334 t316 t319 t322) = some (r1, r2, r3, r4, r5, r6, r7, r8) := H
   have A18 := Aside0.mk A180
   clear A180
   have H' := Aside0.mk H
   clear H
   go_wp2_with (first | ((with_reducible refine gate_callee (f := 72) rfl ?_); refine gl_ (some 15) Try.func72 #[.pointer (some ⟨g, 0, none⟩)] rfl rfl rfl ?_; (with_reducible refine (spec_l1Cur_anyGrid.calls k g s0_0 t330 t331 t332 t333 t334 t335 t336 w0 _ ?side1 ?side2 A18.out).mono ?_); (case side1 => exact IsS76.q HI0); (case side2 => exact hbI_ HB (IsS76.ge HI0.out)); rintro e w19 ⟨rfl, hi, hb, hk⟩; refine ⟨_, rfl, ?_⟩; have n0_ := Aside0.mk (KeepBut.blk hk (kp_ BK312) NB312_0.out (by simp)); have n1_ := IsS76.rk HI0 HO318 hk; have n2_ := IsS76.rk HI0 HO321 hk; have n3_ := IsS76.rk HI0 HO324 hk; have n4_ := Aside0.mk (KeepBut.blk hk (kp_ BK327) NB327_0.out (by simp)); have n5_ := Aside0.mk (KeepBut.trans (hk_ HK) hk (.inl rfl)); have n6_ := Aside0.mk (hb); have n7_ := Aside0.mk (hi); clear BK312 HO318 HO321 HO324 BK327 HK HB HI0; have BK312 := n0_; have HO318 := n1_; have HO321 := n2_; have HO324 := n3_; have BK327 := n4_; have HK := n5_; have HB := n6_; have HI0 := n7_; clear n0_ n1_ n2_ n3_ n4_ n5_ n6_ n7_; (try clear hb); (try clear hb2); (try clear hk); (try clear hi); have hnb20 := NB327_312.out; have hnc20 := NB312_327.out; have hnb21 := NB327_0.out; have hnc21 := NB0_327.out; obtain ⟨hcz22_0, hcz22_1, hcz22_2, hcz22_3, hcz22_4, hcz22_5, hfz22_0, hfz22_1, hfz22_2, hfz22_3, hfz22_4, hfz22_5⟩ := bx6 BK327))
   go_meet
   case rel => exact ⟨_, (t335), (t336), (t332), (t333), (t334), (t316), (t319), (t322), (.slice Ao12 t316.length co12), (.slice Ao13 t319.length co13), (.slice Ao14 t322.length co14), H', ⟨by first | omega | exact Nat.le_refl _⟩, ⟨Kd.R_mono (Kd.R_s HO318 BK327) (fun _ hk => ⟨hk.1, hk.2⟩)⟩, ⟨Kd.R_mono (Kd.R_s HO321 BK327) (fun _ hk => ⟨hk.1, hk.2⟩)⟩, ⟨Kd.R_mono (Kd.R_s HO324 BK327) (fun _ hk => ⟨hk.1, hk.2⟩)⟩, ⟨kf_ BK312 NB312_327⟩, ⟨kpq_ (kputs BK327 [(0, _), (1, _), (2, _)])⟩, ⟨IsS76.q HI0⟩, ⟨hk_ HK⟩, ⟨hbI_ HB (IsS76.ge HI0.out)⟩⟩
  ·rw [if_neg c17] at H
   have c17b0 : (t329 == 0) = false := beq_eq_false_iff_ne.mpr c17
   have c17b1 : (t329 != 0) = true := bne_iff_ne.mpr c17
   (first | rw [c17b0] | (simp only [i64_w, i32_w]; rw [c17b0]) | skip)
   by_cases c23 : t329 = 1
   ·rw [if_pos c23] at H
    have c23b0 : (t329 == 1) = true := beq_iff_eq.mpr c23
    have c23b1 : (t329 != 1) = false := bne_eq_false_iff_eq.mpr c23
    clear c23
    replace H := Option.bind_eq_some_iff.mp H
    obtain ⟨⟨t337, t338, t339⟩, A240, H⟩ := H
    replace H : ((spec_l1Cur_among.f s0_0 t338 t339 (([(-1), 10000, 10001] : List Int))).bind fun bt343 => (if 0 ≤ t337 then (if t337 < (t316.length : Int) then (spec_l1Cur_anyModel.j0 k s0_0 bt343.2.1 bt343.2.2 t313 t314 t315 (t316.set (t337 : Int).toNat bt343.1) t319 t322) else (none)) else (none))) = some (r1, r2, r3, r4, r5, r6, r7, r8) := H
    have A24 := Aside0.mk A240
    clear A240
    obtain ⟨y340, hy340⟩ : ∃ y_ : List Int, y_ = (([(-1), 10000, 10001] : List Int)) := ⟨_, rfl⟩
    replace H : ((spec_l1Cur_among.f s0_0 t338 t339 y340).bind fun bt343 => (if 0 ≤ t337 then (if t337 < (t316.length : Int) then (spec_l1Cur_anyModel.j0 k s0_0 bt343.2.1 bt343.2.2 t313 t314 t315 (t316.set (t337 : Int).toNat bt343.1) t319 t322) else (none)) else (none))) = some (r1, r2, r3, r4, r5, r6, r7, r8) := by first | (rw [hy340]; with_reducible exact H) | (have H2_ := (Option.bind_some _ _).symm.trans H; rw [hy340]; with_reducible exact H2_) | (have H2_ := (Option.bind_some _ _).symm.trans H; with_reducible exact H2_) | with_reducible exact H | (rw [hy340]; exact H) | exact H
    have Ny340 := Aside0.mk hy340
    clear hy340
    replace H := Option.bind_eq_some_iff.mp H
    obtain ⟨⟨t343, t344, t345⟩, A250, H⟩ := H
    replace H : (if 0 ≤ t337 then (if t337 < (t316.length : Int) then (spec_l1Cur_anyModel.j0 k s0_0 t344 t345 t313 t314 t315 (t316.set (t337 : Int).toNat t343) t319 t322) else (none)) else (none)) = some (r1, r2, r3, r4, r5, r6, r7, r8) := H
    have A25 := Aside0.mk A250
    clear A250
    by_cases c26 : 0 ≤ t337
    ·rw [if_pos c26] at H
     have c26b0 : decide (0 ≤ t337) = true := decide_eq_true c26
     clear c26
     by_cases c27 : t337 < (t316.length : Int)
     ·rw [if_pos c27] at H
      have c27b0 : decide (t337 < (t316.length : Int)) = true := decide_eq_true c27
      clear c27
      obtain ⟨y346, hy346⟩ : ∃ y_ : List Int, y_ = (t316.set (t337 : Int).toNat t343) := ⟨_, rfl⟩
      replace H : (spec_l1Cur_anyModel.j0 k s0_0 t344 t345 t313 t314 t315 y346 t319 t322) = some (r1, r2, r3, r4, r5, r6, r7, r8) := by first | (rw [hy346]; with_reducible exact H) | (have H2_ := (Option.bind_some _ _).symm.trans H; rw [hy346]; with_reducible exact H2_) | (have H2_ := (Option.bind_some _ _).symm.trans H; with_reducible exact H2_) | with_reducible exact H | (rw [hy346]; exact H) | exact H
      have Ny346 := Aside0.mk hy346
      clear hy346
      have H' := Aside0.mk H
      clear H
      try go_wp2
      have n0_ := Aside0.mk (Kd.R_drew HO318.out)
      have n1_ := Aside0.mk (Kd.R_drew HO321.out)
      have n2_ := Aside0.mk (Kd.R_drew HO324.out)
      have n3_ := Aside0.mk (blk_drew BK312.out)
      have n4_ := Aside0.mk (blk_drew BK327.out)
      have n5_ := Aside0.mk (IsS76.drew HI0.out)
      have n6_ := Aside0.mk (keep_drew HK.out)
      have n7_ := Aside0.mk (below_drew1 HB.out)
      clear HO318
      clear HO321
      clear HO324
      clear BK312
      clear BK327
      clear HI0
      clear HK
      clear HB
      have HO318 := n0_
      have HO321 := n1_
      have HO324 := n2_
      have BK312 := n3_
      have BK327 := n4_
      have HI0 := n5_
      have HK := n6_
      have HB := n7_
      clear n0_ n1_ n2_ n3_ n4_ n5_ n6_ n7_
      refine start_ (n := 10) (S := fun w' => w'.cell? ⟨gb327, 0, none⟩ = some (.int .i64 t313) ∧ w'.cell? ⟨gb327, 1, none⟩ = some (.int .i64 t314) ∧ w'.cell? ⟨gb327, 2, none⟩ = some (.int .i64 t315) ∧ w'.cell? ⟨gb327, 3, none⟩ = some (.slice Ao12 t316.length co12) ∧ w'.cell? ⟨gb327, 4, none⟩ = some (.slice Ao13 t319.length co13) ∧ w'.cell? ⟨gb327, 5, none⟩ = some (.slice Ao14 t322.length co14)) (ds := [9]) #[false, false, false, false, false, false, false, false, false, false] (by kernel_rfl) rfl rfl ⟨(blk_cell BK327.out 0).trans rfl, (blk_cell BK327.out 1).trans rfl, (blk_cell BK327.out 2).trans rfl, (blk_cell BK327.out 3).trans rfl, (blk_cell BK327.out 4).trans rfl, (blk_cell BK327.out 5).trans rfl⟩ (fun hHeld => ?_); refine with_tabW spec_l1Cur_anyModel.tab7 spec_l1Cur_anyModel.bits7 (fun HT_ HW_ => ?_)
      generalize w16.drew = w29 at HO318 HO321 HO324 BK312 BK327 HI0 HK HB hHeld ⊢
      refine pure_ (i := 0) (N := some 19) (v := ?_) (a' := ?_) #[true, false, false, false, false, false, false, false, false, false] rfl rfl (any_of HT_.out (by kernel_rfl)) (fun _ _ _ h => h) (Or.inl ⟨by rfl, ?_⟩) ?_ ?_
      rotate_left
      ·intro w'
       go_simp
       with_reducible rfl
      rotate_left
      ·simp only [Act.put, List.setIfInBounds_toArray, List.set_cons_zero, List.set_cons_succ, i64_w, i32_w]
       rfl
      refine pure_ (i := 2) (N := some 21) (v := ?_) (a' := ?_) #[true, false, true, false, false, false, false, false, false, false] rfl rfl (any_of HT_.out (by kernel_rfl)) (fun _ _ _ h => h) (Or.inl ⟨by rfl, ?_⟩) ?_ ?_
      rotate_left
      ·intro w'
       go_simp
       with_reducible rfl
      rotate_left
      ·simp only [Act.put, List.setIfInBounds_toArray, List.set_cons_zero, List.set_cons_succ, i64_w, i32_w]
       rfl
      refine pure_ (i := 3) (N := some 22) (v := ?_) (a' := ?_) #[true, false, true, true, false, false, false, false, false, false] rfl rfl (any_of HT_.out (by kernel_rfl)) (fun _ _ _ h => h) (Or.inl ⟨by rfl, ?_⟩) ?_ ?_
      rotate_left
      ·intro w'
       go_simp
       with_reducible rfl
      rotate_left
      ·simp only [Act.put, List.setIfInBounds_toArray, List.set_cons_zero, List.set_cons_succ, i64_w, i32_w]
       rfl
      refine pure_ (i := 5) (N := some 24) (v := ?_) (a' := ?_) #[true, false, true, true, false, true, false, false, false, false] rfl rfl (any_of HT_.out (by kernel_rfl)) (fun _ _ _ h => h) (Or.inl ⟨by rfl, ?_⟩) ?_ ?_
      rotate_left
      ·intro w'
       go_simp
       with_reducible rfl
      rotate_left
      ·simp only [Act.put, List.setIfInBounds_toArray, List.set_cons_zero, List.set_cons_succ, i64_w, i32_w]
       rfl
      refine take_ (i := 1) (N := some 20) (v := ?_) (a' := ?_) #[true, true, true, true, false, true, false, false, false, false] rfl rfl (take_ofW HT_.out HW_.out (by kernel_rfl)) (fun _ _ _ h => h) (Or.inl ⟨by rfl, ?_⟩) hHeld ?_ ?_
      rotate_left
      ·rintro w' ⟨s0, s1, s2, s3, s4, s5⟩
       go_simp
       with_reducible rfl
      rotate_left
      ·simp only [Act.put, List.setIfInBounds_toArray, List.set_cons_zero, List.set_cons_succ, i64_w, i32_w]
       rfl
      refine join_ (σ := Value) 3 #[true, true, true, true, true, true, true, false, false, false] (fun s_ => [(23, .int .i64 t337), (25, s_)]) (fun s_ w' => (w'.cell? ⟨gb327, 0, none⟩ = some (.int .i64 t313) ∧ w'.cell? ⟨gb327, 1, none⟩ = some (.int .i64 t314) ∧ w'.cell? ⟨gb327, 2, none⟩ = some (.int .i64 t315) ∧ w'.cell? ⟨gb327, 3, none⟩ = some (.slice Ao12 t316.length co12) ∧ w'.cell? ⟨gb327, 4, none⟩ = some (.slice Ao13 t319.length co13) ∧ w'.cell? ⟨gb327, 5, none⟩ = some (.slice Ao14 t322.length co14)) ∧ (Kd.R (Kd.int .i64) 3 w' w.heap.size (fun k_ => some k_ ≠ (.slice Ao13 t319.length co13 : Value).ownBlock ∧ some k_ ≠ (.slice Ao14 t322.length co14 : Value).ownBlock ∧ some k_ ≠ (s_ : Value).ownBlock) (.slice Ao12 t316.length co12) t316) ∧ (Kd.R (Kd.int .i64) 3 w' w.heap.size (fun k_ => some k_ ≠ (.slice Ao12 t316.length co12 : Value).ownBlock ∧ some k_ ≠ (.slice Ao14 t322.length co14 : Value).ownBlock ∧ some k_ ≠ (s_ : Value).ownBlock) (.slice Ao13 t319.length co13) t319) ∧ (Kd.R (Kd.int .i64) 3 w' w.heap.size (fun k_ => some k_ ≠ (.slice Ao12 t316.length co12 : Value).ownBlock ∧ some k_ ≠ (.slice Ao13 t319.length co13 : Value).ownBlock ∧ some k_ ≠ (s_ : Value).ownBlock) (.slice Ao14 t322.length co14) t322) ∧ (Kd.R (Kd.int .i64) 3 w' w.heap.size (fun k_ => some k_ ≠ (.slice Ao12 t316.length co12 : Value).ownBlock ∧ some k_ ≠ (.slice Ao13 t319.length co13 : Value).ownBlock ∧ some k_ ≠ (.slice Ao14 t322.length co14 : Value).ownBlock) s_ y340) ∧ (w'.heap[gb312]? = some (.cells #[.int .i64 0, .int .i64 0, .int .i64 0, .slice none 0 0, .slice none 0 0, .slice none 0 0] 30 (0, 0))) ∧ (w'.heap[gb327]? = some (.cells #[.int .i64 t313, .int .i64 t314, .int .i64 t315, .slice Ao12 t316.length co12, .slice Ao13 t319.length co13, .slice Ao14 t322.length co14] 30 (0, 0))) ∧ (IsS76 w0 w' g s0_0 t338 t339) ∧ (KeepBut w w' g none) ∧ (Below w0.heap.size w0 w')) ?_ ?_
      rotate_left
      ·intro hCont
       refine two_ (i := 4) (j := 6) (Ni := some 23) (Nj := some 25) #[true, true, true, true, true, true, false, false, false, false] #[true, true, true, true, false, true, true, false, false, false] rfl rfl rfl rfl (two_of HT_.out (by kernel_rfl)) (by decide) (by decide) (fun K hK => ?_) (fun K hK => ?_)
       ·skip
        refine goes_ Try.func60 (by kernel_rfl) rfl #[.pointer (some ⟨g, 0, none⟩), .int .i64 t328] (by rfl) rfl rfl (by (try simp only [List.map_toArray, List.map_cons, List.map_nil]); first | done | rfl | (simp only [List.length_drop, List.length_take]; rfl)) ?_
        with_reducible refine (spec_l1Cur_pick.calls g s0_0 t330 t331 t328 t337 t338 t339 w0 _ ?side1 ?side2 A24.out).mono ?_
        (case side1 => exact IsS76.q HI0)
        (case side2 => exact hbI_ HB (IsS76.ge HI0.out))
        rintro e w30 ⟨rfl, hi, hb, hk⟩
        refine ⟨_, rfl, ?_⟩
        have n0_ := Aside0.mk (KeepBut.blk hk (kp_ BK312) NB312_0.out (by simp))
        have n1_ := IsS76.rk HI0 HO318 hk
        have n2_ := IsS76.rk HI0 HO321 hk
        have n3_ := IsS76.rk HI0 HO324 hk
        have n4_ := Aside0.mk (KeepBut.blk hk (kp_ BK327) NB327_0.out (by simp))
        have n5_ := Aside0.mk (KeepBut.trans (hk_ HK) hk (.inl rfl))
        have n6_ := Aside0.mk (hb)
        have n7_ := Aside0.mk (hi)
        clear BK312
        clear HO318
        clear HO321
        clear HO324
        clear BK327
        clear HK
        clear HB
        clear HI0
        have BK312 := n0_
        have HO318 := n1_
        have HO321 := n2_
        have HO324 := n3_
        have BK327 := n4_
        have HK := n5_
        have HB := n6_
        have HI0 := n7_
        clear n0_ n1_ n2_ n3_ n4_ n5_ n6_ n7_
        (try clear hb)
        (try clear hb2)
        (try clear hk)
        (try clear hi)
        refine hK.out _ _ ⟨(blk_cell BK327.out 0).trans rfl, (blk_cell BK327.out 1).trans rfl, (blk_cell BK327.out 2).trans rfl, (blk_cell BK327.out 3).trans rfl, (blk_cell BK327.out 4).trans rfl, (blk_cell BK327.out 5).trans rfl⟩ (fun hHeld => ?_)
        clear hK K
        refine norm_ (a' := ?_) ?_ ?_
        rotate_left
        ·show Act.put _ (some 23) _ = _
         simp only [Act.put, List.setIfInBounds_toArray, List.set_cons_zero, List.set_cons_succ, i64_w, i32_w]
         rfl
        refine one_ (i := 6) (N := some 25) #[true, true, true, true, true, true, true, false, false, false] rfl rfl (one_of HT_.out (by kernel_rfl)) (by decide) (fun K hK => ?_)
        refine Kd.R_lit_step (Kd.int .i64) _ 3 ?hg (N := 25) ?hd (xs := ([(-1), 10000, 10001] : List Int)) (inner := [.int .i64 (-1), .int .i64 10000, .int .i64 10001]) (ok := fun _ => True) (okp := fun _ => True) ?hr ?hp (fun _ hk => hk) trivial (Below.refl _ _) (Nat.le_refl _) (by simp) ?_; (case hd => rfl); (case hg => rfl); (case hr => first | (go_simp; done) | (go_simp; rfl)); (case hp => exact (Reps.one (show Kd.M (Kd.int .i64) _ _ _ (-1) [.int .i64 (-1)] from rfl) (Reps.one (show Kd.M (Kd.int .i64) _ _ _ 10000 [.int .i64 10000] from rfl) (Reps.one (show Kd.M (Kd.int .i64) _ _ _ 10001 [.int .i64 10001] from rfl) (Reps.none _ _)))))
        intro v341 w31 ho32 hb hg_ hnew_
        clear hg_ hnew_
        (first | rw [← Ny340.out] at ho32 | (simp only [Int.reduceToNat] at ho32; rw [← Ny340.out] at ho32))
        have n0_ := Aside0.mk (Kd.R_elder' (Kd.R_p HO318) (Kd.R_base ho32) hb)
        have n1_ := Aside0.mk (Kd.R_elder' (Kd.R_p HO321) (Kd.R_base ho32) hb)
        have n2_ := Aside0.mk (Kd.R_elder' (Kd.R_p HO324) (Kd.R_base ho32) hb)
        have n3_ := Aside0.mk (Kd.R_lower (Kd.R_nw (Kd.R_nw (Kd.R_nw ho32 HO318) HO321) HO324) (keep_size (hk_ HK)))
        have n4_ := Aside0.mk (IsS76.below (IsS76.q HI0) hb)
        have n5_ := Aside0.mk (blk_below (kp_ BK312) hb)
        have n6_ := Aside0.mk (blk_below (kp_ BK327) hb)
        have n7_ := Aside0.mk (KeepBut.trans (hk_ HK) (KeepBut.of_below hb g none) (.inl rfl))
        have n8_ := Aside0.mk (below_step (hbI_ HB (IsS76.ge HI0.out)) hb)
        clear HO318
        clear HO321
        clear HO324
        clear HI0
        clear BK312
        clear BK327
        clear HK
        clear HB
        have HO318 := n0_
        have HO321 := n1_
        have HO324 := n2_
        have HO342 := n3_
        have HI0 := n4_
        have BK312 := n5_
        have BK327 := n6_
        have HK := n7_
        have HB := n8_
        clear n0_ n1_ n2_ n3_ n4_ n5_ n6_ n7_ n8_
        clear hb ho32
        refine hK.out _ _ ⟨(blk_cell BK327.out 0).trans rfl, (blk_cell BK327.out 1).trans rfl, (blk_cell BK327.out 2).trans rfl, (blk_cell BK327.out 3).trans rfl, (blk_cell BK327.out 4).trans rfl, (blk_cell BK327.out 5).trans rfl⟩ (fun hHeld => ?_)
        clear hK K
        refine norm_ (a' := ?_) ?_ ?_
        rotate_left
        ·show Act.put _ (some 25) _ = _
         simp only [Act.put, List.setIfInBounds_toArray, List.set_cons_zero, List.set_cons_succ, i64_w, i32_w]
         rfl
        exact norm_ (by simp only [putAll, Act.put, List.setIfInBounds_toArray, List.set_cons_zero, List.set_cons_succ]) (hCont (v341) _ ⟨hHeld, (Kd.R_pp (Kd.R_mono HO318.out (fun _ hk => ⟨hk.1.1, ⟨hk.1.2, hk.2⟩⟩))), (Kd.R_pp (Kd.R_mono HO321.out (fun _ hk => ⟨hk.1.1, ⟨hk.1.2, hk.2⟩⟩))), (Kd.R_pp (Kd.R_mono HO324.out (fun _ hk => ⟨hk.1.1, ⟨hk.1.2, hk.2⟩⟩))), (Kd.R_pp (Kd.R_mono HO342.out (fun _ hk => ⟨hk.1.1.2, ⟨hk.1.2, hk.2⟩⟩))), (kp_ BK312), (kp_ BK327), (IsS76.q HI0), (hk_ HK), (hbI_ HB (IsS76.ge HI0.out))⟩)
       ·skip
        refine Kd.R_lit_step (Kd.int .i64) _ 3 ?hg (N := 25) ?hd (xs := ([(-1), 10000, 10001] : List Int)) (inner := [.int .i64 (-1), .int .i64 10000, .int .i64 10001]) (ok := fun _ => True) (okp := fun _ => True) ?hr ?hp (fun _ hk => hk) trivial (Below.refl _ _) (Nat.le_refl _) (by simp) ?_; (case hd => rfl); (case hg => rfl); (case hr => first | (go_simp; done) | (go_simp; rfl)); (case hp => exact (Reps.one (show Kd.M (Kd.int .i64) _ _ _ (-1) [.int .i64 (-1)] from rfl) (Reps.one (show Kd.M (Kd.int .i64) _ _ _ 10000 [.int .i64 10000] from rfl) (Reps.one (show Kd.M (Kd.int .i64) _ _ _ 10001 [.int .i64 10001] from rfl) (Reps.none _ _)))))
        intro v341 w30 ho31 hb hg_ hnew_
        clear hg_ hnew_
        (first | rw [← Ny340.out] at ho31 | (simp only [Int.reduceToNat] at ho31; rw [← Ny340.out] at ho31))
        have n0_ := Aside0.mk (Kd.R_elder' (Kd.R_p HO318) (Kd.R_base ho31) hb)
        have n1_ := Aside0.mk (Kd.R_elder' (Kd.R_p HO321) (Kd.R_base ho31) hb)
        have n2_ := Aside0.mk (Kd.R_elder' (Kd.R_p HO324) (Kd.R_base ho31) hb)
        have n3_ := Aside0.mk (Kd.R_lower (Kd.R_nw (Kd.R_nw (Kd.R_nw ho31 HO318) HO321) HO324) (keep_size (hk_ HK)))
        have n4_ := Aside0.mk (IsS76.below (IsS76.q HI0) hb)
        have n5_ := Aside0.mk (blk_below (kp_ BK312) hb)
        have n6_ := Aside0.mk (blk_below (kp_ BK327) hb)
        have n7_ := Aside0.mk (KeepBut.trans (hk_ HK) (KeepBut.of_below hb g none) (.inl rfl))
        have n8_ := Aside0.mk (below_step (hbI_ HB (IsS76.ge HI0.out)) hb)
        clear HO318
        clear HO321
        clear HO324
        clear HI0
        clear BK312
        clear BK327
        clear HK
        clear HB
        have HO318 := n0_
        have HO321 := n1_
        have HO324 := n2_
        have HO342 := n3_
        have HI0 := n4_
        have BK312 := n5_
        have BK327 := n6_
        have HK := n7_
        have HB := n8_
        clear n0_ n1_ n2_ n3_ n4_ n5_ n6_ n7_ n8_
        clear hb ho31
        refine hK.out _ _ ⟨(blk_cell BK327.out 0).trans rfl, (blk_cell BK327.out 1).trans rfl, (blk_cell BK327.out 2).trans rfl, (blk_cell BK327.out 3).trans rfl, (blk_cell BK327.out 4).trans rfl, (blk_cell BK327.out 5).trans rfl⟩ (fun hHeld => ?_)
        clear hK K
        refine norm_ (a' := ?_) ?_ ?_
        rotate_left
        ·show Act.put _ (some 25) _ = _
         simp only [Act.put, List.setIfInBounds_toArray, List.set_cons_zero, List.set_cons_succ, i64_w, i32_w]
         rfl
        refine one_ (i := 4) (N := some 23) #[true, true, true, true, true, true, true, false, false, false] rfl rfl (one_of HT_.out (by kernel_rfl)) (by decide) (fun K hK => ?_)
        refine goes_ Try.func60 (by kernel_rfl) rfl #[.pointer (some ⟨g, 0, none⟩), .int .i64 t328] (by rfl) rfl rfl (by (try simp only [List.map_toArray, List.map_cons, List.map_nil]); first | done | rfl | (simp only [List.length_drop, List.length_take]; rfl)) ?_
        with_reducible refine (spec_l1Cur_pick.calls g s0_0 t330 t331 t328 t337 t338 t339 w0 _ ?side1 ?side2 A24.out).mono ?_
        (case side1 => exact IsS76.q HI0)
        (case side2 => exact hbI_ HB (IsS76.ge HI0.out))
        rintro e w32 ⟨rfl, hi, hb, hk⟩
        refine ⟨_, rfl, ?_⟩
        have n0_ := Aside0.mk (KeepBut.blk hk (kp_ BK312) NB312_0.out (by simp))
        have n1_ := IsS76.rk HI0 HO318 hk
        have n2_ := IsS76.rk HI0 HO321 hk
        have n3_ := IsS76.rk HI0 HO324 hk
        have n4_ := Aside0.mk (KeepBut.blk hk (kp_ BK327) NB327_0.out (by simp))
        have n5_ := IsS76.rk HI0 HO342 hk
        have n6_ := Aside0.mk (KeepBut.trans (hk_ HK) hk (.inl rfl))
        have n7_ := Aside0.mk (hb)
        have n8_ := Aside0.mk (hi)
        clear BK312
        clear HO318
        clear HO321
        clear HO324
        clear BK327
        clear HO342
        clear HK
        clear HB
        clear HI0
        have BK312 := n0_
        have HO318 := n1_
        have HO321 := n2_
        have HO324 := n3_
        have BK327 := n4_
        have HO342 := n5_
        have HK := n6_
        have HB := n7_
        have HI0 := n8_
        clear n0_ n1_ n2_ n3_ n4_ n5_ n6_ n7_ n8_
        (try clear hb)
        (try clear hb2)
        (try clear hk)
        (try clear hi)
        refine hK.out _ _ ⟨(blk_cell BK327.out 0).trans rfl, (blk_cell BK327.out 1).trans rfl, (blk_cell BK327.out 2).trans rfl, (blk_cell BK327.out 3).trans rfl, (blk_cell BK327.out 4).trans rfl, (blk_cell BK327.out 5).trans rfl⟩ (fun hHeld => ?_)
        clear hK K
        refine norm_ (a' := ?_) ?_ ?_
        rotate_left
        ·show Act.put _ (some 23) _ = _
         simp only [Act.put, List.setIfInBounds_toArray, List.set_cons_zero, List.set_cons_succ, i64_w, i32_w]
         rfl
        exact norm_ (by simp only [putAll, Act.put, List.setIfInBounds_toArray, List.set_cons_zero, List.set_cons_succ]) (hCont (v341) _ ⟨hHeld, (Kd.R_pp (Kd.R_mono HO318.out (fun _ hk => ⟨hk.1.1, ⟨hk.1.2, hk.2⟩⟩))), (Kd.R_pp (Kd.R_mono HO321.out (fun _ hk => ⟨hk.1.1, ⟨hk.1.2, hk.2⟩⟩))), (Kd.R_pp (Kd.R_mono HO324.out (fun _ hk => ⟨hk.1.1, ⟨hk.1.2, hk.2⟩⟩))), (Kd.R_pp (Kd.R_mono HO342.out (fun _ hk => ⟨hk.1.1.2, ⟨hk.1.2, hk.2⟩⟩))), (kp_ BK312), (kp_ BK327), (IsS76.q HI0), (hk_ HK), (hbI_ HB (IsS76.ge HI0.out))⟩)
      rintro v341 w33 ⟨hS_, h0_, h1_, h2_, h3_, h4_, h5_, h6_, h7_, h8_⟩
      have n0_ : Aside0 (Kd.R (Kd.int .i64) 3 w33 w.heap.size (fun k_ => some k_ ≠ (.slice Ao13 t319.length co13 : Value).ownBlock ∧ some k_ ≠ (.slice Ao14 t322.length co14 : Value).ownBlock ∧ some k_ ≠ (v341 : Value).ownBlock) (.slice Ao12 t316.length co12) t316) := ⟨h0_⟩
      have n1_ : Aside0 (Kd.R (Kd.int .i64) 3 w33 w.heap.size (fun k_ => some k_ ≠ (.slice Ao12 t316.length co12 : Value).ownBlock ∧ some k_ ≠ (.slice Ao14 t322.length co14 : Value).ownBlock ∧ some k_ ≠ (v341 : Value).ownBlock) (.slice Ao13 t319.length co13) t319) := ⟨h1_⟩
      have n2_ : Aside0 (Kd.R (Kd.int .i64) 3 w33 w.heap.size (fun k_ => some k_ ≠ (.slice Ao12 t316.length co12 : Value).ownBlock ∧ some k_ ≠ (.slice Ao13 t319.length co13 : Value).ownBlock ∧ some k_ ≠ (v341 : Value).ownBlock) (.slice Ao14 t322.length co14) t322) := ⟨h2_⟩
      have n3_ : Aside0 (Kd.R (Kd.int .i64) 3 w33 w.heap.size (fun k_ => some k_ ≠ (.slice Ao12 t316.length co12 : Value).ownBlock ∧ some k_ ≠ (.slice Ao13 t319.length co13 : Value).ownBlock ∧ some k_ ≠ (.slice Ao14 t322.length co14 : Value).ownBlock) v341 y340) := ⟨h3_⟩
      have n4_ : Aside0 (w33.heap[gb312]? = some (.cells #[.int .i64 0, .int .i64 0, .int .i64 0, .slice none 0 0, .slice none 0 0, .slice none 0 0] 30 (0, 0))) := ⟨h4_⟩
      have n5_ : Aside0 (w33.heap[gb327]? = some (.cells #[.int .i64 t313, .int .i64 t314, .int .i64 t315, .slice Ao12 t316.length co12, .slice Ao13 t319.length co13, .slice Ao14 t322.length co14] 30 (0, 0))) := ⟨h5_⟩
      have n6_ : Aside0 (IsS76 w0 w33 g s0_0 t338 t339) := ⟨h6_⟩
      have n7_ : Aside0 (KeepBut w w33 g none) := ⟨h7_⟩
      have n8_ : Aside0 (Below w0.heap.size w0 w33) := ⟨h8_⟩
      clear HO318
      clear HO321
      clear HO324
      clear BK312
      clear BK327
      clear HI0
      clear HK
      clear HB
      clear h0_ h1_ h2_ h3_ h4_ h5_ h6_ h7_ h8_
      have HO318 := n0_
      have HO321 := n1_
      have HO324 := n2_
      have HO342 := n3_
      have BK312 := n4_
      have BK327 := n5_
      have HI0 := n6_
      have HK := n7_
      have HB := n8_
      clear n0_ n1_ n2_ n3_ n4_ n5_ n6_ n7_ n8_
      have hHeld : w33.cell? ⟨gb327, 0, none⟩ = some (.int .i64 t313) ∧ w33.cell? ⟨gb327, 1, none⟩ = some (.int .i64 t314) ∧ w33.cell? ⟨gb327, 2, none⟩ = some (.int .i64 t315) ∧ w33.cell? ⟨gb327, 3, none⟩ = some (.slice Ao12 t316.length co12) ∧ w33.cell? ⟨gb327, 4, none⟩ = some (.slice Ao13 t319.length co13) ∧ w33.cell? ⟨gb327, 5, none⟩ = some (.slice Ao14 t322.length co14) := hS_
      obtain ⟨Ao34, co34, eo34⟩ := Kd.R_slice HO342.out
      (first | subst eo34 | (injection eo34 with f1_ f2_ f3_; have f4_ := f1_.symm; have f5_ := f3_.symm; clear f1_ f2_ f3_; subst f4_; subst f5_))
      refine norm_ (a' := ?_) ?_ ?_
      rotate_left
      ·simp only [putAll, Act.put, List.setIfInBounds_toArray, List.set_cons_zero, List.set_cons_succ]
       rfl
      refine one_ (i := 7) (N := some 26) #[true, true, true, true, true, true, true, true, false, false] rfl rfl (one_of HT_.out (by kernel_rfl)) (by decide) (fun K hK => ?_)
      refine goes_ Try.func57 (by kernel_rfl) rfl #[.pointer (some ⟨g, 0, none⟩), .slice Ao34 y340.length co34] (by rfl) rfl rfl (by (try simp only [List.map_toArray, List.map_cons, List.map_nil]); first | done | rfl | (simp only [List.length_drop, List.length_take]; rfl)) ?_
      with_reducible refine (spec_l1Cur_among.calls g s0_0 t338 t339 _ _ y340 t343 t344 t345 w0 _ ?side1 ?side2 ?side3 ?side4 ?side5 A25.out).mono ?_
      (case side1 => exact IsS76.q HI0)
      (case side2 => exact hbI_ HB (IsS76.ge HI0.out))
      (case side3 => exact Kd.C_o HO342)
      (case side4 => exact (Kd.R_reads' HO342.out).2.1)
      (case side5 => exact far_slice (IsS76.own_ne HI0.out HO342.out (by decide)))
      rintro e w35 ⟨rfl, hi, hb, hk⟩
      refine ⟨_, rfl, ?_⟩
      have n0_ := Aside0.mk (KeepBut.blk hk (kp_ BK312) NB312_0.out (by simp))
      have n1_ := IsS76.rk HI0 HO318 hk
      have n2_ := IsS76.rk HI0 HO321 hk
      have n3_ := IsS76.rk HI0 HO324 hk
      have n4_ := Aside0.mk (KeepBut.blk hk (kp_ BK327) NB327_0.out (by simp))
      have n5_ := IsS76.rk HI0 HO342 hk
      have n6_ := Aside0.mk (KeepBut.trans (hk_ HK) hk (.inl rfl))
      have n7_ := Aside0.mk (hb)
      have n8_ := Aside0.mk (hi)
      clear BK312
      clear HO318
      clear HO321
      clear HO324
      clear BK327
      clear HO342
      clear HK
      clear HB
      clear HI0
      have BK312 := n0_
      have HO318 := n1_
      have HO321 := n2_
      have HO324 := n3_
      have BK327 := n4_
      have HO342 := n5_
      have HK := n6_
      have HB := n7_
      have HI0 := n8_
      clear n0_ n1_ n2_ n3_ n4_ n5_ n6_ n7_ n8_
      (try clear hb)
      (try clear hb2)
      (try clear hk)
      (try clear hi)
      have p28 : 0 ≤ (t337 : Int) := of_decide_eq_true (by first | (with_reducible assumption) | assumption)
      have q28 : (t337 : Int) < ((t316.length : Int) : Int) := of_decide_eq_true (by first | (with_reducible assumption) | assumption)
      obtain ⟨go28, co28, eo28, gb28, gl28, cl28, HG28⟩ := Kd.R_form HO318.out (by omega)
      (first | cases eo28 | (injection eo28 with ea_ en_ ec_; (first | subst ea_ | (injection ea_ with ea_; subst ea_)); subst ec_; clear en_))
      have GB28 := Aside0.mk gb28
      have GG28 := Aside0.mk HG28
      clear gb28 gl28 HG28
      obtain ⟨hx28_0, hf28_0⟩ := Kd.R_celln 0 HO318.out (t337 : Int) p28 q28
      replace p28 := eq_true p28
      replace q28 := eq_true q28
      have HN0_go28 := Aside0.mk (show g ≠ go28 from by have h_ := IsS76.own_ne HI0.out HO318.out (by decide); intro e_; exact h_ (by rw [e_]; rfl))
      have HP36 := Kd.R_putn HO318.out (t337 : Int) t343
      rw [← Ny346.out] at HP36
      have HQ36 := Aside0.mk HP36
      clear HP36
      refine hK.out _ _ ⟨(blk_cell BK327.out 0).trans rfl, (blk_cell BK327.out 1).trans rfl, (blk_cell BK327.out 2).trans rfl, (blk_cell BK327.out 3).trans rfl, (blk_cell BK327.out 4).trans rfl, (blk_cell BK327.out 5).trans rfl⟩ (fun hHeld => ?_)
      clear hK K
      refine norm_ (a' := ?_) ?_ ?_
      rotate_left
      ·show Act.put _ (some 26) _ = _
       simp only [Act.put, List.setIfInBounds_toArray, List.set_cons_zero, List.set_cons_succ, i64_w, i32_w]
       rfl
      refine pure_ (i := 8) (N := some 27) (v := ?_) (a' := ?_) #[true, true, true, true, true, true, true, true, true, false] rfl rfl (any_of HT_.out (by kernel_rfl)) (fun _ _ _ h => h) (Or.inl ⟨by rfl, ?_⟩) ?_ ?_
      rotate_left
      ·intro w'
       go_simp
       with_reducible rfl
      rotate_left
      ·simp only [Act.put, List.setIfInBounds_toArray, List.set_cons_zero, List.set_cons_succ, i64_w, i32_w]
       rfl
      refine last_ (i := 9) (N := none) #[true, true, true, true, true, true, true, true, true, true] rfl rfl (one_of HT_.out (by kernel_rfl)) (by decide) (fun K hK => ?_)
      refine skip_ (w1 := ?_) (by rfl) rfl ?_ ?_
      rotate_left
      ·go_simp
       rfl
      refine hK.out _ _ ?_
      clear hK K
      refine done_ (done_of HT_.out (by kernel_rfl)) ?_
      try go_wp2
      go_meet
      case rel => exact ⟨_, (t344), (t345), (t313), (t314), (t315), (y346), (t319), (t322), (.slice (some ⟨go28, 0, none⟩) t316.length co12), (.slice Ao13 t319.length co13), (.slice Ao14 t322.length co14), H', ⟨by first | omega | exact Nat.le_refl _⟩, ⟨Kd.R_pp (Kd.R_mono HQ36.out (fun _ hk => ⟨hk.1, hk.2.1⟩))⟩, ⟨Kd.R_pp (Kd.R_mono (Kd.R_far (p := ⟨go28, (t337 : Int).toNat, none⟩) (Kd.R_mono HO321.out (fun k_ hk => (⟨hk, fun e_ => hk.1 (by rw [e_]; rfl)⟩ : _ ∧ k_ ≠ go28))) (fun _ hk => hk.2) (.int .i64 t343)) (fun _ hk => ⟨hk.1.1, hk.1.2.1⟩))⟩, ⟨Kd.R_pp (Kd.R_mono (Kd.R_far (p := ⟨go28, (t337 : Int).toNat, none⟩) (Kd.R_mono HO324.out (fun k_ hk => (⟨hk, fun e_ => hk.1 (by rw [e_]; rfl)⟩ : _ ∧ k_ ≠ go28))) (fun _ hk => hk.2) (.int .i64 t343)) (fun _ hk => ⟨hk.1.1, hk.1.2.1⟩))⟩, ⟨by (with_reducible repeat (first | refine blk_drewN ?_ _ | refine blk_drew ?_ | refine blk_alloc ?_ _)); refine blk_far ?_ (by have h_ := Kd.R_ne HO318.out BK312.out (by decide); intro e_; exact h_ (by rw [e_]; rfl)) _; (with_reducible repeat (first | refine blk_drewN ?_ _ | refine blk_drew ?_ | refine blk_alloc ?_ _)); exact BK312.out⟩, ⟨by (with_reducible repeat (first | refine blk_drewN ?_ _ | refine blk_drew ?_ | refine blk_alloc ?_ _)); refine blk_far ?_ (by have h_ := Kd.R_ne HO318.out BK327.out (by decide); intro e_; exact h_ (by rw [e_]; rfl)) _; (with_reducible repeat (first | refine blk_drewN ?_ _ | refine blk_drew ?_ | refine blk_alloc ?_ _)); exact BK327.out⟩, ⟨IsS76.q HI0⟩, ⟨by repeat (first | (with_reducible first | exact HK.out | apply KeepBut.set_ | apply keep_drewN | apply keep_drew | apply keep_alloc | refine keep_far ?_ GB28.out _ | refine keep_far ?_ GW312.out _ | refine keep_far ?_ GW327.out _) | exact HK.out)⟩, ⟨by repeat (first | (with_reducible first | exact HB.out | apply below_alloc | apply pw_below_drewN | apply below_drew1 | refine below_set ?_ (Nat.le_trans HL.out GB28.out) | refine below_set ?_ (IsS76.ge HI0.out) | refine below_set ?_ GE312.out | refine below_set ?_ GE327.out) | exact HB.out)⟩⟩
     ·rw [if_neg c27] at H
      exact absurd H (by simp)
    ·rw [if_neg c26] at H
     exact absurd H (by simp)
   ·rw [if_neg c23] at H
    have c23b0 : (t329 == 1) = false := beq_eq_false_iff_ne.mpr c23
    have c23b1 : (t329 != 1) = true := bne_iff_ne.mpr c23
    by_cases c37 : t329 = 2
    ·rw [if_pos c37] at H
     have c37b0 : (t329 == 2) = true := beq_iff_eq.mpr c37
     have c37b1 : (t329 != 2) = false := bne_eq_false_iff_eq.mpr c37
     clear c37
     replace H := Option.bind_eq_some_iff.mp H
     obtain ⟨⟨t347, t348, t349⟩, A380, H⟩ := H
     replace H : ((spec_l1Cur_among.f s0_0 t348 t349 (([(-1), 1000, 1001] : List Int))).bind fun bt353 => (if 0 ≤ t347 then (if t347 < (t319.length : Int) then (spec_l1Cur_anyModel.j0 k s0_0 bt353.2.1 bt353.2.2 t313 t314 t315 t316 (t319.set (t347 : Int).toNat bt353.1) t322) else (none)) else (none))) = some (r1, r2, r3, r4, r5, r6, r7, r8) := H
     have A38 := Aside0.mk A380
     clear A380
     obtain ⟨y350, hy350⟩ : ∃ y_ : List Int, y_ = (([(-1), 1000, 1001] : List Int)) := ⟨_, rfl⟩
     replace H : ((spec_l1Cur_among.f s0_0 t348 t349 y350).bind fun bt353 => (if 0 ≤ t347 then (if t347 < (t319.length : Int) then (spec_l1Cur_anyModel.j0 k s0_0 bt353.2.1 bt353.2.2 t313 t314 t315 t316 (t319.set (t347 : Int).toNat bt353.1) t322) else (none)) else (none))) = some (r1, r2, r3, r4, r5, r6, r7, r8) := by first | (rw [hy350]; with_reducible exact H) | (have H2_ := (Option.bind_some _ _).symm.trans H; rw [hy350]; with_reducible exact H2_) | (have H2_ := (Option.bind_some _ _).symm.trans H; with_reducible exact H2_) | with_reducible exact H | (rw [hy350]; exact H) | exact H
     have Ny350 := Aside0.mk hy350
     clear hy350
     replace H := Option.bind_eq_some_iff.mp H
     obtain ⟨⟨t353, t354, t355⟩, A390, H⟩ := H
     replace H : (if 0 ≤ t347 then (if t347 < (t319.length : Int) then (spec_l1Cur_anyModel.j0 k s0_0 t354 t355 t313 t314 t315 t316 (t319.set (t347 : Int).toNat t353) t322) else (none)) else (none)) = some (r1, r2, r3, r4, r5, r6, r7, r8) := H
     have A39 := Aside0.mk A390
     clear A390
     by_cases c40 : 0 ≤ t347
     ·rw [if_pos c40] at H
      have c40b0 : decide (0 ≤ t347) = true := decide_eq_true c40
      clear c40
      by_cases c41 : t347 < (t319.length : Int)
      ·rw [if_pos c41] at H
       have c41b0 : decide (t347 < (t319.length : Int)) = true := decide_eq_true c41
       clear c41
       obtain ⟨y356, hy356⟩ : ∃ y_ : List Int, y_ = (t319.set (t347 : Int).toNat t353) := ⟨_, rfl⟩
       replace H : (spec_l1Cur_anyModel.j0 k s0_0 t354 t355 t313 t314 t315 t316 y356 t322) = some (r1, r2, r3, r4, r5, r6, r7, r8) := by first | (rw [hy356]; with_reducible exact H) | (have H2_ := (Option.bind_some _ _).symm.trans H; rw [hy356]; with_reducible exact H2_) | (have H2_ := (Option.bind_some _ _).symm.trans H; with_reducible exact H2_) | with_reducible exact H | (rw [hy356]; exact H) | exact H
       have Ny356 := Aside0.mk hy356
       clear hy356
       have H' := Aside0.mk H
       clear H
       try go_wp2
       have n0_ := Aside0.mk (Kd.R_drew HO318.out)
       have n1_ := Aside0.mk (Kd.R_drew HO321.out)
       have n2_ := Aside0.mk (Kd.R_drew HO324.out)
       have n3_ := Aside0.mk (blk_drew BK312.out)
       have n4_ := Aside0.mk (blk_drew BK327.out)
       have n5_ := Aside0.mk (IsS76.drew HI0.out)
       have n6_ := Aside0.mk (keep_drew HK.out)
       have n7_ := Aside0.mk (below_drew1 HB.out)
       clear HO318
       clear HO321
       clear HO324
       clear BK312
       clear BK327
       clear HI0
       clear HK
       clear HB
       have HO318 := n0_
       have HO321 := n1_
       have HO324 := n2_
       have BK312 := n3_
       have BK327 := n4_
       have HI0 := n5_
       have HK := n6_
       have HB := n7_
       clear n0_ n1_ n2_ n3_ n4_ n5_ n6_ n7_
       refine start_ (n := 10) (S := fun w' => w'.cell? ⟨gb327, 0, none⟩ = some (.int .i64 t313) ∧ w'.cell? ⟨gb327, 1, none⟩ = some (.int .i64 t314) ∧ w'.cell? ⟨gb327, 2, none⟩ = some (.int .i64 t315) ∧ w'.cell? ⟨gb327, 3, none⟩ = some (.slice Ao12 t316.length co12) ∧ w'.cell? ⟨gb327, 4, none⟩ = some (.slice Ao13 t319.length co13) ∧ w'.cell? ⟨gb327, 5, none⟩ = some (.slice Ao14 t322.length co14)) (ds := [9]) #[false, false, false, false, false, false, false, false, false, false] (by kernel_rfl) rfl rfl ⟨(blk_cell BK327.out 0).trans rfl, (blk_cell BK327.out 1).trans rfl, (blk_cell BK327.out 2).trans rfl, (blk_cell BK327.out 3).trans rfl, (blk_cell BK327.out 4).trans rfl, (blk_cell BK327.out 5).trans rfl⟩ (fun hHeld => ?_); refine with_tabW spec_l1Cur_anyModel.tab9 spec_l1Cur_anyModel.bits9 (fun HT_ HW_ => ?_)
       generalize w16.drew = w43 at HO318 HO321 HO324 BK312 BK327 HI0 HK HB hHeld ⊢
       refine pure_ (i := 0) (N := some 30) (v := ?_) (a' := ?_) #[true, false, false, false, false, false, false, false, false, false] rfl rfl (any_of HT_.out (by kernel_rfl)) (fun _ _ _ h => h) (Or.inl ⟨by rfl, ?_⟩) ?_ ?_
       rotate_left
       ·intro w'
        go_simp
        with_reducible rfl
       rotate_left
       ·simp only [Act.put, List.setIfInBounds_toArray, List.set_cons_zero, List.set_cons_succ, i64_w, i32_w]
        rfl
       refine pure_ (i := 2) (N := some 32) (v := ?_) (a' := ?_) #[true, false, true, false, false, false, false, false, false, false] rfl rfl (any_of HT_.out (by kernel_rfl)) (fun _ _ _ h => h) (Or.inl ⟨by rfl, ?_⟩) ?_ ?_
       rotate_left
       ·intro w'
        go_simp
        with_reducible rfl
       rotate_left
       ·simp only [Act.put, List.setIfInBounds_toArray, List.set_cons_zero, List.set_cons_succ, i64_w, i32_w]
        rfl
       refine pure_ (i := 3) (N := some 33) (v := ?_) (a' := ?_) #[true, false, true, true, false, false, false, false, false, false] rfl rfl (any_of HT_.out (by kernel_rfl)) (fun _ _ _ h => h) (Or.inl ⟨by rfl, ?_⟩) ?_ ?_
       rotate_left
       ·intro w'
        go_simp
        with_reducible rfl
       rotate_left
       ·simp only [Act.put, List.setIfInBounds_toArray, List.set_cons_zero, List.set_cons_succ, i64_w, i32_w]
        rfl
       refine pure_ (i := 5) (N := some 35) (v := ?_) (a' := ?_) #[true, false, true, true, false, true, false, false, false, false] rfl rfl (any_of HT_.out (by kernel_rfl)) (fun _ _ _ h => h) (Or.inl ⟨by rfl, ?_⟩) ?_ ?_
       rotate_left
       ·intro w'
        go_simp
        with_reducible rfl
       rotate_left
       ·simp only [Act.put, List.setIfInBounds_toArray, List.set_cons_zero, List.set_cons_succ, i64_w, i32_w]
        rfl
       refine take_ (i := 1) (N := some 31) (v := ?_) (a' := ?_) #[true, true, true, true, false, true, false, false, false, false] rfl rfl (take_ofW HT_.out HW_.out (by kernel_rfl)) (fun _ _ _ h => h) (Or.inl ⟨by rfl, ?_⟩) hHeld ?_ ?_
       rotate_left
       ·rintro w' ⟨s0, s1, s2, s3, s4, s5⟩
        go_simp
        with_reducible rfl
       rotate_left
       ·simp only [Act.put, List.setIfInBounds_toArray, List.set_cons_zero, List.set_cons_succ, i64_w, i32_w]
        rfl
       refine join_ (σ := Value) 3 #[true, true, true, true, true, true, true, false, false, false] (fun s_ => [(34, .int .i64 t347), (36, s_)]) (fun s_ w' => (w'.cell? ⟨gb327, 0, none⟩ = some (.int .i64 t313) ∧ w'.cell? ⟨gb327, 1, none⟩ = some (.int .i64 t314) ∧ w'.cell? ⟨gb327, 2, none⟩ = some (.int .i64 t315) ∧ w'.cell? ⟨gb327, 3, none⟩ = some (.slice Ao12 t316.length co12) ∧ w'.cell? ⟨gb327, 4, none⟩ = some (.slice Ao13 t319.length co13) ∧ w'.cell? ⟨gb327, 5, none⟩ = some (.slice Ao14 t322.length co14)) ∧ (Kd.R (Kd.int .i64) 3 w' w.heap.size (fun k_ => some k_ ≠ (.slice Ao13 t319.length co13 : Value).ownBlock ∧ some k_ ≠ (.slice Ao14 t322.length co14 : Value).ownBlock ∧ some k_ ≠ (s_ : Value).ownBlock) (.slice Ao12 t316.length co12) t316) ∧ (Kd.R (Kd.int .i64) 3 w' w.heap.size (fun k_ => some k_ ≠ (.slice Ao12 t316.length co12 : Value).ownBlock ∧ some k_ ≠ (.slice Ao14 t322.length co14 : Value).ownBlock ∧ some k_ ≠ (s_ : Value).ownBlock) (.slice Ao13 t319.length co13) t319) ∧ (Kd.R (Kd.int .i64) 3 w' w.heap.size (fun k_ => some k_ ≠ (.slice Ao12 t316.length co12 : Value).ownBlock ∧ some k_ ≠ (.slice Ao13 t319.length co13 : Value).ownBlock ∧ some k_ ≠ (s_ : Value).ownBlock) (.slice Ao14 t322.length co14) t322) ∧ (Kd.R (Kd.int .i64) 3 w' w.heap.size (fun k_ => some k_ ≠ (.slice Ao12 t316.length co12 : Value).ownBlock ∧ some k_ ≠ (.slice Ao13 t319.length co13 : Value).ownBlock ∧ some k_ ≠ (.slice Ao14 t322.length co14 : Value).ownBlock) s_ y350) ∧ (w'.heap[gb312]? = some (.cells #[.int .i64 0, .int .i64 0, .int .i64 0, .slice none 0 0, .slice none 0 0, .slice none 0 0] 30 (0, 0))) ∧ (w'.heap[gb327]? = some (.cells #[.int .i64 t313, .int .i64 t314, .int .i64 t315, .slice Ao12 t316.length co12, .slice Ao13 t319.length co13, .slice Ao14 t322.length co14] 30 (0, 0))) ∧ (IsS76 w0 w' g s0_0 t348 t349) ∧ (KeepBut w w' g none) ∧ (Below w0.heap.size w0 w')) ?_ ?_
       rotate_left
       ·intro hCont
        refine two_ (i := 4) (j := 6) (Ni := some 34) (Nj := some 36) #[true, true, true, true, true, true, false, false, false, false] #[true, true, true, true, false, true, true, false, false, false] rfl rfl rfl rfl (two_of HT_.out (by kernel_rfl)) (by decide) (by decide) (fun K hK => ?_) (fun K hK => ?_)
        ·skip
         refine goes_ Try.func60 (by kernel_rfl) rfl #[.pointer (some ⟨g, 0, none⟩), .int .i64 t328] (by rfl) rfl rfl (by (try simp only [List.map_toArray, List.map_cons, List.map_nil]); first | done | rfl | (simp only [List.length_drop, List.length_take]; rfl)) ?_
         with_reducible refine (spec_l1Cur_pick.calls g s0_0 t330 t331 t328 t347 t348 t349 w0 _ ?side1 ?side2 A38.out).mono ?_
         (case side1 => exact IsS76.q HI0)
         (case side2 => exact hbI_ HB (IsS76.ge HI0.out))
         rintro e w44 ⟨rfl, hi, hb, hk⟩
         refine ⟨_, rfl, ?_⟩
         have n0_ := Aside0.mk (KeepBut.blk hk (kp_ BK312) NB312_0.out (by simp))
         have n1_ := IsS76.rk HI0 HO318 hk
         have n2_ := IsS76.rk HI0 HO321 hk
         have n3_ := IsS76.rk HI0 HO324 hk
         have n4_ := Aside0.mk (KeepBut.blk hk (kp_ BK327) NB327_0.out (by simp))
         have n5_ := Aside0.mk (KeepBut.trans (hk_ HK) hk (.inl rfl))
         have n6_ := Aside0.mk (hb)
         have n7_ := Aside0.mk (hi)
         clear BK312
         clear HO318
         clear HO321
         clear HO324
         clear BK327
         clear HK
         clear HB
         clear HI0
         have BK312 := n0_
         have HO318 := n1_
         have HO321 := n2_
         have HO324 := n3_
         have BK327 := n4_
         have HK := n5_
         have HB := n6_
         have HI0 := n7_
         clear n0_ n1_ n2_ n3_ n4_ n5_ n6_ n7_
         (try clear hb)
         (try clear hb2)
         (try clear hk)
         (try clear hi)
         refine hK.out _ _ ⟨(blk_cell BK327.out 0).trans rfl, (blk_cell BK327.out 1).trans rfl, (blk_cell BK327.out 2).trans rfl, (blk_cell BK327.out 3).trans rfl, (blk_cell BK327.out 4).trans rfl, (blk_cell BK327.out 5).trans rfl⟩ (fun hHeld => ?_)
         clear hK K
         refine norm_ (a' := ?_) ?_ ?_
         rotate_left
         ·show Act.put _ (some 34) _ = _
          simp only [Act.put, List.setIfInBounds_toArray, List.set_cons_zero, List.set_cons_succ, i64_w, i32_w]
          rfl
         refine one_ (i := 6) (N := some 36) #[true, true, true, true, true, true, true, false, false, false] rfl rfl (one_of HT_.out (by kernel_rfl)) (by decide) (fun K hK => ?_)
         refine Kd.R_lit_step (Kd.int .i64) _ 3 ?hg (N := 36) ?hd (xs := ([(-1), 1000, 1001] : List Int)) (inner := [.int .i64 (-1), .int .i64 1000, .int .i64 1001]) (ok := fun _ => True) (okp := fun _ => True) ?hr ?hp (fun _ hk => hk) trivial (Below.refl _ _) (Nat.le_refl _) (by simp) ?_; (case hd => rfl); (case hg => rfl); (case hr => first | (go_simp; done) | (go_simp; rfl)); (case hp => exact (Reps.one (show Kd.M (Kd.int .i64) _ _ _ (-1) [.int .i64 (-1)] from rfl) (Reps.one (show Kd.M (Kd.int .i64) _ _ _ 1000 [.int .i64 1000] from rfl) (Reps.one (show Kd.M (Kd.int .i64) _ _ _ 1001 [.int .i64 1001] from rfl) (Reps.none _ _)))))
         intro v351 w45 ho46 hb hg_ hnew_
         clear hg_ hnew_
         (first | rw [← Ny350.out] at ho46 | (simp only [Int.reduceToNat] at ho46; rw [← Ny350.out] at ho46))
         have n0_ := Aside0.mk (Kd.R_elder' (Kd.R_p HO318) (Kd.R_base ho46) hb)
         have n1_ := Aside0.mk (Kd.R_elder' (Kd.R_p HO321) (Kd.R_base ho46) hb)
         have n2_ := Aside0.mk (Kd.R_elder' (Kd.R_p HO324) (Kd.R_base ho46) hb)
         have n3_ := Aside0.mk (Kd.R_lower (Kd.R_nw (Kd.R_nw (Kd.R_nw ho46 HO318) HO321) HO324) (keep_size (hk_ HK)))
         have n4_ := Aside0.mk (IsS76.below (IsS76.q HI0) hb)
         have n5_ := Aside0.mk (blk_below (kp_ BK312) hb)
         have n6_ := Aside0.mk (blk_below (kp_ BK327) hb)
         have n7_ := Aside0.mk (KeepBut.trans (hk_ HK) (KeepBut.of_below hb g none) (.inl rfl))
         have n8_ := Aside0.mk (below_step (hbI_ HB (IsS76.ge HI0.out)) hb)
         clear HO318
         clear HO321
         clear HO324
         clear HI0
         clear BK312
         clear BK327
         clear HK
         clear HB
         have HO318 := n0_
         have HO321 := n1_
         have HO324 := n2_
         have HO352 := n3_
         have HI0 := n4_
         have BK312 := n5_
         have BK327 := n6_
         have HK := n7_
         have HB := n8_
         clear n0_ n1_ n2_ n3_ n4_ n5_ n6_ n7_ n8_
         clear hb ho46
         refine hK.out _ _ ⟨(blk_cell BK327.out 0).trans rfl, (blk_cell BK327.out 1).trans rfl, (blk_cell BK327.out 2).trans rfl, (blk_cell BK327.out 3).trans rfl, (blk_cell BK327.out 4).trans rfl, (blk_cell BK327.out 5).trans rfl⟩ (fun hHeld => ?_)
         clear hK K
         refine norm_ (a' := ?_) ?_ ?_
         rotate_left
         ·show Act.put _ (some 36) _ = _
          simp only [Act.put, List.setIfInBounds_toArray, List.set_cons_zero, List.set_cons_succ, i64_w, i32_w]
          rfl
         exact norm_ (by simp only [putAll, Act.put, List.setIfInBounds_toArray, List.set_cons_zero, List.set_cons_succ]) (hCont (v351) _ ⟨hHeld, (Kd.R_pp (Kd.R_mono HO318.out (fun _ hk => ⟨hk.1.1, ⟨hk.1.2, hk.2⟩⟩))), (Kd.R_pp (Kd.R_mono HO321.out (fun _ hk => ⟨hk.1.1, ⟨hk.1.2, hk.2⟩⟩))), (Kd.R_pp (Kd.R_mono HO324.out (fun _ hk => ⟨hk.1.1, ⟨hk.1.2, hk.2⟩⟩))), (Kd.R_pp (Kd.R_mono HO352.out (fun _ hk => ⟨hk.1.1.2, ⟨hk.1.2, hk.2⟩⟩))), (kp_ BK312), (kp_ BK327), (IsS76.q HI0), (hk_ HK), (hbI_ HB (IsS76.ge HI0.out))⟩)
        ·skip
         refine Kd.R_lit_step (Kd.int .i64) _ 3 ?hg (N := 36) ?hd (xs := ([(-1), 1000, 1001] : List Int)) (inner := [.int .i64 (-1), .int .i64 1000, .int .i64 1001]) (ok := fun _ => True) (okp := fun _ => True) ?hr ?hp (fun _ hk => hk) trivial (Below.refl _ _) (Nat.le_refl _) (by simp) ?_; (case hd => rfl); (case hg => rfl); (case hr => first | (go_simp; done) | (go_simp; rfl)); (case hp => exact (Reps.one (show Kd.M (Kd.int .i64) _ _ _ (-1) [.int .i64 (-1)] from rfl) (Reps.one (show Kd.M (Kd.int .i64) _ _ _ 1000 [.int .i64 1000] from rfl) (Reps.one (show Kd.M (Kd.int .i64) _ _ _ 1001 [.int .i64 1001] from rfl) (Reps.none _ _)))))
         intro v351 w44 ho45 hb hg_ hnew_
         clear hg_ hnew_
         (first | rw [← Ny350.out] at ho45 | (simp only [Int.reduceToNat] at ho45; rw [← Ny350.out] at ho45))
         have n0_ := Aside0.mk (Kd.R_elder' (Kd.R_p HO318) (Kd.R_base ho45) hb)
         have n1_ := Aside0.mk (Kd.R_elder' (Kd.R_p HO321) (Kd.R_base ho45) hb)
         have n2_ := Aside0.mk (Kd.R_elder' (Kd.R_p HO324) (Kd.R_base ho45) hb)
         have n3_ := Aside0.mk (Kd.R_lower (Kd.R_nw (Kd.R_nw (Kd.R_nw ho45 HO318) HO321) HO324) (keep_size (hk_ HK)))
         have n4_ := Aside0.mk (IsS76.below (IsS76.q HI0) hb)
         have n5_ := Aside0.mk (blk_below (kp_ BK312) hb)
         have n6_ := Aside0.mk (blk_below (kp_ BK327) hb)
         have n7_ := Aside0.mk (KeepBut.trans (hk_ HK) (KeepBut.of_below hb g none) (.inl rfl))
         have n8_ := Aside0.mk (below_step (hbI_ HB (IsS76.ge HI0.out)) hb)
         clear HO318
         clear HO321
         clear HO324
         clear HI0
         clear BK312
         clear BK327
         clear HK
         clear HB
         have HO318 := n0_
         have HO321 := n1_
         have HO324 := n2_
         have HO352 := n3_
         have HI0 := n4_
         have BK312 := n5_
         have BK327 := n6_
         have HK := n7_
         have HB := n8_
         clear n0_ n1_ n2_ n3_ n4_ n5_ n6_ n7_ n8_
         clear hb ho45
         refine hK.out _ _ ⟨(blk_cell BK327.out 0).trans rfl, (blk_cell BK327.out 1).trans rfl, (blk_cell BK327.out 2).trans rfl, (blk_cell BK327.out 3).trans rfl, (blk_cell BK327.out 4).trans rfl, (blk_cell BK327.out 5).trans rfl⟩ (fun hHeld => ?_)
         clear hK K
         refine norm_ (a' := ?_) ?_ ?_
         rotate_left
         ·show Act.put _ (some 36) _ = _
          simp only [Act.put, List.setIfInBounds_toArray, List.set_cons_zero, List.set_cons_succ, i64_w, i32_w]
          rfl
         refine one_ (i := 4) (N := some 34) #[true, true, true, true, true, true, true, false, false, false] rfl rfl (one_of HT_.out (by kernel_rfl)) (by decide) (fun K hK => ?_)
         refine goes_ Try.func60 (by kernel_rfl) rfl #[.pointer (some ⟨g, 0, none⟩), .int .i64 t328] (by rfl) rfl rfl (by (try simp only [List.map_toArray, List.map_cons, List.map_nil]); first | done | rfl | (simp only [List.length_drop, List.length_take]; rfl)) ?_
         with_reducible refine (spec_l1Cur_pick.calls g s0_0 t330 t331 t328 t347 t348 t349 w0 _ ?side1 ?side2 A38.out).mono ?_
         (case side1 => exact IsS76.q HI0)
         (case side2 => exact hbI_ HB (IsS76.ge HI0.out))
         rintro e w46 ⟨rfl, hi, hb, hk⟩
         refine ⟨_, rfl, ?_⟩
         have n0_ := Aside0.mk (KeepBut.blk hk (kp_ BK312) NB312_0.out (by simp))
         have n1_ := IsS76.rk HI0 HO318 hk
         have n2_ := IsS76.rk HI0 HO321 hk
         have n3_ := IsS76.rk HI0 HO324 hk
         have n4_ := Aside0.mk (KeepBut.blk hk (kp_ BK327) NB327_0.out (by simp))
         have n5_ := IsS76.rk HI0 HO352 hk
         have n6_ := Aside0.mk (KeepBut.trans (hk_ HK) hk (.inl rfl))
         have n7_ := Aside0.mk (hb)
         have n8_ := Aside0.mk (hi)
         clear BK312
         clear HO318
         clear HO321
         clear HO324
         clear BK327
         clear HO352
         clear HK
         clear HB
         clear HI0
         have BK312 := n0_
         have HO318 := n1_
         have HO321 := n2_
         have HO324 := n3_
         have BK327 := n4_
         have HO352 := n5_
         have HK := n6_
         have HB := n7_
         have HI0 := n8_
         clear n0_ n1_ n2_ n3_ n4_ n5_ n6_ n7_ n8_
         (try clear hb)
         (try clear hb2)
         (try clear hk)
         (try clear hi)
         refine hK.out _ _ ⟨(blk_cell BK327.out 0).trans rfl, (blk_cell BK327.out 1).trans rfl, (blk_cell BK327.out 2).trans rfl, (blk_cell BK327.out 3).trans rfl, (blk_cell BK327.out 4).trans rfl, (blk_cell BK327.out 5).trans rfl⟩ (fun hHeld => ?_)
         clear hK K
         refine norm_ (a' := ?_) ?_ ?_
         rotate_left
         ·show Act.put _ (some 34) _ = _
          simp only [Act.put, List.setIfInBounds_toArray, List.set_cons_zero, List.set_cons_succ, i64_w, i32_w]
          rfl
         exact norm_ (by simp only [putAll, Act.put, List.setIfInBounds_toArray, List.set_cons_zero, List.set_cons_succ]) (hCont (v351) _ ⟨hHeld, (Kd.R_pp (Kd.R_mono HO318.out (fun _ hk => ⟨hk.1.1, ⟨hk.1.2, hk.2⟩⟩))), (Kd.R_pp (Kd.R_mono HO321.out (fun _ hk => ⟨hk.1.1, ⟨hk.1.2, hk.2⟩⟩))), (Kd.R_pp (Kd.R_mono HO324.out (fun _ hk => ⟨hk.1.1, ⟨hk.1.2, hk.2⟩⟩))), (Kd.R_pp (Kd.R_mono HO352.out (fun _ hk => ⟨hk.1.1.2, ⟨hk.1.2, hk.2⟩⟩))), (kp_ BK312), (kp_ BK327), (IsS76.q HI0), (hk_ HK), (hbI_ HB (IsS76.ge HI0.out))⟩)
       rintro v351 w47 ⟨hS_, h0_, h1_, h2_, h3_, h4_, h5_, h6_, h7_, h8_⟩
       have n0_ : Aside0 (Kd.R (Kd.int .i64) 3 w47 w.heap.size (fun k_ => some k_ ≠ (.slice Ao13 t319.length co13 : Value).ownBlock ∧ some k_ ≠ (.slice Ao14 t322.length co14 : Value).ownBlock ∧ some k_ ≠ (v351 : Value).ownBlock) (.slice Ao12 t316.length co12) t316) := ⟨h0_⟩
       have n1_ : Aside0 (Kd.R (Kd.int .i64) 3 w47 w.heap.size (fun k_ => some k_ ≠ (.slice Ao12 t316.length co12 : Value).ownBlock ∧ some k_ ≠ (.slice Ao14 t322.length co14 : Value).ownBlock ∧ some k_ ≠ (v351 : Value).ownBlock) (.slice Ao13 t319.length co13) t319) := ⟨h1_⟩
       have n2_ : Aside0 (Kd.R (Kd.int .i64) 3 w47 w.heap.size (fun k_ => some k_ ≠ (.slice Ao12 t316.length co12 : Value).ownBlock ∧ some k_ ≠ (.slice Ao13 t319.length co13 : Value).ownBlock ∧ some k_ ≠ (v351 : Value).ownBlock) (.slice Ao14 t322.length co14) t322) := ⟨h2_⟩
       have n3_ : Aside0 (Kd.R (Kd.int .i64) 3 w47 w.heap.size (fun k_ => some k_ ≠ (.slice Ao12 t316.length co12 : Value).ownBlock ∧ some k_ ≠ (.slice Ao13 t319.length co13 : Value).ownBlock ∧ some k_ ≠ (.slice Ao14 t322.length co14 : Value).ownBlock) v351 y350) := ⟨h3_⟩
       have n4_ : Aside0 (w47.heap[gb312]? = some (.cells #[.int .i64 0, .int .i64 0, .int .i64 0, .slice none 0 0, .slice none 0 0, .slice none 0 0] 30 (0, 0))) := ⟨h4_⟩
       have n5_ : Aside0 (w47.heap[gb327]? = some (.cells #[.int .i64 t313, .int .i64 t314, .int .i64 t315, .slice Ao12 t316.length co12, .slice Ao13 t319.length co13, .slice Ao14 t322.length co14] 30 (0, 0))) := ⟨h5_⟩
       have n6_ : Aside0 (IsS76 w0 w47 g s0_0 t348 t349) := ⟨h6_⟩
       have n7_ : Aside0 (KeepBut w w47 g none) := ⟨h7_⟩
       have n8_ : Aside0 (Below w0.heap.size w0 w47) := ⟨h8_⟩
       clear HO318
       clear HO321
       clear HO324
       clear BK312
       clear BK327
       clear HI0
       clear HK
       clear HB
       clear h0_ h1_ h2_ h3_ h4_ h5_ h6_ h7_ h8_
       have HO318 := n0_
       have HO321 := n1_
       have HO324 := n2_
       have HO352 := n3_
       have BK312 := n4_
       have BK327 := n5_
       have HI0 := n6_
       have HK := n7_
       have HB := n8_
       clear n0_ n1_ n2_ n3_ n4_ n5_ n6_ n7_ n8_
       have hHeld : w47.cell? ⟨gb327, 0, none⟩ = some (.int .i64 t313) ∧ w47.cell? ⟨gb327, 1, none⟩ = some (.int .i64 t314) ∧ w47.cell? ⟨gb327, 2, none⟩ = some (.int .i64 t315) ∧ w47.cell? ⟨gb327, 3, none⟩ = some (.slice Ao12 t316.length co12) ∧ w47.cell? ⟨gb327, 4, none⟩ = some (.slice Ao13 t319.length co13) ∧ w47.cell? ⟨gb327, 5, none⟩ = some (.slice Ao14 t322.length co14) := hS_
       obtain ⟨Ao48, co48, eo48⟩ := Kd.R_slice HO352.out
       (first | subst eo48 | (injection eo48 with f1_ f2_ f3_; have f4_ := f1_.symm; have f5_ := f3_.symm; clear f1_ f2_ f3_; subst f4_; subst f5_))
       refine norm_ (a' := ?_) ?_ ?_
       rotate_left
       ·simp only [putAll, Act.put, List.setIfInBounds_toArray, List.set_cons_zero, List.set_cons_succ]
        rfl
       refine one_ (i := 7) (N := some 37) #[true, true, true, true, true, true, true, true, false, false] rfl rfl (one_of HT_.out (by kernel_rfl)) (by decide) (fun K hK => ?_)
       refine goes_ Try.func57 (by kernel_rfl) rfl #[.pointer (some ⟨g, 0, none⟩), .slice Ao48 y350.length co48] (by rfl) rfl rfl (by (try simp only [List.map_toArray, List.map_cons, List.map_nil]); first | done | rfl | (simp only [List.length_drop, List.length_take]; rfl)) ?_
       with_reducible refine (spec_l1Cur_among.calls g s0_0 t348 t349 _ _ y350 t353 t354 t355 w0 _ ?side1 ?side2 ?side3 ?side4 ?side5 A39.out).mono ?_
       (case side1 => exact IsS76.q HI0)
       (case side2 => exact hbI_ HB (IsS76.ge HI0.out))
       (case side3 => exact Kd.C_o HO352)
       (case side4 => exact (Kd.R_reads' HO352.out).2.1)
       (case side5 => exact far_slice (IsS76.own_ne HI0.out HO352.out (by decide)))
       rintro e w49 ⟨rfl, hi, hb, hk⟩
       refine ⟨_, rfl, ?_⟩
       have n0_ := Aside0.mk (KeepBut.blk hk (kp_ BK312) NB312_0.out (by simp))
       have n1_ := IsS76.rk HI0 HO318 hk
       have n2_ := IsS76.rk HI0 HO321 hk
       have n3_ := IsS76.rk HI0 HO324 hk
       have n4_ := Aside0.mk (KeepBut.blk hk (kp_ BK327) NB327_0.out (by simp))
       have n5_ := IsS76.rk HI0 HO352 hk
       have n6_ := Aside0.mk (KeepBut.trans (hk_ HK) hk (.inl rfl))
       have n7_ := Aside0.mk (hb)
       have n8_ := Aside0.mk (hi)
       clear BK312
       clear HO318
       clear HO321
       clear HO324
       clear BK327
       clear HO352
       clear HK
       clear HB
       clear HI0
       have BK312 := n0_
       have HO318 := n1_
       have HO321 := n2_
       have HO324 := n3_
       have BK327 := n4_
       have HO352 := n5_
       have HK := n6_
       have HB := n7_
       have HI0 := n8_
       clear n0_ n1_ n2_ n3_ n4_ n5_ n6_ n7_ n8_
       (try clear hb)
       (try clear hb2)
       (try clear hk)
       (try clear hi)
       have p42 : 0 ≤ (t347 : Int) := of_decide_eq_true (by first | (with_reducible assumption) | assumption)
       have q42 : (t347 : Int) < ((t319.length : Int) : Int) := of_decide_eq_true (by first | (with_reducible assumption) | assumption)
       obtain ⟨go42, co42, eo42, gb42, gl42, cl42, HG42⟩ := Kd.R_form HO321.out (by omega)
       (first | cases eo42 | (injection eo42 with ea_ en_ ec_; (first | subst ea_ | (injection ea_ with ea_; subst ea_)); subst ec_; clear en_))
       have GB42 := Aside0.mk gb42
       have GG42 := Aside0.mk HG42
       clear gb42 gl42 HG42
       obtain ⟨hx42_0, hf42_0⟩ := Kd.R_celln 0 HO321.out (t347 : Int) p42 q42
       replace p42 := eq_true p42
       replace q42 := eq_true q42
       have HN0_go42 := Aside0.mk (show g ≠ go42 from by have h_ := IsS76.own_ne HI0.out HO321.out (by decide); intro e_; exact h_ (by rw [e_]; rfl))
       have HP50 := Kd.R_putn HO321.out (t347 : Int) t353
       rw [← Ny356.out] at HP50
       have HQ50 := Aside0.mk HP50
       clear HP50
       refine hK.out _ _ ⟨(blk_cell BK327.out 0).trans rfl, (blk_cell BK327.out 1).trans rfl, (blk_cell BK327.out 2).trans rfl, (blk_cell BK327.out 3).trans rfl, (blk_cell BK327.out 4).trans rfl, (blk_cell BK327.out 5).trans rfl⟩ (fun hHeld => ?_)
       clear hK K
       refine norm_ (a' := ?_) ?_ ?_
       rotate_left
       ·show Act.put _ (some 37) _ = _
        simp only [Act.put, List.setIfInBounds_toArray, List.set_cons_zero, List.set_cons_succ, i64_w, i32_w]
        rfl
       refine pure_ (i := 8) (N := some 38) (v := ?_) (a' := ?_) #[true, true, true, true, true, true, true, true, true, false] rfl rfl (any_of HT_.out (by kernel_rfl)) (fun _ _ _ h => h) (Or.inl ⟨by rfl, ?_⟩) ?_ ?_
       rotate_left
       ·intro w'
        go_simp
        with_reducible rfl
       rotate_left
       ·simp only [Act.put, List.setIfInBounds_toArray, List.set_cons_zero, List.set_cons_succ, i64_w, i32_w]
        rfl
       refine last_ (i := 9) (N := none) #[true, true, true, true, true, true, true, true, true, true] rfl rfl (one_of HT_.out (by kernel_rfl)) (by decide) (fun K hK => ?_)
       refine skip_ (w1 := ?_) (by rfl) rfl ?_ ?_
       rotate_left
       ·go_simp
        rfl
       refine hK.out _ _ ?_
       clear hK K
       refine done_ (done_of HT_.out (by kernel_rfl)) ?_
       try go_wp2
       go_meet
       case rel => exact ⟨_, (t354), (t355), (t313), (t314), (t315), (t316), (y356), (t322), (.slice Ao12 t316.length co12), (.slice (some ⟨go42, 0, none⟩) t319.length co13), (.slice Ao14 t322.length co14), H', ⟨by first | omega | exact Nat.le_refl _⟩, ⟨Kd.R_pp (Kd.R_mono (Kd.R_far (p := ⟨go42, (t347 : Int).toNat, none⟩) (Kd.R_mono HO318.out (fun k_ hk => (⟨hk, fun e_ => hk.1 (by rw [e_]; rfl)⟩ : _ ∧ k_ ≠ go42))) (fun _ hk => hk.2) (.int .i64 t353)) (fun _ hk => ⟨hk.1.1, hk.1.2.1⟩))⟩, ⟨Kd.R_pp (Kd.R_mono HQ50.out (fun _ hk => ⟨hk.1, hk.2.1⟩))⟩, ⟨Kd.R_pp (Kd.R_mono (Kd.R_far (p := ⟨go42, (t347 : Int).toNat, none⟩) (Kd.R_mono HO324.out (fun k_ hk => (⟨hk, fun e_ => hk.2.1 (by rw [e_]; rfl)⟩ : _ ∧ k_ ≠ go42))) (fun _ hk => hk.2) (.int .i64 t353)) (fun _ hk => ⟨hk.1.1, hk.1.2.1⟩))⟩, ⟨by (with_reducible repeat (first | refine blk_drewN ?_ _ | refine blk_drew ?_ | refine blk_alloc ?_ _)); refine blk_far ?_ (by have h_ := Kd.R_ne HO321.out BK312.out (by decide); intro e_; exact h_ (by rw [e_]; rfl)) _; (with_reducible repeat (first | refine blk_drewN ?_ _ | refine blk_drew ?_ | refine blk_alloc ?_ _)); exact BK312.out⟩, ⟨by (with_reducible repeat (first | refine blk_drewN ?_ _ | refine blk_drew ?_ | refine blk_alloc ?_ _)); refine blk_far ?_ (by have h_ := Kd.R_ne HO321.out BK327.out (by decide); intro e_; exact h_ (by rw [e_]; rfl)) _; (with_reducible repeat (first | refine blk_drewN ?_ _ | refine blk_drew ?_ | refine blk_alloc ?_ _)); exact BK327.out⟩, ⟨IsS76.q HI0⟩, ⟨by repeat (first | (with_reducible first | exact HK.out | apply KeepBut.set_ | apply keep_drewN | apply keep_drew | apply keep_alloc | refine keep_far ?_ GB42.out _ | refine keep_far ?_ GW312.out _ | refine keep_far ?_ GW327.out _) | exact HK.out)⟩, ⟨by repeat (first | (with_reducible first | exact HB.out | apply below_alloc | apply pw_below_drewN | apply below_drew1 | refine below_set ?_ (Nat.le_trans HL.out GB42.out) | refine below_set ?_ (IsS76.ge HI0.out) | refine below_set ?_ GE312.out | refine below_set ?_ GE327.out) | exact HB.out)⟩⟩
      ·rw [if_neg c41] at H
       exact absurd H (by simp)
     ·rw [if_neg c40] at H
      exact absurd H (by simp)
    ·rw [if_neg c37] at H
     have c37b0 : (t329 == 2) = false := beq_eq_false_iff_ne.mpr c37
     have c37b1 : (t329 != 2) = true := bne_iff_ne.mpr c37
     by_cases c51 : t329 = 3
     ·rw [if_pos c51] at H
      have c51b0 : (t329 == 3) = true := beq_iff_eq.mpr c51
      have c51b1 : (t329 != 3) = false := bne_eq_false_iff_eq.mpr c51
      clear c51
      replace H := Option.bind_eq_some_iff.mp H
      obtain ⟨⟨t357, t358, t359⟩, A520, H⟩ := H
      replace H : ((spec_l1Cur_among.f s0_0 t358 t359 (([(-1), 4, 5] : List Int))).bind fun bt363 => (if 0 ≤ t357 then (if t357 < (t322.length : Int) then (spec_l1Cur_anyModel.j0 k s0_0 bt363.2.1 bt363.2.2 t313 t314 t315 t316 t319 (t322.set (t357 : Int).toNat bt363.1)) else (none)) else (none))) = some (r1, r2, r3, r4, r5, r6, r7, r8) := H
      have A52 := Aside0.mk A520
      clear A520
      obtain ⟨y360, hy360⟩ : ∃ y_ : List Int, y_ = (([(-1), 4, 5] : List Int)) := ⟨_, rfl⟩
      replace H : ((spec_l1Cur_among.f s0_0 t358 t359 y360).bind fun bt363 => (if 0 ≤ t357 then (if t357 < (t322.length : Int) then (spec_l1Cur_anyModel.j0 k s0_0 bt363.2.1 bt363.2.2 t313 t314 t315 t316 t319 (t322.set (t357 : Int).toNat bt363.1)) else (none)) else (none))) = some (r1, r2, r3, r4, r5, r6, r7, r8) := by first | (rw [hy360]; with_reducible exact H) | (have H2_ := (Option.bind_some _ _).symm.trans H; rw [hy360]; with_reducible exact H2_) | (have H2_ := (Option.bind_some _ _).symm.trans H; with_reducible exact H2_) | with_reducible exact H | (rw [hy360]; exact H) | exact H
      have Ny360 := Aside0.mk hy360
      clear hy360
      replace H := Option.bind_eq_some_iff.mp H
      obtain ⟨⟨t363, t364, t365⟩, A530, H⟩ := H
      replace H : (if 0 ≤ t357 then (if t357 < (t322.length : Int) then (spec_l1Cur_anyModel.j0 k s0_0 t364 t365 t313 t314 t315 t316 t319 (t322.set (t357 : Int).toNat t363)) else (none)) else (none)) = some (r1, r2, r3, r4, r5, r6, r7, r8) := H
      have A53 := Aside0.mk A530
      clear A530
      by_cases c54 : 0 ≤ t357
      ·rw [if_pos c54] at H
       have c54b0 : decide (0 ≤ t357) = true := decide_eq_true c54
       clear c54
       by_cases c55 : t357 < (t322.length : Int)
       ·rw [if_pos c55] at H
        have c55b0 : decide (t357 < (t322.length : Int)) = true := decide_eq_true c55
        clear c55
        obtain ⟨y366, hy366⟩ : ∃ y_ : List Int, y_ = (t322.set (t357 : Int).toNat t363) := ⟨_, rfl⟩
        replace H : (spec_l1Cur_anyModel.j0 k s0_0 t364 t365 t313 t314 t315 t316 t319 y366) = some (r1, r2, r3, r4, r5, r6, r7, r8) := by first | (rw [hy366]; with_reducible exact H) | (have H2_ := (Option.bind_some _ _).symm.trans H; rw [hy366]; with_reducible exact H2_) | (have H2_ := (Option.bind_some _ _).symm.trans H; with_reducible exact H2_) | with_reducible exact H | (rw [hy366]; exact H) | exact H
        have Ny366 := Aside0.mk hy366
        clear hy366
        have H' := Aside0.mk H
        clear H
        try go_wp2
        have n0_ := Aside0.mk (Kd.R_drew HO318.out)
        have n1_ := Aside0.mk (Kd.R_drew HO321.out)
        have n2_ := Aside0.mk (Kd.R_drew HO324.out)
        have n3_ := Aside0.mk (blk_drew BK312.out)
        have n4_ := Aside0.mk (blk_drew BK327.out)
        have n5_ := Aside0.mk (IsS76.drew HI0.out)
        have n6_ := Aside0.mk (keep_drew HK.out)
        have n7_ := Aside0.mk (below_drew1 HB.out)
        clear HO318
        clear HO321
        clear HO324
        clear BK312
        clear BK327
        clear HI0
        clear HK
        clear HB
        have HO318 := n0_
        have HO321 := n1_
        have HO324 := n2_
        have BK312 := n3_
        have BK327 := n4_
        have HI0 := n5_
        have HK := n6_
        have HB := n7_
        clear n0_ n1_ n2_ n3_ n4_ n5_ n6_ n7_
        refine start_ (n := 10) (S := fun w' => w'.cell? ⟨gb327, 0, none⟩ = some (.int .i64 t313) ∧ w'.cell? ⟨gb327, 1, none⟩ = some (.int .i64 t314) ∧ w'.cell? ⟨gb327, 2, none⟩ = some (.int .i64 t315) ∧ w'.cell? ⟨gb327, 3, none⟩ = some (.slice Ao12 t316.length co12) ∧ w'.cell? ⟨gb327, 4, none⟩ = some (.slice Ao13 t319.length co13) ∧ w'.cell? ⟨gb327, 5, none⟩ = some (.slice Ao14 t322.length co14)) (ds := [9]) #[false, false, false, false, false, false, false, false, false, false] (by kernel_rfl) rfl rfl ⟨(blk_cell BK327.out 0).trans rfl, (blk_cell BK327.out 1).trans rfl, (blk_cell BK327.out 2).trans rfl, (blk_cell BK327.out 3).trans rfl, (blk_cell BK327.out 4).trans rfl, (blk_cell BK327.out 5).trans rfl⟩ (fun hHeld => ?_); refine with_tabW spec_l1Cur_anyModel.tab11 spec_l1Cur_anyModel.bits11 (fun HT_ HW_ => ?_)
        generalize w16.drew = w57 at HO318 HO321 HO324 BK312 BK327 HI0 HK HB hHeld ⊢
        refine pure_ (i := 0) (N := some 41) (v := ?_) (a' := ?_) #[true, false, false, false, false, false, false, false, false, false] rfl rfl (any_of HT_.out (by kernel_rfl)) (fun _ _ _ h => h) (Or.inl ⟨by rfl, ?_⟩) ?_ ?_
        rotate_left
        ·intro w'
         go_simp
         with_reducible rfl
        rotate_left
        ·simp only [Act.put, List.setIfInBounds_toArray, List.set_cons_zero, List.set_cons_succ, i64_w, i32_w]
         rfl
        refine pure_ (i := 2) (N := some 43) (v := ?_) (a' := ?_) #[true, false, true, false, false, false, false, false, false, false] rfl rfl (any_of HT_.out (by kernel_rfl)) (fun _ _ _ h => h) (Or.inl ⟨by rfl, ?_⟩) ?_ ?_
        rotate_left
        ·intro w'
         go_simp
         with_reducible rfl
        rotate_left
        ·simp only [Act.put, List.setIfInBounds_toArray, List.set_cons_zero, List.set_cons_succ, i64_w, i32_w]
         rfl
        refine pure_ (i := 3) (N := some 44) (v := ?_) (a' := ?_) #[true, false, true, true, false, false, false, false, false, false] rfl rfl (any_of HT_.out (by kernel_rfl)) (fun _ _ _ h => h) (Or.inl ⟨by rfl, ?_⟩) ?_ ?_
        rotate_left
        ·intro w'
         go_simp
         with_reducible rfl
        rotate_left
        ·simp only [Act.put, List.setIfInBounds_toArray, List.set_cons_zero, List.set_cons_succ, i64_w, i32_w]
         rfl
        refine pure_ (i := 5) (N := some 46) (v := ?_) (a' := ?_) #[true, false, true, true, false, true, false, false, false, false] rfl rfl (any_of HT_.out (by kernel_rfl)) (fun _ _ _ h => h) (Or.inl ⟨by rfl, ?_⟩) ?_ ?_
        rotate_left
        ·intro w'
         go_simp
         with_reducible rfl
        rotate_left
        ·simp only [Act.put, List.setIfInBounds_toArray, List.set_cons_zero, List.set_cons_succ, i64_w, i32_w]
         rfl
        refine take_ (i := 1) (N := some 42) (v := ?_) (a' := ?_) #[true, true, true, true, false, true, false, false, false, false] rfl rfl (take_ofW HT_.out HW_.out (by kernel_rfl)) (fun _ _ _ h => h) (Or.inl ⟨by rfl, ?_⟩) hHeld ?_ ?_
        rotate_left
        ·rintro w' ⟨s0, s1, s2, s3, s4, s5⟩
         go_simp
         with_reducible rfl
        rotate_left
        ·simp only [Act.put, List.setIfInBounds_toArray, List.set_cons_zero, List.set_cons_succ, i64_w, i32_w]
         rfl
        refine join_ (σ := Value) 3 #[true, true, true, true, true, true, true, false, false, false] (fun s_ => [(45, .int .i64 t357), (47, s_)]) (fun s_ w' => (w'.cell? ⟨gb327, 0, none⟩ = some (.int .i64 t313) ∧ w'.cell? ⟨gb327, 1, none⟩ = some (.int .i64 t314) ∧ w'.cell? ⟨gb327, 2, none⟩ = some (.int .i64 t315) ∧ w'.cell? ⟨gb327, 3, none⟩ = some (.slice Ao12 t316.length co12) ∧ w'.cell? ⟨gb327, 4, none⟩ = some (.slice Ao13 t319.length co13) ∧ w'.cell? ⟨gb327, 5, none⟩ = some (.slice Ao14 t322.length co14)) ∧ (Kd.R (Kd.int .i64) 3 w' w.heap.size (fun k_ => some k_ ≠ (.slice Ao13 t319.length co13 : Value).ownBlock ∧ some k_ ≠ (.slice Ao14 t322.length co14 : Value).ownBlock ∧ some k_ ≠ (s_ : Value).ownBlock) (.slice Ao12 t316.length co12) t316) ∧ (Kd.R (Kd.int .i64) 3 w' w.heap.size (fun k_ => some k_ ≠ (.slice Ao12 t316.length co12 : Value).ownBlock ∧ some k_ ≠ (.slice Ao14 t322.length co14 : Value).ownBlock ∧ some k_ ≠ (s_ : Value).ownBlock) (.slice Ao13 t319.length co13) t319) ∧ (Kd.R (Kd.int .i64) 3 w' w.heap.size (fun k_ => some k_ ≠ (.slice Ao12 t316.length co12 : Value).ownBlock ∧ some k_ ≠ (.slice Ao13 t319.length co13 : Value).ownBlock ∧ some k_ ≠ (s_ : Value).ownBlock) (.slice Ao14 t322.length co14) t322) ∧ (Kd.R (Kd.int .i64) 3 w' w.heap.size (fun k_ => some k_ ≠ (.slice Ao12 t316.length co12 : Value).ownBlock ∧ some k_ ≠ (.slice Ao13 t319.length co13 : Value).ownBlock ∧ some k_ ≠ (.slice Ao14 t322.length co14 : Value).ownBlock) s_ y360) ∧ (w'.heap[gb312]? = some (.cells #[.int .i64 0, .int .i64 0, .int .i64 0, .slice none 0 0, .slice none 0 0, .slice none 0 0] 30 (0, 0))) ∧ (w'.heap[gb327]? = some (.cells #[.int .i64 t313, .int .i64 t314, .int .i64 t315, .slice Ao12 t316.length co12, .slice Ao13 t319.length co13, .slice Ao14 t322.length co14] 30 (0, 0))) ∧ (IsS76 w0 w' g s0_0 t358 t359) ∧ (KeepBut w w' g none) ∧ (Below w0.heap.size w0 w')) ?_ ?_
        rotate_left
        ·intro hCont
         refine two_ (i := 4) (j := 6) (Ni := some 45) (Nj := some 47) #[true, true, true, true, true, true, false, false, false, false] #[true, true, true, true, false, true, true, false, false, false] rfl rfl rfl rfl (two_of HT_.out (by kernel_rfl)) (by decide) (by decide) (fun K hK => ?_) (fun K hK => ?_)
         ·skip
          refine goes_ Try.func60 (by kernel_rfl) rfl #[.pointer (some ⟨g, 0, none⟩), .int .i64 t328] (by rfl) rfl rfl (by (try simp only [List.map_toArray, List.map_cons, List.map_nil]); first | done | rfl | (simp only [List.length_drop, List.length_take]; rfl)) ?_
          with_reducible refine (spec_l1Cur_pick.calls g s0_0 t330 t331 t328 t357 t358 t359 w0 _ ?side1 ?side2 A52.out).mono ?_
          (case side1 => exact IsS76.q HI0)
          (case side2 => exact hbI_ HB (IsS76.ge HI0.out))
          rintro e w58 ⟨rfl, hi, hb, hk⟩
          refine ⟨_, rfl, ?_⟩
          have n0_ := Aside0.mk (KeepBut.blk hk (kp_ BK312) NB312_0.out (by simp))
          have n1_ := IsS76.rk HI0 HO318 hk
          have n2_ := IsS76.rk HI0 HO321 hk
          have n3_ := IsS76.rk HI0 HO324 hk
          have n4_ := Aside0.mk (KeepBut.blk hk (kp_ BK327) NB327_0.out (by simp))
          have n5_ := Aside0.mk (KeepBut.trans (hk_ HK) hk (.inl rfl))
          have n6_ := Aside0.mk (hb)
          have n7_ := Aside0.mk (hi)
          clear BK312
          clear HO318
          clear HO321
          clear HO324
          clear BK327
          clear HK
          clear HB
          clear HI0
          have BK312 := n0_
          have HO318 := n1_
          have HO321 := n2_
          have HO324 := n3_
          have BK327 := n4_
          have HK := n5_
          have HB := n6_
          have HI0 := n7_
          clear n0_ n1_ n2_ n3_ n4_ n5_ n6_ n7_
          (try clear hb)
          (try clear hb2)
          (try clear hk)
          (try clear hi)
          refine hK.out _ _ ⟨(blk_cell BK327.out 0).trans rfl, (blk_cell BK327.out 1).trans rfl, (blk_cell BK327.out 2).trans rfl, (blk_cell BK327.out 3).trans rfl, (blk_cell BK327.out 4).trans rfl, (blk_cell BK327.out 5).trans rfl⟩ (fun hHeld => ?_)
          clear hK K
          refine norm_ (a' := ?_) ?_ ?_
          rotate_left
          ·show Act.put _ (some 45) _ = _
           simp only [Act.put, List.setIfInBounds_toArray, List.set_cons_zero, List.set_cons_succ, i64_w, i32_w]
           rfl
          refine one_ (i := 6) (N := some 47) #[true, true, true, true, true, true, true, false, false, false] rfl rfl (one_of HT_.out (by kernel_rfl)) (by decide) (fun K hK => ?_)
          refine Kd.R_lit_step (Kd.int .i64) _ 3 ?hg (N := 47) ?hd (xs := ([(-1), 4, 5] : List Int)) (inner := [.int .i64 (-1), .int .i64 4, .int .i64 5]) (ok := fun _ => True) (okp := fun _ => True) ?hr ?hp (fun _ hk => hk) trivial (Below.refl _ _) (Nat.le_refl _) (by simp) ?_; (case hd => rfl); (case hg => rfl); (case hr => first | (go_simp; done) | (go_simp; rfl)); (case hp => exact (Reps.one (show Kd.M (Kd.int .i64) _ _ _ (-1) [.int .i64 (-1)] from rfl) (Reps.one (show Kd.M (Kd.int .i64) _ _ _ 4 [.int .i64 4] from rfl) (Reps.one (show Kd.M (Kd.int .i64) _ _ _ 5 [.int .i64 5] from rfl) (Reps.none _ _)))))
          intro v361 w59 ho60 hb hg_ hnew_
          clear hg_ hnew_
          (first | rw [← Ny360.out] at ho60 | (simp only [Int.reduceToNat] at ho60; rw [← Ny360.out] at ho60))
          have n0_ := Aside0.mk (Kd.R_elder' (Kd.R_p HO318) (Kd.R_base ho60) hb)
          have n1_ := Aside0.mk (Kd.R_elder' (Kd.R_p HO321) (Kd.R_base ho60) hb)
          have n2_ := Aside0.mk (Kd.R_elder' (Kd.R_p HO324) (Kd.R_base ho60) hb)
          have n3_ := Aside0.mk (Kd.R_lower (Kd.R_nw (Kd.R_nw (Kd.R_nw ho60 HO318) HO321) HO324) (keep_size (hk_ HK)))
          have n4_ := Aside0.mk (IsS76.below (IsS76.q HI0) hb)
          have n5_ := Aside0.mk (blk_below (kp_ BK312) hb)
          have n6_ := Aside0.mk (blk_below (kp_ BK327) hb)
          have n7_ := Aside0.mk (KeepBut.trans (hk_ HK) (KeepBut.of_below hb g none) (.inl rfl))
          have n8_ := Aside0.mk (below_step (hbI_ HB (IsS76.ge HI0.out)) hb)
          clear HO318
          clear HO321
          clear HO324
          clear HI0
          clear BK312
          clear BK327
          clear HK
          clear HB
          have HO318 := n0_
          have HO321 := n1_
          have HO324 := n2_
          have HO362 := n3_
          have HI0 := n4_
          have BK312 := n5_
          have BK327 := n6_
          have HK := n7_
          have HB := n8_
          clear n0_ n1_ n2_ n3_ n4_ n5_ n6_ n7_ n8_
          clear hb ho60
          refine hK.out _ _ ⟨(blk_cell BK327.out 0).trans rfl, (blk_cell BK327.out 1).trans rfl, (blk_cell BK327.out 2).trans rfl, (blk_cell BK327.out 3).trans rfl, (blk_cell BK327.out 4).trans rfl, (blk_cell BK327.out 5).trans rfl⟩ (fun hHeld => ?_)
          clear hK K
          refine norm_ (a' := ?_) ?_ ?_
          rotate_left
          ·show Act.put _ (some 47) _ = _
           simp only [Act.put, List.setIfInBounds_toArray, List.set_cons_zero, List.set_cons_succ, i64_w, i32_w]
           rfl
          exact norm_ (by simp only [putAll, Act.put, List.setIfInBounds_toArray, List.set_cons_zero, List.set_cons_succ]) (hCont (v361) _ ⟨hHeld, (Kd.R_pp (Kd.R_mono HO318.out (fun _ hk => ⟨hk.1.1, ⟨hk.1.2, hk.2⟩⟩))), (Kd.R_pp (Kd.R_mono HO321.out (fun _ hk => ⟨hk.1.1, ⟨hk.1.2, hk.2⟩⟩))), (Kd.R_pp (Kd.R_mono HO324.out (fun _ hk => ⟨hk.1.1, ⟨hk.1.2, hk.2⟩⟩))), (Kd.R_pp (Kd.R_mono HO362.out (fun _ hk => ⟨hk.1.1.2, ⟨hk.1.2, hk.2⟩⟩))), (kp_ BK312), (kp_ BK327), (IsS76.q HI0), (hk_ HK), (hbI_ HB (IsS76.ge HI0.out))⟩)
         ·skip
          refine Kd.R_lit_step (Kd.int .i64) _ 3 ?hg (N := 47) ?hd (xs := ([(-1), 4, 5] : List Int)) (inner := [.int .i64 (-1), .int .i64 4, .int .i64 5]) (ok := fun _ => True) (okp := fun _ => True) ?hr ?hp (fun _ hk => hk) trivial (Below.refl _ _) (Nat.le_refl _) (by simp) ?_; (case hd => rfl); (case hg => rfl); (case hr => first | (go_simp; done) | (go_simp; rfl)); (case hp => exact (Reps.one (show Kd.M (Kd.int .i64) _ _ _ (-1) [.int .i64 (-1)] from rfl) (Reps.one (show Kd.M (Kd.int .i64) _ _ _ 4 [.int .i64 4] from rfl) (Reps.one (show Kd.M (Kd.int .i64) _ _ _ 5 [.int .i64 5] from rfl) (Reps.none _ _)))))
          intro v361 w58 ho59 hb hg_ hnew_
          clear hg_ hnew_
          (first | rw [← Ny360.out] at ho59 | (simp only [Int.reduceToNat] at ho59; rw [← Ny360.out] at ho59))
          have n0_ := Aside0.mk (Kd.R_elder' (Kd.R_p HO318) (Kd.R_base ho59) hb)
          have n1_ := Aside0.mk (Kd.R_elder' (Kd.R_p HO321) (Kd.R_base ho59) hb)
          have n2_ := Aside0.mk (Kd.R_elder' (Kd.R_p HO324) (Kd.R_base ho59) hb)
          have n3_ := Aside0.mk (Kd.R_lower (Kd.R_nw (Kd.R_nw (Kd.R_nw ho59 HO318) HO321) HO324) (keep_size (hk_ HK)))
          have n4_ := Aside0.mk (IsS76.below (IsS76.q HI0) hb)
          have n5_ := Aside0.mk (blk_below (kp_ BK312) hb)
          have n6_ := Aside0.mk (blk_below (kp_ BK327) hb)
          have n7_ := Aside0.mk (KeepBut.trans (hk_ HK) (KeepBut.of_below hb g none) (.inl rfl))
          have n8_ := Aside0.mk (below_step (hbI_ HB (IsS76.ge HI0.out)) hb)
          clear HO318
          clear HO321
          clear HO324
          clear HI0
          clear BK312
          clear BK327
          clear HK
          clear HB
          have HO318 := n0_
          have HO321 := n1_
          have HO324 := n2_
          have HO362 := n3_
          have HI0 := n4_
          have BK312 := n5_
          have BK327 := n6_
          have HK := n7_
          have HB := n8_
          clear n0_ n1_ n2_ n3_ n4_ n5_ n6_ n7_ n8_
          clear hb ho59
          refine hK.out _ _ ⟨(blk_cell BK327.out 0).trans rfl, (blk_cell BK327.out 1).trans rfl, (blk_cell BK327.out 2).trans rfl, (blk_cell BK327.out 3).trans rfl, (blk_cell BK327.out 4).trans rfl, (blk_cell BK327.out 5).trans rfl⟩ (fun hHeld => ?_)
          clear hK K
          refine norm_ (a' := ?_) ?_ ?_
          rotate_left
          ·show Act.put _ (some 47) _ = _
           simp only [Act.put, List.setIfInBounds_toArray, List.set_cons_zero, List.set_cons_succ, i64_w, i32_w]
           rfl
          refine one_ (i := 4) (N := some 45) #[true, true, true, true, true, true, true, false, false, false] rfl rfl (one_of HT_.out (by kernel_rfl)) (by decide) (fun K hK => ?_)
          refine goes_ Try.func60 (by kernel_rfl) rfl #[.pointer (some ⟨g, 0, none⟩), .int .i64 t328] (by rfl) rfl rfl (by (try simp only [List.map_toArray, List.map_cons, List.map_nil]); first | done | rfl | (simp only [List.length_drop, List.length_take]; rfl)) ?_
          with_reducible refine (spec_l1Cur_pick.calls g s0_0 t330 t331 t328 t357 t358 t359 w0 _ ?side1 ?side2 A52.out).mono ?_
          (case side1 => exact IsS76.q HI0)
          (case side2 => exact hbI_ HB (IsS76.ge HI0.out))
          rintro e w60 ⟨rfl, hi, hb, hk⟩
          refine ⟨_, rfl, ?_⟩
          have n0_ := Aside0.mk (KeepBut.blk hk (kp_ BK312) NB312_0.out (by simp))
          have n1_ := IsS76.rk HI0 HO318 hk
          have n2_ := IsS76.rk HI0 HO321 hk
          have n3_ := IsS76.rk HI0 HO324 hk
          have n4_ := Aside0.mk (KeepBut.blk hk (kp_ BK327) NB327_0.out (by simp))
          have n5_ := IsS76.rk HI0 HO362 hk
          have n6_ := Aside0.mk (KeepBut.trans (hk_ HK) hk (.inl rfl))
          have n7_ := Aside0.mk (hb)
          have n8_ := Aside0.mk (hi)
          clear BK312
          clear HO318
          clear HO321
          clear HO324
          clear BK327
          clear HO362
          clear HK
          clear HB
          clear HI0
          have BK312 := n0_
          have HO318 := n1_
          have HO321 := n2_
          have HO324 := n3_
          have BK327 := n4_
          have HO362 := n5_
          have HK := n6_
          have HB := n7_
          have HI0 := n8_
          clear n0_ n1_ n2_ n3_ n4_ n5_ n6_ n7_ n8_
          (try clear hb)
          (try clear hb2)
          (try clear hk)
          (try clear hi)
          refine hK.out _ _ ⟨(blk_cell BK327.out 0).trans rfl, (blk_cell BK327.out 1).trans rfl, (blk_cell BK327.out 2).trans rfl, (blk_cell BK327.out 3).trans rfl, (blk_cell BK327.out 4).trans rfl, (blk_cell BK327.out 5).trans rfl⟩ (fun hHeld => ?_)
          clear hK K
          refine norm_ (a' := ?_) ?_ ?_
          rotate_left
          ·show Act.put _ (some 45) _ = _
           simp only [Act.put, List.setIfInBounds_toArray, List.set_cons_zero, List.set_cons_succ, i64_w, i32_w]
           rfl
          exact norm_ (by simp only [putAll, Act.put, List.setIfInBounds_toArray, List.set_cons_zero, List.set_cons_succ]) (hCont (v361) _ ⟨hHeld, (Kd.R_pp (Kd.R_mono HO318.out (fun _ hk => ⟨hk.1.1, ⟨hk.1.2, hk.2⟩⟩))), (Kd.R_pp (Kd.R_mono HO321.out (fun _ hk => ⟨hk.1.1, ⟨hk.1.2, hk.2⟩⟩))), (Kd.R_pp (Kd.R_mono HO324.out (fun _ hk => ⟨hk.1.1, ⟨hk.1.2, hk.2⟩⟩))), (Kd.R_pp (Kd.R_mono HO362.out (fun _ hk => ⟨hk.1.1.2, ⟨hk.1.2, hk.2⟩⟩))), (kp_ BK312), (kp_ BK327), (IsS76.q HI0), (hk_ HK), (hbI_ HB (IsS76.ge HI0.out))⟩)
        rintro v361 w61 ⟨hS_, h0_, h1_, h2_, h3_, h4_, h5_, h6_, h7_, h8_⟩
        have n0_ : Aside0 (Kd.R (Kd.int .i64) 3 w61 w.heap.size (fun k_ => some k_ ≠ (.slice Ao13 t319.length co13 : Value).ownBlock ∧ some k_ ≠ (.slice Ao14 t322.length co14 : Value).ownBlock ∧ some k_ ≠ (v361 : Value).ownBlock) (.slice Ao12 t316.length co12) t316) := ⟨h0_⟩
        have n1_ : Aside0 (Kd.R (Kd.int .i64) 3 w61 w.heap.size (fun k_ => some k_ ≠ (.slice Ao12 t316.length co12 : Value).ownBlock ∧ some k_ ≠ (.slice Ao14 t322.length co14 : Value).ownBlock ∧ some k_ ≠ (v361 : Value).ownBlock) (.slice Ao13 t319.length co13) t319) := ⟨h1_⟩
        have n2_ : Aside0 (Kd.R (Kd.int .i64) 3 w61 w.heap.size (fun k_ => some k_ ≠ (.slice Ao12 t316.length co12 : Value).ownBlock ∧ some k_ ≠ (.slice Ao13 t319.length co13 : Value).ownBlock ∧ some k_ ≠ (v361 : Value).ownBlock) (.slice Ao14 t322.length co14) t322) := ⟨h2_⟩
        have n3_ : Aside0 (Kd.R (Kd.int .i64) 3 w61 w.heap.size (fun k_ => some k_ ≠ (.slice Ao12 t316.length co12 : Value).ownBlock ∧ some k_ ≠ (.slice Ao13 t319.length co13 : Value).ownBlock ∧ some k_ ≠ (.slice Ao14 t322.length co14 : Value).ownBlock) v361 y360) := ⟨h3_⟩
        have n4_ : Aside0 (w61.heap[gb312]? = some (.cells #[.int .i64 0, .int .i64 0, .int .i64 0, .slice none 0 0, .slice none 0 0, .slice none 0 0] 30 (0, 0))) := ⟨h4_⟩
        have n5_ : Aside0 (w61.heap[gb327]? = some (.cells #[.int .i64 t313, .int .i64 t314, .int .i64 t315, .slice Ao12 t316.length co12, .slice Ao13 t319.length co13, .slice Ao14 t322.length co14] 30 (0, 0))) := ⟨h5_⟩
        have n6_ : Aside0 (IsS76 w0 w61 g s0_0 t358 t359) := ⟨h6_⟩
        have n7_ : Aside0 (KeepBut w w61 g none) := ⟨h7_⟩
        have n8_ : Aside0 (Below w0.heap.size w0 w61) := ⟨h8_⟩
        clear HO318
        clear HO321
        clear HO324
        clear BK312
        clear BK327
        clear HI0
        clear HK
        clear HB
        clear h0_ h1_ h2_ h3_ h4_ h5_ h6_ h7_ h8_
        have HO318 := n0_
        have HO321 := n1_
        have HO324 := n2_
        have HO362 := n3_
        have BK312 := n4_
        have BK327 := n5_
        have HI0 := n6_
        have HK := n7_
        have HB := n8_
        clear n0_ n1_ n2_ n3_ n4_ n5_ n6_ n7_ n8_
        have hHeld : w61.cell? ⟨gb327, 0, none⟩ = some (.int .i64 t313) ∧ w61.cell? ⟨gb327, 1, none⟩ = some (.int .i64 t314) ∧ w61.cell? ⟨gb327, 2, none⟩ = some (.int .i64 t315) ∧ w61.cell? ⟨gb327, 3, none⟩ = some (.slice Ao12 t316.length co12) ∧ w61.cell? ⟨gb327, 4, none⟩ = some (.slice Ao13 t319.length co13) ∧ w61.cell? ⟨gb327, 5, none⟩ = some (.slice Ao14 t322.length co14) := hS_
        obtain ⟨Ao62, co62, eo62⟩ := Kd.R_slice HO362.out
        (first | subst eo62 | (injection eo62 with f1_ f2_ f3_; have f4_ := f1_.symm; have f5_ := f3_.symm; clear f1_ f2_ f3_; subst f4_; subst f5_))
        refine norm_ (a' := ?_) ?_ ?_
        rotate_left
        ·simp only [putAll, Act.put, List.setIfInBounds_toArray, List.set_cons_zero, List.set_cons_succ]
         rfl
        refine one_ (i := 7) (N := some 48) #[true, true, true, true, true, true, true, true, false, false] rfl rfl (one_of HT_.out (by kernel_rfl)) (by decide) (fun K hK => ?_)
        refine goes_ Try.func57 (by kernel_rfl) rfl #[.pointer (some ⟨g, 0, none⟩), .slice Ao62 y360.length co62] (by rfl) rfl rfl (by (try simp only [List.map_toArray, List.map_cons, List.map_nil]); first | done | rfl | (simp only [List.length_drop, List.length_take]; rfl)) ?_
        with_reducible refine (spec_l1Cur_among.calls g s0_0 t358 t359 _ _ y360 t363 t364 t365 w0 _ ?side1 ?side2 ?side3 ?side4 ?side5 A53.out).mono ?_
        (case side1 => exact IsS76.q HI0)
        (case side2 => exact hbI_ HB (IsS76.ge HI0.out))
        (case side3 => exact Kd.C_o HO362)
        (case side4 => exact (Kd.R_reads' HO362.out).2.1)
        (case side5 => exact far_slice (IsS76.own_ne HI0.out HO362.out (by decide)))
        rintro e w63 ⟨rfl, hi, hb, hk⟩
        refine ⟨_, rfl, ?_⟩
        have n0_ := Aside0.mk (KeepBut.blk hk (kp_ BK312) NB312_0.out (by simp))
        have n1_ := IsS76.rk HI0 HO318 hk
        have n2_ := IsS76.rk HI0 HO321 hk
        have n3_ := IsS76.rk HI0 HO324 hk
        have n4_ := Aside0.mk (KeepBut.blk hk (kp_ BK327) NB327_0.out (by simp))
        have n5_ := IsS76.rk HI0 HO362 hk
        have n6_ := Aside0.mk (KeepBut.trans (hk_ HK) hk (.inl rfl))
        have n7_ := Aside0.mk (hb)
        have n8_ := Aside0.mk (hi)
        clear BK312
        clear HO318
        clear HO321
        clear HO324
        clear BK327
        clear HO362
        clear HK
        clear HB
        clear HI0
        have BK312 := n0_
        have HO318 := n1_
        have HO321 := n2_
        have HO324 := n3_
        have BK327 := n4_
        have HO362 := n5_
        have HK := n6_
        have HB := n7_
        have HI0 := n8_
        clear n0_ n1_ n2_ n3_ n4_ n5_ n6_ n7_ n8_
        (try clear hb)
        (try clear hb2)
        (try clear hk)
        (try clear hi)
        have p56 : 0 ≤ (t357 : Int) := of_decide_eq_true (by first | (with_reducible assumption) | assumption)
        have q56 : (t357 : Int) < ((t322.length : Int) : Int) := of_decide_eq_true (by first | (with_reducible assumption) | assumption)
        obtain ⟨go56, co56, eo56, gb56, gl56, cl56, HG56⟩ := Kd.R_form HO324.out (by omega)
        (first | cases eo56 | (injection eo56 with ea_ en_ ec_; (first | subst ea_ | (injection ea_ with ea_; subst ea_)); subst ec_; clear en_))
        have GB56 := Aside0.mk gb56
        have GG56 := Aside0.mk HG56
        clear gb56 gl56 HG56
        obtain ⟨hx56_0, hf56_0⟩ := Kd.R_celln 0 HO324.out (t357 : Int) p56 q56
        replace p56 := eq_true p56
        replace q56 := eq_true q56
        have HN0_go56 := Aside0.mk (show g ≠ go56 from by have h_ := IsS76.own_ne HI0.out HO324.out (by decide); intro e_; exact h_ (by rw [e_]; rfl))
        have HP64 := Kd.R_putn HO324.out (t357 : Int) t363
        rw [← Ny366.out] at HP64
        have HQ64 := Aside0.mk HP64
        clear HP64
        refine hK.out _ _ ⟨(blk_cell BK327.out 0).trans rfl, (blk_cell BK327.out 1).trans rfl, (blk_cell BK327.out 2).trans rfl, (blk_cell BK327.out 3).trans rfl, (blk_cell BK327.out 4).trans rfl, (blk_cell BK327.out 5).trans rfl⟩ (fun hHeld => ?_)
        clear hK K
        refine norm_ (a' := ?_) ?_ ?_
        rotate_left
        ·show Act.put _ (some 48) _ = _
         simp only [Act.put, List.setIfInBounds_toArray, List.set_cons_zero, List.set_cons_succ, i64_w, i32_w]
         rfl
        refine pure_ (i := 8) (N := some 49) (v := ?_) (a' := ?_) #[true, true, true, true, true, true, true, true, true, false] rfl rfl (any_of HT_.out (by kernel_rfl)) (fun _ _ _ h => h) (Or.inl ⟨by rfl, ?_⟩) ?_ ?_
        rotate_left
        ·intro w'
         go_simp
         with_reducible rfl
        rotate_left
        ·simp only [Act.put, List.setIfInBounds_toArray, List.set_cons_zero, List.set_cons_succ, i64_w, i32_w]
         rfl
        refine last_ (i := 9) (N := none) #[true, true, true, true, true, true, true, true, true, true] rfl rfl (one_of HT_.out (by kernel_rfl)) (by decide) (fun K hK => ?_)
        refine skip_ (w1 := ?_) (by rfl) rfl ?_ ?_
        rotate_left
        ·go_simp
         rfl
        refine hK.out _ _ ?_
        clear hK K
        refine done_ (done_of HT_.out (by kernel_rfl)) ?_
        try go_wp2
        go_meet
        case rel => exact ⟨_, (t364), (t365), (t313), (t314), (t315), (t316), (t319), (y366), (.slice Ao12 t316.length co12), (.slice Ao13 t319.length co13), (.slice (some ⟨go56, 0, none⟩) t322.length co14), H', ⟨by first | omega | exact Nat.le_refl _⟩, ⟨Kd.R_pp (Kd.R_mono (Kd.R_far (p := ⟨go56, (t357 : Int).toNat, none⟩) (Kd.R_mono HO318.out (fun k_ hk => (⟨hk, fun e_ => hk.2.1 (by rw [e_]; rfl)⟩ : _ ∧ k_ ≠ go56))) (fun _ hk => hk.2) (.int .i64 t363)) (fun _ hk => ⟨hk.1.1, hk.1.2.1⟩))⟩, ⟨Kd.R_pp (Kd.R_mono (Kd.R_far (p := ⟨go56, (t357 : Int).toNat, none⟩) (Kd.R_mono HO321.out (fun k_ hk => (⟨hk, fun e_ => hk.2.1 (by rw [e_]; rfl)⟩ : _ ∧ k_ ≠ go56))) (fun _ hk => hk.2) (.int .i64 t363)) (fun _ hk => ⟨hk.1.1, hk.1.2.1⟩))⟩, ⟨Kd.R_pp (Kd.R_mono HQ64.out (fun _ hk => ⟨hk.1, hk.2.1⟩))⟩, ⟨by (with_reducible repeat (first | refine blk_drewN ?_ _ | refine blk_drew ?_ | refine blk_alloc ?_ _)); refine blk_far ?_ (by have h_ := Kd.R_ne HO324.out BK312.out (by decide); intro e_; exact h_ (by rw [e_]; rfl)) _; (with_reducible repeat (first | refine blk_drewN ?_ _ | refine blk_drew ?_ | refine blk_alloc ?_ _)); exact BK312.out⟩, ⟨by (with_reducible repeat (first | refine blk_drewN ?_ _ | refine blk_drew ?_ | refine blk_alloc ?_ _)); refine blk_far ?_ (by have h_ := Kd.R_ne HO324.out BK327.out (by decide); intro e_; exact h_ (by rw [e_]; rfl)) _; (with_reducible repeat (first | refine blk_drewN ?_ _ | refine blk_drew ?_ | refine blk_alloc ?_ _)); exact BK327.out⟩, ⟨IsS76.q HI0⟩, ⟨by repeat (first | (with_reducible first | exact HK.out | apply KeepBut.set_ | apply keep_drewN | apply keep_drew | apply keep_alloc | refine keep_far ?_ GB56.out _ | refine keep_far ?_ GW312.out _ | refine keep_far ?_ GW327.out _) | exact HK.out)⟩, ⟨by repeat (first | (with_reducible first | exact HB.out | apply below_alloc | apply pw_below_drewN | apply below_drew1 | refine below_set ?_ (Nat.le_trans HL.out GB56.out) | refine below_set ?_ (IsS76.ge HI0.out) | refine below_set ?_ GE312.out | refine below_set ?_ GE327.out) | exact HB.out)⟩⟩
       ·rw [if_neg c55] at H
        exact absurd H (by simp)
      ·rw [if_neg c54] at H
       exact absurd H (by simp)
     ·rw [if_neg c51] at H
      have c51b0 : (t329 == 3) = false := beq_eq_false_iff_ne.mpr c51
      have c51b1 : (t329 != 3) = true := bne_iff_ne.mpr c51
      by_cases c65 : t329 = 4
      ·rw [if_pos c65] at H
       have c65b0 : (t329 == 4) = true := beq_iff_eq.mpr c65
       have c65b1 : (t329 != 4) = false := bne_eq_false_iff_eq.mpr c65
       clear c65
       by_cases c66 : t322.length < 17592186044416
       ·rw [if_pos c66] at H
        have LMc66 := Aside0.mk c66
        clear c66
        obtain ⟨y367, hy367⟩ : ∃ y_ : List Int, y_ = (t322 ++ [0]) := ⟨_, rfl⟩
        replace H : (spec_l1Cur_anyModel.j0 k s0_0 t330 t331 t313 t314 t315 t316 t319 y367) = some (r1, r2, r3, r4, r5, r6, r7, r8) := by first | (rw [hy367]; with_reducible exact H) | (have H2_ := (Option.bind_some _ _).symm.trans H; rw [hy367]; with_reducible exact H2_) | (have H2_ := (Option.bind_some _ _).symm.trans H; with_reducible exact H2_) | with_reducible exact H | (rw [hy367]; exact H) | exact H
        have Ny367 := Aside0.mk hy367
        clear hy367
        have H' := Aside0.mk H
        clear H
        have hnb67 := NB327_312.out
        have hnc67 := NB312_327.out
        have hnb68 := NB327_0.out
        have hnc68 := NB0_327.out
        have hcz69_0 : w16.cell? ⟨gb327, 0, none⟩ = some (.int .i64 t313) := (blk_cell BK327.out 0).trans rfl
        have hcz69_1 : w16.cell? ⟨gb327, 1, none⟩ = some (.int .i64 t314) := (blk_cell BK327.out 1).trans rfl
        have hcz69_2 : w16.cell? ⟨gb327, 2, none⟩ = some (.int .i64 t315) := (blk_cell BK327.out 2).trans rfl
        have hcz69_3 : w16.cell? ⟨gb327, 3, none⟩ = some (.slice Ao12 t316.length co12) := (blk_cell BK327.out 3).trans rfl
        have hcz69_4 : w16.cell? ⟨gb327, 4, none⟩ = some (.slice Ao13 t319.length co13) := (blk_cell BK327.out 4).trans rfl
        have hcz69_5 : w16.cell? ⟨gb327, 5, none⟩ = some (.slice Ao14 t322.length co14) := (blk_cell BK327.out 5).trans rfl
        have hfz69_0 := blk_frozen BK327.out 0
        have hfz69_1 := blk_frozen BK327.out 1
        have hfz69_2 := blk_frozen BK327.out 2
        have hfz69_3 := blk_frozen BK327.out 3
        have hfz69_4 := blk_frozen BK327.out 4
        have hfz69_5 := blk_frozen BK327.out 5
        go_wp2_with (first | ((with_reducible refine gate_builtin (b := .append) (xs := #[.tmp 53, .tmp 54]) rfl ?_); at_builtin; refine Kd.R_append (Kd.int .i64) w.heap.size rfl (.tmp 53) (.tmp 54) 24 3 (.int .i64 0) 8 rfl Try.underlying24 info3 rfl (by decide) (by omega) (.slice Ao14 t322.length co14) t322 0 [.int .i64 0] (fun k_ => some k_ ≠ (.slice Ao12 t316.length co12 : Value).ownBlock ∧ some k_ ≠ (.slice Ao13 t319.length co13 : Value).ownBlock) (fun _ => False) rfl rfl ?aP (fun _ hk => hk.elim) ?aF ?aO (Below.refl _ _) ?aS ?aL ?_; (case aP => exact rfl); (case aF => exact (fun k_ hk => ⟨Kd.fresh' (Kd.R_lt (Kd.R_p HO318)) k_ hk, Kd.fresh' (Kd.R_lt (Kd.R_p HO321)) k_ hk⟩)); (case aO => exact (Kd.R_p HO324)); (case aS => exact (keep_size (hk_ HK))); (case aL => have := LMc66.out; omega); intro v368 w70 ho hb hg hat; rw [← Ny367.out] at ho; have HO369 := Aside0.mk (ho); replace BK312 := Aside0.mk (blk_grown (kp_ BK312) hg (Kd.R_ne HO324.out BK312.out (by decide))); replace HO318 := Aside0.mk (Kd.R_after (ok := (fun k_ => some k_ ≠ (.slice Ao13 t319.length co13 : Value).ownBlock)) (Kd.R_p HO318) hg hat); replace HO321 := Aside0.mk (Kd.R_after (ok := (fun k_ => some k_ ≠ (.slice Ao12 t316.length co12 : Value).ownBlock)) (Kd.R_p HO321) hg hat); replace BK327 := Aside0.mk (blk_grown (kp_ BK327) hg (Kd.R_ne HO324.out BK327.out (by decide))); replace HB := Aside0.mk (below_weaken (hbI_ HB (IsS76.ge HI0.out)) HL.out hb); replace HK := Aside0.mk (KeepBut.trans (hk_ HK) (KeepBut.of_grown hg g) (Kd.R_base2 HO324.out)); replace HI0 := Aside0.mk (IsS76.grown (IsS76.q HI0) hg (IsS76.own_ne HI0.out HO324.out (by decide))); clear HO324; clear ho hb hg hat; obtain ⟨Ao71, co71, eo71⟩ := Kd.R_slice HO369.out; subst eo71; obtain ⟨hcz72_0, hcz72_1, hcz72_2, hcz72_3, hcz72_4, hcz72_5, hfz72_0, hfz72_1, hfz72_2, hfz72_3, hfz72_4, hfz72_5⟩ := bx6 BK327))
        go_meet
        case rel => exact ⟨_, (t330), (t331), (t313), (t314), (t315), (t316), (t319), (y367), (.slice Ao12 t316.length co12), (.slice Ao13 t319.length co13), (.slice Ao71 y367.length co71), H', ⟨by first | omega | exact Nat.le_refl _⟩, ⟨Kd.R_mono (Kd.R_s HO318 BK327) (fun _ hk => ⟨hk.1, hk.2⟩)⟩, ⟨Kd.R_mono (Kd.R_s HO321 BK327) (fun _ hk => ⟨hk.1, hk.2⟩)⟩, ⟨Kd.R_mono (Kd.R_s HO369 BK327) (fun _ hk => ⟨hk.1, hk.2⟩)⟩, ⟨kf_ BK312 NB312_327⟩, ⟨kpq_ (kputs BK327 [(5, _)])⟩, ⟨IsS76.q HI0⟩, ⟨hk_ HK⟩, ⟨hbI_ HB (IsS76.ge HI0.out)⟩⟩
       ·rw [if_neg c66] at H
        exact absurd H (by simp)
      ·rw [if_neg c65] at H
       have c65b0 : (t329 == 4) = false := beq_eq_false_iff_ne.mpr c65
       have c65b1 : (t329 != 4) = true := bne_iff_ne.mpr c65
       have H' := Aside0.mk H
       clear H
       go_wp2
       go_meet
       case rel => exact ⟨_, (t330), (t331), (t313), (t314), (t315), (t316), (t319), (t322), (.slice Ao12 t316.length co12), (.slice Ao13 t319.length co13), (.slice Ao14 t322.length co14), H', ⟨by first | omega | exact Nat.le_refl _⟩, ⟨Kd.R_p HO318⟩, ⟨Kd.R_p HO321⟩, ⟨Kd.R_p HO324⟩, ⟨kp_ BK312⟩, ⟨kp_ BK327⟩, ⟨IsS76.q HI0⟩, ⟨hk_ HK⟩, ⟨hbI_ HB (IsS76.ge HI0.out)⟩⟩
 case rest =>
  clear HC5
  (try clear p2); (try clear c3); (try clear c4); (try clear p4); (try clear q4); (try clear hx4); (try clear hf4); (try clear c5); (try clear p5); (try clear q5); (try clear hx5); (try clear hf5); (try clear c6); (try clear c37); (try clear c37b0); (try clear c37b1); (try clear c40); (try clear c41); (try clear p42); (try clear q42); (try clear hx42); (try clear hf42); (try clear c51); (try clear c51b0); (try clear c51b1); (try clear c54); (try clear c54b0); (try clear c55); (try clear c55b0); (try clear p56); (try clear q56); (try clear hx56); (try clear hf56); (try clear c57); (try clear c60); (try clear c65); (try clear c65b0); (try clear c65b1); (try clear c66); (try clear c67); (try clear c68); (try clear hcz11_0); (try clear hcz11_1); (try clear hcz11_2); (try clear hcz11_3); (try clear hcz11_4); (try clear hcz11_5); (try clear hfz11_0); (try clear hfz11_1); (try clear hfz11_2); (try clear hfz11_3); (try clear hfz11_4); (try clear hfz11_5)
  obtain ⟨kq, x1001_4, x1002_4, x328000_4, x328001_4, x328002_4, x328003_4, x328004_4, x328005_4, u328003, u328004, u328005, HA, HJ4, HO_328003, HO_328004, HO_328005, BK312, BK327, HI0, HK, HB⟩ := hcut
  cases kq with
  | zero => exact absurd HA.out (by simp [spec_l1Cur_anyModel.j0])
  | succ kj4 =>
   have H := HA.out
   clear HA
   simp only [spec_l1Cur_anyModel.j0] at H
   simp only [Option.some.injEq, Prod.mk.injEq] at H
   obtain ⟨rfl, rfl, rfl, rfl, rfl, rfl, rfl, rfl⟩ := H
   have hnb73 := NB327_312.out
   have hnc73 := NB312_327.out
   have hnb74 := NB327_0.out
   have hnc74 := NB0_327.out
   have hcz75_0 : wc.cell? ⟨gb327, 0, none⟩ = some (.int .i64 x328000_4) := (blk_cell BK327.out 0).trans rfl
   have hcz75_1 : wc.cell? ⟨gb327, 1, none⟩ = some (.int .i64 x328001_4) := (blk_cell BK327.out 1).trans rfl
   have hcz75_2 : wc.cell? ⟨gb327, 2, none⟩ = some (.int .i64 x328002_4) := (blk_cell BK327.out 2).trans rfl
   have hcz75_3 : wc.cell? ⟨gb327, 3, none⟩ = some (u328003) := (blk_cell BK327.out 3).trans rfl
   have hcz75_4 : wc.cell? ⟨gb327, 4, none⟩ = some (u328004) := (blk_cell BK327.out 4).trans rfl
   have hcz75_5 : wc.cell? ⟨gb327, 5, none⟩ = some (u328005) := (blk_cell BK327.out 5).trans rfl
   have hfz75_0 := blk_frozen BK327.out 0
   have hfz75_1 := blk_frozen BK327.out 1
   have hfz75_2 := blk_frozen BK327.out 2
   have hfz75_3 := blk_frozen BK327.out 3
   have hfz75_4 := blk_frozen BK327.out 4
   have hfz75_5 := blk_frozen BK327.out 5
   have hnb76 := NB312_0.out
   have hnc76 := NB0_312.out
   have hcz77_0 : wc.cell? ⟨gb312, 0, none⟩ = some (.int .i64 0) := (blk_cell BK312.out 0).trans rfl
   have hcz77_1 : wc.cell? ⟨gb312, 1, none⟩ = some (.int .i64 0) := (blk_cell BK312.out 1).trans rfl
   have hcz77_2 : wc.cell? ⟨gb312, 2, none⟩ = some (.int .i64 0) := (blk_cell BK312.out 2).trans rfl
   have hcz77_3 : wc.cell? ⟨gb312, 3, none⟩ = some (.slice none 0 0) := (blk_cell BK312.out 3).trans rfl
   have hcz77_4 : wc.cell? ⟨gb312, 4, none⟩ = some (.slice none 0 0) := (blk_cell BK312.out 4).trans rfl
   have hcz77_5 : wc.cell? ⟨gb312, 5, none⟩ = some (.slice none 0 0) := (blk_cell BK312.out 5).trans rfl
   have hfz77_0 := blk_frozen BK312.out 0
   have hfz77_1 := blk_frozen BK312.out 1
   have hfz77_2 := blk_frozen BK312.out 2
   have hfz77_3 := blk_frozen BK312.out 3
   have hfz77_4 := blk_frozen BK312.out 4
   have hfz77_5 := blk_frozen BK312.out 5
   obtain ⟨Ao78, co78, eo78⟩ := Kd.R_slice HO_328003.out
   subst eo78
   obtain ⟨Ao79, co79, eo79⟩ := Kd.R_slice HO_328004.out
   subst eo79
   obtain ⟨Ao80, co80, eo80⟩ := Kd.R_slice HO_328005.out
   subst eo80
   go_wp2
   refine bodyPost_ret (results_cell_row rfl _ _ gb312 30 #[.int .i64 x328000_4, .int .i64 x328001_4, .int .i64 x328002_4, .slice Ao78 x328003_4.length co78, .slice Ao79 x328004_4.length co79, .slice Ao80 x328005_4.length co80] (0, 0) _ rfl (kpq_ (kputs BK312 [(0, _), (1, _), (2, _), (3, _), (4, _), (5, _)])) Try.underlying30 rfl (by kernel_rfl)) rfl ?_
   exact ⟨_, _, _, by first | rfl | (simp [errW_none, errW_some] <;> rfl) | (simp [*, errW_none, errW_some] <;> rfl), Kd.R_mono (Kd.R_s HO_328003 BK312) (fun _ hk => ⟨hk.1, hk.2⟩), Kd.R_mono (Kd.R_s HO_328004 BK312) (fun _ hk => ⟨hk.1, hk.2⟩), Kd.R_mono (Kd.R_s HO_328005 BK312) (fun _ hk => ⟨hk.1, hk.2⟩), IsS76.q HI0, hbI_ HB (IsS76.ge HI0.out), hk_ HK⟩

end Go.Proofs.Ytdfjlelbkkaloaa.PFnGrades
