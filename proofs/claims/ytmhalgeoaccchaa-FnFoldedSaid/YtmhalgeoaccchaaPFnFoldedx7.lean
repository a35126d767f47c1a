-- Laid for this claim by wip/tools/print2.sh, a changed copy of the kit's print (wip/tools/patch_print.py): not by print.sh.
import Derived.Test.YtmhalgeoaccchaaPFnFoldedx0
import Derived.Test.YtmhalgeoaccchaaPFnFoldedx2
import Derived.Test.YtmhalgeoaccchaaPFnFoldedx5
import Derived.Test.YtmhalgeoaccchaaPFnFoldedx6
namespace Go.Proofs.Ytmhalgeoaccchaa.PFnFolded
open Go.RowKit Go.Proofs.YtmhalgeoaccchaaW.PrintWords Go.Proofs.YtmhalgeoaccchaaW.PrintLast Go.Proofs.YtmhalgeoaccchaaW.PrintMore
attribute [local go_sem] max2_int min2_int max_two min_two max_three min_three max_four min_four   -- for this text's walks alone
set_option linter.unusedVariables false
set_option linter.unusedSimpArgs false

/-! ### spec_l1Cur_fieldsOf: function 15 -/
def spec_l1Cur_fieldsOf.f (s0_0 : List Int) (s0_1 : Int) (s0_2 : Int) : Option (List Int × Int × Int) := (spec_l1Cur_among.f s0_0 s0_1 s0_2 (([0, 100, 5000, 10000] : List Int))).bind fun bt323 => ((spec_l1Cur_pick.f s0_0 bt323.2.1 bt323.2.2 60).bind fun bt326 => ((spec_l1Cur_pick.f s0_0 bt326.2.1 bt326.2.2 5).bind fun bt329 => ((spec_l1Cur_pick.f s0_0 bt329.2.1 bt329.2.2 5).bind fun bt332 => ((spec_l1Cur_among.f s0_0 bt332.2.1 bt332.2.2 (([0, 1000, 250000, 10000000] : List Int))).bind fun bt338 => ((some (([bt323.1, bt326.1, bt329.1, bt332.1, bt338.1] : List Int) : List Int)).bind fun y341 => ((spec_l1Cur_pick.f s0_0 bt338.2.1 bt338.2.2 24).bind fun bt344 => (if bt344.1 = 0 then ((spec_l1Cur_pick.f s0_0 bt344.2.1 bt344.2.2 5).bind fun bt347 => ((spec_l1Cur_among.f s0_0 bt347.2.1 bt347.2.2 (([(-1), 10000000, 10000001] : List Int))).bind fun bt353 => (if 0 ≤ bt347.1 then (if bt347.1 < (y341.length : Int) then (some ((y341.set (bt347.1 : Int).toNat bt353.1), bt353.2.1, bt353.2.2)) else (none)) else (none)))) else (if bt344.1 = 1 then (if 4 ≤ (y341.length : Int) then (some ((y341.take (4 : Int).toNat), bt344.2.1, bt344.2.2)) else (none)) else (some (y341, bt344.2.1, bt344.2.2))))))))))
set_option maxHeartbeats 8000000 in
set_option maxRecDepth 100000 in
theorem spec_l1Cur_fieldsOf.calls (g : Nat) (s0_0 : List Int) (s0_1 : Int) (s0_2 : Int) (r1 : List Int) (r2 : Int) (r3 : Int) (w0 w : World) (hI : IsS40 w0 w g s0_0 s0_1 s0_2) (hB : Below w0.heap.size w0 w) (h : spec_l1Cur_fieldsOf.f s0_0 s0_1 s0_2 = some (r1, r2, r3)) :
  Calls Try.prog 15 #[.pointer (some ⟨g, 0, none⟩)] w fun e w' => ∃ v0_ : Value, e = .returned (v0_) ∧ Kd.R (Kd.int .i64) 3 w' w.heap.size (fun _ => True) v0_ r1 ∧ IsS40 w0 w' g s0_0 r2 r3 ∧ Below w0.heap.size w0 w' ∧ KeepBut w w' g none := by
 have HI0 := Aside0.mk hI
 have HK := Aside0.mk (KeepBut.refl w g none)
 have HL := Aside0.mk hB.size
 clear hI
 have HW0 := Aside0.mk hB.size
 have HB := Aside0.mk hB
 clear hB
 have H : ((spec_l1Cur_among.f s0_0 s0_1 s0_2 (([0, 100, 5000, 10000] : List Int))).bind fun bt323 => ((spec_l1Cur_pick.f s0_0 bt323.2.1 bt323.2.2 60).bind fun bt326 => ((spec_l1Cur_pick.f s0_0 bt326.2.1 bt326.2.2 5).bind fun bt329 => ((spec_l1Cur_pick.f s0_0 bt329.2.1 bt329.2.2 5).bind fun bt332 => ((spec_l1Cur_among.f s0_0 bt332.2.1 bt332.2.2 (([0, 1000, 250000, 10000000] : List Int))).bind fun bt338 => ((some (([bt323.1, bt326.1, bt329.1, bt332.1, bt338.1] : List Int) : List Int)).bind fun y341 => ((spec_l1Cur_pick.f s0_0 bt338.2.1 bt338.2.2 24).bind fun bt344 => (if bt344.1 = 0 then ((spec_l1Cur_pick.f s0_0 bt344.2.1 bt344.2.2 5).bind fun bt347 => ((spec_l1Cur_among.f s0_0 bt347.2.1 bt347.2.2 (([(-1), 10000000, 10000001] : List Int))).bind fun bt353 => (if 0 ≤ bt347.1 then (if bt347.1 < (y341.length : Int) then (some ((y341.set (bt347.1 : Int).toNat bt353.1), bt353.2.1, bt353.2.2)) else (none)) else (none)))) else (if bt344.1 = 1 then (if 4 ≤ (y341.length : Int) then (some ((y341.take (4 : Int).toNat), bt344.2.1, bt344.2.2)) else (none)) else (some (y341, bt344.2.1, bt344.2.2))))))))))) = some (r1, r2, r3) := h
 clear h
 obtain ⟨y320, hy320⟩ : ∃ y_ : List Int, y_ = (([0, 100, 5000, 10000] : List Int)) := ⟨_, rfl⟩
 replace H : ((spec_l1Cur_among.f s0_0 s0_1 s0_2 y320).bind fun bt323 => ((spec_l1Cur_pick.f s0_0 bt323.2.1 bt323.2.2 60).bind fun bt326 => ((spec_l1Cur_pick.f s0_0 bt326.2.1 bt326.2.2 5).bind fun bt329 => ((spec_l1Cur_pick.f s0_0 bt329.2.1 bt329.2.2 5).bind fun bt332 => ((spec_l1Cur_among.f s0_0 bt332.2.1 bt332.2.2 (([0, 1000, 250000, 10000000] : List Int))).bind fun bt338 => ((some (([bt323.1, bt326.1, bt329.1, bt332.1, bt338.1] : List Int) : List Int)).bind fun y341 => ((spec_l1Cur_pick.f s0_0 bt338.2.1 bt338.2.2 24).bind fun bt344 => (if bt344.1 = 0 then ((spec_l1Cur_pick.f s0_0 bt344.2.1 bt344.2.2 5).bind fun bt347 => ((spec_l1Cur_among.f s0_0 bt347.2.1 bt347.2.2 (([(-1), 10000000, 10000001] : List Int))).bind fun bt353 => (if 0 ≤ bt347.1 then (if bt347.1 < (y341.length : Int) then (some ((y341.set (bt347.1 : Int).toNat bt353.1), bt353.2.1, bt353.2.2)) else (none)) else (none)))) else (if bt344.1 = 1 then (if 4 ≤ (y341.length : Int) then (some ((y341.take (4 : Int).toNat), bt344.2.1, bt344.2.2)) else (none)) else (some (y341, bt344.2.1, bt344.2.2))))))))))) = some (r1, r2, r3) := by first | (rw [hy320]; with_reducible exact H) | (have H2_ := (Option.bind_some _ _).symm.trans H; rw [hy320]; with_reducible exact H2_) | (have H2_ := (Option.bind_some _ _).symm.trans H; with_reducible exact H2_) | with_reducible exact H | (rw [hy320]; exact H) | exact H
 have Ny320 := Aside0.mk hy320
 clear hy320
 replace H := Option.bind_eq_some_iff.mp H
 obtain ⟨⟨t323, t324, t325⟩, A20, H⟩ := H
 replace H : ((spec_l1Cur_pick.f s0_0 t324 t325 60).bind fun bt326 => ((spec_l1Cur_pick.f s0_0 bt326.2.1 bt326.2.2 5).bind fun bt329 => ((spec_l1Cur_pick.f s0_0 bt329.2.1 bt329.2.2 5).bind fun bt332 => ((spec_l1Cur_among.f s0_0 bt332.2.1 bt332.2.2 (([0, 1000, 250000, 10000000] : List Int))).bind fun bt338 => ((some (([t323, bt326.1, bt329.1, bt332.1, bt338.1] : List Int) : List Int)).bind fun y341 => ((spec_l1Cur_pick.f s0_0 bt338.2.1 bt338.2.2 24).bind fun bt344 => (if bt344.1 = 0 then ((spec_l1Cur_pick.f s0_0 bt344.2.1 bt344.2.2 5).bind fun bt347 => ((spec_l1Cur_among.f s0_0 bt347.2.1 bt347.2.2 (([(-1), 10000000, 10000001] : List Int))).bind fun bt353 => (if 0 ≤ bt347.1 then (if bt347.1 < (y341.length : Int) then (some ((y341.set (bt347.1 : Int).toNat bt353.1), bt353.2.1, bt353.2.2)) else (none)) else (none)))) else (if bt344.1 = 1 then (if 4 ≤ (y341.length : Int) then (some ((y341.take (4 : Int).toNat), bt344.2.1, bt344.2.2)) else (none)) else (some (y341, bt344.2.1, bt344.2.2)))))))))) = some (r1, r2, r3) := H
 have A2 := Aside0.mk A20
 clear A20
 replace H := Option.bind_eq_some_iff.mp H
 obtain ⟨⟨t326, t327, t328⟩, A30, H⟩ := H
 replace H : ((spec_l1Cur_pick.f s0_0 t327 t328 5).bind fun bt329 => ((spec_l1Cur_pick.f s0_0 bt329.2.1 bt329.2.2 5).bind fun bt332 => ((spec_l1Cur_among.f s0_0 bt332.2.1 bt332.2.2 (([0, 1000, 250000, 10000000] : List Int))).bind fun bt338 => ((some (([t323, t326, bt329.1, bt332.1, bt338.1] : List Int) : List Int)).bind fun y341 => ((spec_l1Cur_pick.f s0_0 bt338.2.1 bt338.2.2 24).bind fun bt344 => (if bt344.1 = 0 then ((spec_l1Cur_pick.f s0_0 bt344.2.1 bt344.2.2 5).bind fun bt347 => ((spec_l1Cur_among.f s0_0 bt347.2.1 bt347.2.2 (([(-1), 10000000, 10000001] : List Int))).bind fun bt353 => (if 0 ≤ bt347.1 then (if bt347.1 < (y341.length : Int) then (some ((y341.set (bt347.1 : Int).toNat bt353.1), bt353.2.1, bt353.2.2)) else (none)) else (none)))) else (if bt344.1 = 1 then (if 4 ≤ (y341.length : Int) then (some ((y341.take (4 : Int).toNat), bt344.2.1, bt344.2.2)) else (none)) else (some (y341, bt344.2.1, bt344.2.2))))))))) = some (r1, r2, r3) := H
 have A3 := Aside0.mk A30
 clear A30
 replace H := Option.bind_eq_some_iff.mp H
 obtain ⟨⟨t329, t330, t331⟩, A40, H⟩ := H
 replace H : ((spec_l1Cur_pick.f s0_0 t330 t331 5).bind fun bt332 => ((spec_l1Cur_among.f s0_0 bt332.2.1 bt332.2.2 (([0, 1000, 250000, 10000000] : List Int))).bind fun bt338 => ((some (([t323, t326, t329, bt332.1, bt338.1] : List Int) : List Int)).bind fun y341 => ((spec_l1Cur_pick.f s0_0 bt338.2.1 bt338.2.2 24).bind fun bt344 => (if bt344.1 = 0 then ((spec_l1Cur_pick.f s0_0 bt344.2.1 bt344.2.2 5).bind fun bt347 => ((spec_l1Cur_among.f s0_0 bt347.2.1 bt347.2.2 (([(-1), 10000000, 10000001] : List Int))).bind fun bt353 => (if 0 ≤ bt347.1 then (if bt347.1 < (y341.length : Int) then (some ((y341.set (bt347.1 : Int).toNat bt353.1), bt353.2.1, bt353.2.2)) else (none)) else (none)))) else (if bt344.1 = 1 then (if 4 ≤ (y341.length : Int) then (some ((y341.take (4 : Int).toNat), bt344.2.1, bt344.2.2)) else (none)) else (some (y341, bt344.2.1, bt344.2.2)))))))) = some (r1, r2, r3) := H
 have A4 := Aside0.mk A40
 clear A40
 replace H := Option.bind_eq_some_iff.mp H
 obtain ⟨⟨t332, t333, t334⟩, A50, H⟩ := H
 replace H : ((spec_l1Cur_among.f s0_0 t333 t334 (([0, 1000, 250000, 10000000] : List Int))).bind fun bt338 => ((some (([t323, t326, t329, t332, bt338.1] : List Int) : List Int)).bind fun y341 => ((spec_l1Cur_pick.f s0_0 bt338.2.1 bt338.2.2 24).bind fun bt344 => (if bt344.1 = 0 then ((spec_l1Cur_pick.f s0_0 bt344.2.1 bt344.2.2 5).bind fun bt347 => ((spec_l1Cur_among.f s0_0 bt347.2.1 bt347.2.2 (([(-1), 10000000, 10000001] : List Int))).bind fun bt353 => (if 0 ≤ bt347.1 then (if bt347.1 < (y341.length : Int) then (some ((y341.set (bt347.1 : Int).toNat bt353.1), bt353.2.1, bt353.2.2)) else (none)) else (none)))) else (if bt344.1 = 1 then (if 4 ≤ (y341.length : Int) then (some ((y341.take (4 : Int).toNat), bt344.2.1, bt344.2.2)) else (none)) else (some (y341, bt344.2.1, bt344.2.2))))))) = some (r1, r2, r3) := H
 have A5 := Aside0.mk A50
 clear A50
 obtain ⟨y335, hy335⟩ : ∃ y_ : List Int, y_ = (([0, 1000, 250000, 10000000] : List Int)) := ⟨_, rfl⟩
 replace H : ((spec_l1Cur_among.f s0_0 t333 t334 y335).bind fun bt338 => ((some (([t323, t326, t329, t332, bt338.1] : List Int) : List Int)).bind fun y341 => ((spec_l1Cur_pick.f s0_0 bt338.2.1 bt338.2.2 24).bind fun bt344 => (if bt344.1 = 0 then ((spec_l1Cur_pick.f s0_0 bt344.2.1 bt344.2.2 5).bind fun bt347 => ((spec_l1Cur_among.f s0_0 bt347.2.1 bt347.2.2 (([(-1), 10000000, 10000001] : List Int))).bind fun bt353 => (if 0 ≤ bt347.1 then (if bt347.1 < (y341.length : Int) then (some ((y341.set (bt347.1 : Int).toNat bt353.1), bt353.2.1, bt353.2.2)) else (none)) else (none)))) else (if bt344.1 = 1 then (if 4 ≤ (y341.length : Int) then (some ((y341.take (4 : Int).toNat), bt344.2.1, bt344.2.2)) else (none)) else (some (y341, bt344.2.1, bt344.2.2))))))) = some (r1, r2, r3) := by first | (rw [hy335]; with_reducible exact H) | (have H2_ := (Option.bind_some _ _).symm.trans H; rw [hy335]; with_reducible exact H2_) | (have H2_ := (Option.bind_some _ _).symm.trans H; with_reducible exact H2_) | with_reducible exact H | (rw [hy335]; exact H) | exact H
 have Ny335 := Aside0.mk hy335
 clear hy335
 replace H := Option.bind_eq_some_iff.mp H
 obtain ⟨⟨t338, t339, t340⟩, A60, H⟩ := H
 replace H : ((some (([t323, t326, t329, t332, t338] : List Int) : List Int)).bind fun y341 => ((spec_l1Cur_pick.f s0_0 t339 t340 24).bind fun bt344 => (if bt344.1 = 0 then ((spec_l1Cur_pick.f s0_0 bt344.2.1 bt344.2.2 5).bind fun bt347 => ((spec_l1Cur_among.f s0_0 bt347.2.1 bt347.2.2 (([(-1), 10000000, 10000001] : List Int))).bind fun bt353 => (if 0 ≤ bt347.1 then (if bt347.1 < (y341.length : Int) then (some ((y341.set (bt347.1 : Int).toNat bt353.1), bt353.2.1, bt353.2.2)) else (none)) else (none)))) else (if bt344.1 = 1 then (if 4 ≤ (y341.length : Int) then (some ((y341.take (4 : Int).toNat), bt344.2.1, bt344.2.2)) else (none)) else (some (y341, bt344.2.1, bt344.2.2)))))) = some (r1, r2, r3) := H
 have A6 := Aside0.mk A60
 clear A60
 obtain ⟨y341, hy341⟩ : ∃ y_ : List Int, y_ = (([t323, t326, t329, t332, t338] : List Int)) := ⟨_, rfl⟩
 replace H : ((spec_l1Cur_pick.f s0_0 t339 t340 24).bind fun bt344 => (if bt344.1 = 0 then ((spec_l1Cur_pick.f s0_0 bt344.2.1 bt344.2.2 5).bind fun bt347 => ((spec_l1Cur_among.f s0_0 bt347.2.1 bt347.2.2 (([(-1), 10000000, 10000001] : List Int))).bind fun bt353 => (if 0 ≤ bt347.1 then (if bt347.1 < (y341.length : Int) then (some ((y341.set (bt347.1 : Int).toNat bt353.1), bt353.2.1, bt353.2.2)) else (none)) else (none)))) else (if bt344.1 = 1 then (if 4 ≤ (y341.length : Int) then (some ((y341.take (4 : Int).toNat), bt344.2.1, bt344.2.2)) else (none)) else (some (y341, bt344.2.1, bt344.2.2))))) = some (r1, r2, r3) := by first | (rw [hy341]; with_reducible exact H) | (have H2_ := (Option.bind_some _ _).symm.trans H; rw [hy341]; with_reducible exact H2_) | (have H2_ := (Option.bind_some _ _).symm.trans H; with_reducible exact H2_) | with_reducible exact H | (rw [hy341]; exact H) | exact H
 have Ny341 := Aside0.mk hy341
 clear hy341
 replace H := Option.bind_eq_some_iff.mp H
 obtain ⟨⟨t344, t345, t346⟩, A70, H⟩ := H
 replace H : (if t344 = 0 then ((spec_l1Cur_pick.f s0_0 t345 t346 5).bind fun bt347 => ((spec_l1Cur_among.f s0_0 bt347.2.1 bt347.2.2 (([(-1), 10000000, 10000001] : List Int))).bind fun bt353 => (if 0 ≤ bt347.1 then (if bt347.1 < (y341.length : Int) then (some ((y341.set (bt347.1 : Int).toNat bt353.1), bt353.2.1, bt353.2.2)) else (none)) else (none)))) else (if t344 = 1 then (if 4 ≤ (y341.length : Int) then (some ((y341.take (4 : Int).toNat), t345, t346)) else (none)) else (some (y341, t345, t346)))) = some (r1, r2, r3) := H
 have A7 := Aside0.mk A70
 clear A70
 by_cases c8 : t344 = 0
 ·rw [if_pos c8] at H
  have c8b0 : (t344 == 0) = true := beq_iff_eq.mpr c8
  have c8b1 : (t344 != 0) = false := bne_eq_false_iff_eq.mpr c8
  clear c8
  replace H := Option.bind_eq_some_iff.mp H
  obtain ⟨⟨t347, t348, t349⟩, A90, H⟩ := H
  replace H : ((spec_l1Cur_among.f s0_0 t348 t349 (([(-1), 10000000, 10000001] : List Int))).bind fun bt353 => (if 0 ≤ t347 then (if t347 < (y341.length : Int) then (some ((y341.set (t347 : Int).toNat bt353.1), bt353.2.1, bt353.2.2)) else (none)) else (none))) = some (r1, r2, r3) := H
  have A9 := Aside0.mk A90
  clear A90
  obtain ⟨y350, hy350⟩ : ∃ y_ : List Int, y_ = (([(-1), 10000000, 10000001] : List Int)) := ⟨_, rfl⟩
  replace H : ((spec_l1Cur_among.f s0_0 t348 t349 y350).bind fun bt353 => (if 0 ≤ t347 then (if t347 < (y341.length : Int) then (some ((y341.set (t347 : Int).toNat bt353.1), bt353.2.1, bt353.2.2)) else (none)) else (none))) = some (r1, r2, r3) := by first | (rw [hy350]; with_reducible exact H) | (have H2_ := (Option.bind_some _ _).symm.trans H; rw [hy350]; with_reducible exact H2_) | (have H2_ := (Option.bind_some _ _).symm.trans H; with_reducible exact H2_) | with_reducible exact H | (rw [hy350]; exact H) | exact H
  have Ny350 := Aside0.mk hy350
  clear hy350
  replace H := Option.bind_eq_some_iff.mp H
  obtain ⟨⟨t353, t354, t355⟩, A100, H⟩ := H
  replace H : (if 0 ≤ t347 then (if t347 < (y341.length : Int) then (some ((y341.set (t347 : Int).toNat t353), t354, t355)) else (none)) else (none)) = some (r1, r2, r3) := H
  have A10 := Aside0.mk A100
  clear A100
  by_cases c11 : 0 ≤ t347
  ·rw [if_pos c11] at H
   have c11b0 : decide (0 ≤ t347) = true := decide_eq_true c11
   clear c11
   by_cases c12 : t347 < (y341.length : Int)
   ·rw [if_pos c12] at H
    have c12b0 : decide (t347 < (y341.length : Int)) = true := decide_eq_true c12
    clear c12
    obtain ⟨y356, hy356⟩ : ∃ y_ : List Int, y_ = (y341.set (t347 : Int).toNat t353) := ⟨_, rfl⟩
    replace H : (some (y356, t354, t355)) = some (r1, r2, r3) := by first | (rw [hy356]; with_reducible exact H) | (have H2_ := (Option.bind_some _ _).symm.trans H; rw [hy356]; with_reducible exact H2_) | (have H2_ := (Option.bind_some _ _).symm.trans H; with_reducible exact H2_) | with_reducible exact H | (rw [hy356]; exact H) | exact H
    have Ny356 := Aside0.mk hy356
    clear hy356
    simp only [Option.some.injEq, Prod.mk.injEq] at H
    obtain ⟨rfl, rfl, rfl⟩ := H
    go_enter Try.func15, Try.ntmps15
    go_wp2_with (first | ((with_reducible refine gate_dst (N := 5) rfl ?_); refine Kd.R_lit (Kd.int .i64) _ 3 ?hg (N := 5) ?hd (xs := ([0, 100, 5000, 10000] : List Int)) (inner := [.int .i64 0, .int .i64 100, .int .i64 5000, .int .i64 10000]) (ok := fun _ => True) (okp := fun _ => True) ?hr ?hp (fun _ hk => hk) trivial (Below.refl _ _) (Nat.le_refl _) (by simp) ?_; (case hd => rfl); (case hg => rfl); (case hr => first | (go_simp; done) | (go_simp; rfl)); (case hp => exact (Reps.one (show Kd.M (Kd.int .i64) _ _ _ 0 [.int .i64 0] from rfl) (Reps.one (show Kd.M (Kd.int .i64) _ _ _ 100 [.int .i64 100] from rfl) (Reps.one (show Kd.M (Kd.int .i64) _ _ _ 5000 [.int .i64 5000] from rfl) (Reps.one (show Kd.M (Kd.int .i64) _ _ _ 10000 [.int .i64 10000] from rfl) (Reps.none _ _)))))); intro v321 w14 ho15 hb hg_ hnew_; clear hg_ hnew_; (first | rw [← Ny320.out] at ho15 | (simp only [Int.reduceToNat] at ho15; rw [← Ny320.out] at ho15)); have HO322 := Aside0.mk (Kd.R_lower ho15 (keep_size (hk_ HK))); replace HK := hkb_ HK hb; replace HB := Aside0.mk (below_step (hbI_ HB (IsS40.ge HI0.out)) hb); replace HI0 := IsS40.b HI0 hb; clear hb ho15; obtain ⟨Ao16, co16, eo16⟩ := Kd.R_slice HO322.out; subst eo16) | ((with_reducible refine gate_callee (f := 27) rfl ?_); refine gl_ (some 6) Try.func27 #[.pointer (some ⟨g, 0, none⟩), .slice Ao16 y320.length co16] rfl rfl rfl ?_; (with_reducible refine (spec_l1Cur_among.calls g s0_0 s0_1 s0_2 _ _ y320 t323 t324 t325 w0 _ ?side1 ?side2 ?side3 ?side4 ?side5 A2.out).mono ?_); (case side1 => exact IsS40.q HI0); (case side2 => exact hbI_ HB (IsS40.ge HI0.out)); (case side3 => exact Kd.C_o HO322); (case side4 => exact (Kd.R_reads' HO322.out).2.1); (case side5 => exact far_slice (IsS40.own_ne HI0.out HO322.out (by decide))); rintro e w17 ⟨rfl, hi, hb, hk⟩; refine ⟨_, rfl, ?_⟩; have n0_ := IsS40.rk HI0 HO322 hk; have n1_ := Aside0.mk (KeepBut.trans (hk_ HK) hk (.inl rfl)); have n2_ := Aside0.mk (hb); have n3_ := Aside0.mk (hi); clear HO322 HK HB HI0; have HO322 := n0_; have HK := n1_; have HB := n2_; have HI0 := n3_; clear n0_ n1_ n2_ n3_; (try clear hb); (try clear hb2); (try clear hk); (try clear hi); try clear HO322) | ((with_reducible refine gate_callee (f := 24) rfl ?_); refine gl_ (some 8) Try.func24 #[.pointer (some ⟨g, 0, none⟩), .int .i64 60] rfl rfl rfl ?_; (with_reducible refine (spec_l1Cur_pick.calls g s0_0 t324 t325 60 t326 t327 t328 w0 _ ?side1 ?side2 A3.out).mono ?_); (case side1 => exact IsS40.q HI0); (case side2 => exact hbI_ HB (IsS40.ge HI0.out)); rintro e w18 ⟨rfl, hi, hb, hk⟩; refine ⟨_, rfl, ?_⟩; replace HK := Aside0.mk (KeepBut.trans (hk_ HK) hk (.inl rfl)); replace HB := Aside0.mk (hb); replace HI0 := Aside0.mk (hi); (try clear hb); (try clear hb2); (try clear hk); (try clear hi)) | ((with_reducible refine gate_callee (f := 24) rfl ?_); refine gl_ (some 10) Try.func24 #[.pointer (some ⟨g, 0, none⟩), .int .i64 5] rfl rfl rfl ?_; (with_reducible refine (spec_l1Cur_pick.calls g s0_0 t327 t328 5 t329 t330 t331 w0 _ ?side1 ?side2 A4.out).mono ?_); (case side1 => exact IsS40.q HI0); (case side2 => exact hbI_ HB (IsS40.ge HI0.out)); rintro e w19 ⟨rfl, hi, hb, hk⟩; refine ⟨_, rfl, ?_⟩; replace HK := Aside0.mk (KeepBut.trans (hk_ HK) hk (.inl rfl)); replace HB := Aside0.mk (hb); replace HI0 := Aside0.mk (hi); (try clear hb); (try clear hb2); (try clear hk); (try clear hi)) | ((with_reducible refine gate_callee (f := 24) rfl ?_); refine gl_ (some 12) Try.func24 #[.pointer (some ⟨g, 0, none⟩), .int .i64 5] rfl rfl rfl ?_; (with_reducible refine (spec_l1Cur_pick.calls g s0_0 t330 t331 5 t332 t333 t334 w0 _ ?side1 ?side2 A5.out).mono ?_); (case side1 => exact IsS40.q HI0); (case side2 => exact hbI_ HB (IsS40.ge HI0.out)); rintro e w20 ⟨rfl, hi, hb, hk⟩; refine ⟨_, rfl, ?_⟩; replace HK := Aside0.mk (KeepBut.trans (hk_ HK) hk (.inl rfl)); replace HB := Aside0.mk (hb); replace HI0 := Aside0.mk (hi); (try clear hb); (try clear hb2); (try clear hk); (try clear hi)) | ((with_reducible refine gate_dst (N := 14) rfl ?_); refine Kd.R_lit (Kd.int .i64) _ 3 ?hg (N := 14) ?hd (xs := ([0, 1000, 250000, 10000000] : List Int)) (inner := [.int .i64 0, .int .i64 1000, .int .i64 250000, .int .i64 10000000]) (ok := fun _ => True) (okp := fun _ => True) ?hr ?hp (fun _ hk => hk) trivial (Below.refl _ _) (Nat.le_refl _) (by simp) ?_; (case hd => rfl); (case hg => rfl); (case hr => first | (go_simp; done) | (go_simp; rfl)); (case hp => exact (Reps.one (show Kd.M (Kd.int .i64) _ _ _ 0 [.int .i64 0] from rfl) (Reps.one (show Kd.M (Kd.int .i64) _ _ _ 1000 [.int .i64 1000] from rfl) (Reps.one (show Kd.M (Kd.int .i64) _ _ _ 250000 [.int .i64 250000] from rfl) (Reps.one (show Kd.M (Kd.int .i64) _ _ _ 10000000 [.int .i64 10000000] from rfl) (Reps.none _ _)))))); intro v336 w21 ho22 hb hg_ hnew_; clear hg_ hnew_; (first | rw [← Ny335.out] at ho22 | (simp only [Int.reduceToNat] at ho22; rw [← Ny335.out] at ho22)); have HO337 := Aside0.mk (Kd.R_lower ho22 (keep_size (hk_ HK))); replace HK := hkb_ HK hb; replace HB := Aside0.mk (below_step (hbI_ HB (IsS40.ge HI0.out)) hb); replace HI0 := IsS40.b HI0 hb; clear hb ho22; obtain ⟨Ao23, co23, eo23⟩ := Kd.R_slice HO337.out; subst eo23) | ((with_reducible refine gate_callee (f := 27) rfl ?_); refine gl_ (some 15) Try.func27 #[.pointer (some ⟨g, 0, none⟩), .slice Ao23 y335.length co23] rfl rfl rfl ?_; (with_reducible refine (spec_l1Cur_among.calls g s0_0 t333 t334 _ _ y335 t338 t339 t340 w0 _ ?side1 ?side2 ?side3 ?side4 ?side5 A6.out).mono ?_); (case side1 => exact IsS40.q HI0); (case side2 => exact hbI_ HB (IsS40.ge HI0.out)); (case side3 => exact Kd.C_o HO337); (case side4 => exact (Kd.R_reads' HO337.out).2.1); (case side5 => exact far_slice (IsS40.own_ne HI0.out HO337.out (by decide))); rintro e w24 ⟨rfl, hi, hb, hk⟩; refine ⟨_, rfl, ?_⟩; have n0_ := IsS40.rk HI0 HO337 hk; have n1_ := Aside0.mk (KeepBut.trans (hk_ HK) hk (.inl rfl)); have n2_ := Aside0.mk (hb); have n3_ := Aside0.mk (hi); clear HO337 HK HB HI0; have HO337 := n0_; have HK := n1_; have HB := n2_; have HI0 := n3_; clear n0_ n1_ n2_ n3_; (try clear hb); (try clear hb2); (try clear hk); (try clear hi); try clear HO337) | ((with_reducible refine gate_dst (N := 16) rfl ?_); refine Kd.R_lit (Kd.int .i64) _ 3 ?hg (N := 16) ?hd (xs := ([t323, t326, t329, t332, t338] : List Int)) (inner := [.int .i64 t323, .int .i64 t326, .int .i64 t329, .int .i64 t332, .int .i64 t338]) (ok := fun _ => True) (okp := fun _ => True) ?hr ?hp (fun _ hk => hk) trivial (Below.refl _ _) (Nat.le_refl _) (by simp) ?_; (case hd => rfl); (case hg => rfl); (case hr => first | (go_simp; done) | (go_simp; rfl)); (case hp => exact (Reps.one (show Kd.M (Kd.int .i64) _ _ _ t323 [.int .i64 t323] from rfl) (Reps.one (show Kd.M (Kd.int .i64) _ _ _ t326 [.int .i64 t326] from rfl) (Reps.one (show Kd.M (Kd.int .i64) _ _ _ t329 [.int .i64 t329] from rfl) (Reps.one (show Kd.M (Kd.int .i64) _ _ _ t332 [.int .i64 t332] from rfl) (Reps.one (show Kd.M (Kd.int .i64) _ _ _ t338 [.int .i64 t338] from rfl) (Reps.none _ _))))))); intro v342 w25 ho26 hb hg_ hnew_; clear hg_ hnew_; (first | rw [← Ny341.out] at ho26 | (simp only [Int.reduceToNat] at ho26; rw [← Ny341.out] at ho26)); have HO343 := Aside0.mk (Kd.R_lower ho26 (keep_size (hk_ HK))); replace HK := hkb_ HK hb; replace HB := Aside0.mk (below_step (hbI_ HB (IsS40.ge HI0.out)) hb); replace HI0 := IsS40.b HI0 hb; clear hb ho26) | ((with_reducible refine gate_callee (f := 24) rfl ?_); refine gl_ (some 18) Try.func24 #[.pointer (some ⟨g, 0, none⟩), .int .i64 24] rfl rfl rfl ?_; (with_reducible refine (spec_l1Cur_pick.calls g s0_0 t339 t340 24 t344 t345 t346 w0 _ ?side1 ?side2 A7.out).mono ?_); (case side1 => exact IsS40.q HI0); (case side2 => exact hbI_ HB (IsS40.ge HI0.out)); rintro e w27 ⟨rfl, hi, hb, hk⟩; refine ⟨_, rfl, ?_⟩; have n0_ := IsS40.rk HI0 HO343 hk; have n1_ := Aside0.mk (KeepBut.trans (hk_ HK) hk (.inl rfl)); have n2_ := Aside0.mk (hb); have n3_ := Aside0.mk (hi); clear HO343 HK HB HI0; have HO343 := n0_; have HK := n1_; have HB := n2_; have HI0 := n3_; clear n0_ n1_ n2_ n3_; (try clear hb); (try clear hb2); (try clear hk); (try clear hi)) | ((with_reducible refine gate_callee (f := 24) rfl ?_); refine gl_ (some 23) Try.func24 #[.pointer (some ⟨g, 0, none⟩), .int .i64 5] rfl rfl rfl ?_; (with_reducible refine (spec_l1Cur_pick.calls g s0_0 t345 t346 5 t347 t348 t349 w0 _ ?side1 ?side2 A9.out).mono ?_); (case side1 => exact IsS40.q HI0); (case side2 => exact hbI_ HB (IsS40.ge HI0.out)); rintro e w28 ⟨rfl, hi, hb, hk⟩; refine ⟨_, rfl, ?_⟩; have n0_ := IsS40.rk HI0 HO343 hk; have n1_ := Aside0.mk (KeepBut.trans (hk_ HK) hk (.inl rfl)); have n2_ := Aside0.mk (hb); have n3_ := Aside0.mk (hi); clear HO343 HK HB HI0; have HO343 := n0_; have HK := n1_; have HB := n2_; have HI0 := n3_; clear n0_ n1_ n2_ n3_; (try clear hb); (try clear hb2); (try clear hk); (try clear hi)) | ((with_reducible refine gate_dst (N := 25) rfl ?_); refine Kd.R_lit (Kd.int .i64) _ 3 ?hg (N := 25) ?hd (xs := ([(-1), 10000000, 10000001] : List Int)) (inner := [.int .i64 (-1), .int .i64 10000000, .int .i64 10000001]) (ok := fun _ => True) (okp := fun _ => True) ?hr ?hp (fun _ hk => hk) trivial (Below.refl _ _) (Nat.le_refl _) (by simp) ?_; (case hd => rfl); (case hg => rfl); (case hr => first | (go_simp; done) | (go_simp; rfl)); (case hp => exact (Reps.one (show Kd.M (Kd.int .i64) _ _ _ (-1) [.int .i64 (-1)] from rfl) (Reps.one (show Kd.M (Kd.int .i64) _ _ _ 10000000 [.int .i64 10000000] from rfl) (Reps.one (show Kd.M (Kd.int .i64) _ _ _ 10000001 [.int .i64 10000001] from rfl) (Reps.none _ _))))); intro v351 w29 ho30 hb hg_ hnew_; clear hg_ hnew_; (first | rw [← Ny350.out] at ho30 | (simp only [Int.reduceToNat] at ho30; rw [← Ny350.out] at ho30)); have HO352 := Aside0.mk (Kd.R_lower (Kd.R_nw ho30 HO343) (keep_size (hk_ HK))); replace HO343 := Kd.R_e HO343 ho30 hb; replace HK := hkb_ HK hb; replace HB := Aside0.mk (below_step (hbI_ HB (IsS40.ge HI0.out)) hb); replace HI0 := IsS40.b HI0 hb; clear hb ho30; obtain ⟨Ao31, co31, eo31⟩ := Kd.R_slice HO352.out; subst eo31) | ((with_reducible refine gate_callee (f := 27) rfl ?_); refine gl_ (some 26) Try.func27 #[.pointer (some ⟨g, 0, none⟩), .slice Ao31 y350.length co31] rfl rfl rfl ?_; (with_reducible refine (spec_l1Cur_among.calls g s0_0 t348 t349 _ _ y350 t353 t354 t355 w0 _ ?side1 ?side2 ?side3 ?side4 ?side5 A10.out).mono ?_); (case side1 => exact IsS40.q HI0); (case side2 => exact hbI_ HB (IsS40.ge HI0.out)); (case side3 => exact Kd.C_o HO352); (case side4 => exact (Kd.R_reads' HO352.out).2.1); (case side5 => exact far_slice (IsS40.own_ne HI0.out HO352.out (by decide))); rintro e w32 ⟨rfl, hi, hb, hk⟩; refine ⟨_, rfl, ?_⟩; have n0_ := IsS40.rk HI0 HO343 hk; have n1_ := IsS40.rk HI0 HO352 hk; have n2_ := Aside0.mk (KeepBut.trans (hk_ HK) hk (.inl rfl)); have n3_ := Aside0.mk (hb); have n4_ := Aside0.mk (hi); clear HO343 HO352 HK HB HI0; have HO343 := n0_; have HO352 := n1_; have HK := n2_; have HB := n3_; have HI0 := n4_; clear n0_ n1_ n2_ n3_ n4_; (try clear hb); (try clear hb2); (try clear hk); (try clear hi); have p13 : 0 ≤ (t347 : Int) := of_decide_eq_true (by first | (with_reducible assumption) | assumption); have q13 : (t347 : Int) < ((y341.length : Int) : Int) := of_decide_eq_true (by first | (with_reducible assumption) | assumption); obtain ⟨go13, co13, eo13, gb13, gl13, cl13, HG13⟩ := Kd.R_form HO343.out (by omega); (first | cases eo13 | (injection eo13 with ea_ en_ ec_; (first | subst ea_ | (injection ea_ with ea_; subst ea_)); subst ec_; clear en_)); have GB13 := Aside0.mk gb13; have GG13 := Aside0.mk HG13; clear gb13 gl13 HG13; obtain ⟨hx13_0, hf13_0⟩ := Kd.R_celln 0 HO343.out (t347 : Int) p13 q13; replace p13 := eq_true p13; replace q13 := eq_true q13; try clear HO352; have n_ := Aside0.mk (Kd.R_mono (ok' := (fun _ => True)) HO343.out (fun k_ hk => trivial)); clear HO343; have HO343 := n_; clear n_; obtain ⟨hy33_, hz33_⟩ := Kd.R_celln 0 HO343.out (t347 : Int) (of_decide_eq_true (by first | (with_reducible assumption) | assumption)) (of_decide_eq_true (by first | (with_reducible assumption) | assumption)); have HP33 := Kd.R_putg HO343.out (t347 : Int) t353) | ((with_reducible refine gate_store (t := 3) (p := 27) rfl ?_); refine store_event (t := 3) (p := 27) (v := ?vo_w34) (w1 := (w32.setCell ⟨go13, (t347 : Int).toNat, none⟩ (.int .i64 t353))) ?hg ?ho ?hn ?hr ?_; (case ho => rfl); (case hg => rfl); (case hn => rfl); (case hr => first | (go_simp; done) | (go_simp; rfl)); intro w34 hw; have hg : w32.grownBy w34 (some go13) := (by rw [hw]; exact HP33.2); have hp_ : Kd.R (Kd.int .i64) 3 w34 w.heap.size (fun _ => True) (.slice (some ⟨go13, 0, none⟩) y341.length co13) y356 := (by rw [hw, Ny356.out]; exact HP33.1); clear HP33; replace HI0 := Aside0.mk (IsS40.grown (IsS40.q HI0) hg (IsS40.own_ne HI0.out HO343.out (by decide))); replace HB := Aside0.mk ((by rw [hw]; exact below_set (HB.out) (Nat.le_trans HL.out GB13.out) : Below w0.heap.size w0 w34)); replace HK := Aside0.mk (KeepBut.trans (hk_ HK) (KeepBut.of_grown hg g) (Kd.R_base2 HO343.out)); replace HO343 := Aside0.mk (hp_); clear hg hw hp_))
    go_ret
    exact ⟨_, by first | rfl | (simp [errW_none, errW_some] <;> rfl) | (simp [*, errW_none, errW_some] <;> rfl), Kd.R_p HO343, IsS40.q HI0, hbI_ HB (IsS40.ge HI0.out), hk_ HK⟩
   ·rw [if_neg c12] at H
    exact absurd H (by simp)
  ·rw [if_neg c11] at H
   exact absurd H (by simp)
 ·rw [if_neg c8] at H
  have c8b0 : (t344 == 0) = false := beq_eq_false_iff_ne.mpr c8
  have c8b1 : (t344 != 0) = true := bne_iff_ne.mpr c8
  by_cases c35 : t344 = 1
  ·rw [if_pos c35] at H
   have c35b0 : (t344 == 1) = true := beq_iff_eq.mpr c35
   have c35b1 : (t344 != 1) = false := bne_eq_false_iff_eq.mpr c35
   clear c35
   by_cases c36 : 4 ≤ (y341.length : Int)
   ·rw [if_pos c36] at H
    have c36b0 := eq_true c36
    have c36b1 : decide (4 ≤ (y341.length : Int)) = true := decide_eq_true c36
    clear c36
    obtain ⟨y357, hy357⟩ : ∃ y_ : List Int, y_ = (y341.take (4 : Int).toNat) := ⟨_, rfl⟩
    replace H : (some (y357, t345, t346)) = some (r1, r2, r3) := by first | (rw [hy357]; with_reducible exact H) | (have H2_ := (Option.bind_some _ _).symm.trans H; rw [hy357]; with_reducible exact H2_) | (have H2_ := (Option.bind_some _ _).symm.trans H; with_reducible exact H2_) | with_reducible exact H | (rw [hy357]; exact H) | exact H
    have Ny357 := Aside0.mk hy357
    clear hy357
    simp only [Option.some.injEq, Prod.mk.injEq] at H
    obtain ⟨rfl, rfl, rfl⟩ := H
    go_enter Try.func15, Try.ntmps15
    go_wp2_with (first | ((with_reducible refine gate_dst (N := 5) rfl ?_); refine Kd.R_lit (Kd.int .i64) _ 3 ?hg (N := 5) ?hd (xs := ([0, 100, 5000, 10000] : List Int)) (inner := [.int .i64 0, .int .i64 100, .int .i64 5000, .int .i64 10000]) (ok := fun _ => True) (okp := fun _ => True) ?hr ?hp (fun _ hk => hk) trivial (Below.refl _ _) (Nat.le_refl _) (by simp) ?_; (case hd => rfl); (case hg => rfl); (case hr => first | (go_simp; done) | (go_simp; rfl)); (case hp => exact (Reps.one (show Kd.M (Kd.int .i64) _ _ _ 0 [.int .i64 0] from rfl) (Reps.one (show Kd.M (Kd.int .i64) _ _ _ 100 [.int .i64 100] from rfl) (Reps.one (show Kd.M (Kd.int .i64) _ _ _ 5000 [.int .i64 5000] from rfl) (Reps.one (show Kd.M (Kd.int .i64) _ _ _ 10000 [.int .i64 10000] from rfl) (Reps.none _ _)))))); intro v321 w37 ho38 hb hg_ hnew_; clear hg_ hnew_; (first | rw [← Ny320.out] at ho38 | (simp only [Int.reduceToNat] at ho38; rw [← Ny320.out] at ho38)); have HO322 := Aside0.mk (Kd.R_lower ho38 (keep_size (hk_ HK))); replace HK := hkb_ HK hb; replace HB := Aside0.mk (below_step (hbI_ HB (IsS40.ge HI0.out)) hb); replace HI0 := IsS40.b HI0 hb; clear hb ho38; obtain ⟨Ao39, co39, eo39⟩ := Kd.R_slice HO322.out; subst eo39) | ((with_reducible refine gate_callee (f := 27) rfl ?_); refine gl_ (some 6) Try.func27 #[.pointer (some ⟨g, 0, none⟩), .slice Ao39 y320.length co39] rfl rfl rfl ?_; (with_reducible refine (spec_l1Cur_among.calls g s0_0 s0_1 s0_2 _ _ y320 t323 t324 t325 w0 _ ?side1 ?side2 ?side3 ?side4 ?side5 A2.out).mono ?_); (case side1 => exact IsS40.q HI0); (case side2 => exact hbI_ HB (IsS40.ge HI0.out)); (case side3 => exact Kd.C_o HO322); (case side4 => exact (Kd.R_reads' HO322.out).2.1); (case side5 => exact far_slice (IsS40.own_ne HI0.out HO322.out (by decide))); rintro e w40 ⟨rfl, hi, hb, hk⟩; refine ⟨_, rfl, ?_⟩; have n0_ := IsS40.rk HI0 HO322 hk; have n1_ := Aside0.mk (KeepBut.trans (hk_ HK) hk (.inl rfl)); have n2_ := Aside0.mk (hb); have n3_ := Aside0.mk (hi); clear HO322 HK HB HI0; have HO322 := n0_; have HK := n1_; have HB := n2_; have HI0 := n3_; clear n0_ n1_ n2_ n3_; (try clear hb); (try clear hb2); (try clear hk); (try clear hi); try clear HO322) | ((with_reducible refine gate_callee (f := 24) rfl ?_); refine gl_ (some 8) Try.func24 #[.pointer (some ⟨g, 0, none⟩), .int .i64 60] rfl rfl rfl ?_; (with_reducible refine (spec_l1Cur_pick.calls g s0_0 t324 t325 60 t326 t327 t328 w0 _ ?side1 ?side2 A3.out).mono ?_); (case side1 => exact IsS40.q HI0); (case side2 => exact hbI_ HB (IsS40.ge HI0.out)); rintro e w41 ⟨rfl, hi, hb, hk⟩; refine ⟨_, rfl, ?_⟩; replace HK := Aside0.mk (KeepBut.trans (hk_ HK) hk (.inl rfl)); replace HB := Aside0.mk (hb); replace HI0 := Aside0.mk (hi); (try clear hb); (try clear hb2); (try clear hk); (try clear hi)) | ((with_reducible refine gate_callee (f := 24) rfl ?_); refine gl_ (some 10) Try.func24 #[.pointer (some ⟨g, 0, none⟩), .int .i64 5] rfl rfl rfl ?_; (with_reducible refine (spec_l1Cur_pick.calls g s0_0 t327 t328 5 t329 t330 t331 w0 _ ?side1 ?side2 A4.out).mono ?_); (case side1 => exact IsS40.q HI0); (case side2 => exact hbI_ HB (IsS40.ge HI0.out)); rintro e w42 ⟨rfl, hi, hb, hk⟩; refine ⟨_, rfl, ?_⟩; replace HK := Aside0.mk (KeepBut.trans (hk_ HK) hk (.inl rfl)); replace HB := Aside0.mk (hb); replace HI0 := Aside0.mk (hi); (try clear hb); (try clear hb2); (try clear hk); (try clear hi)) | ((with_reducible refine gate_callee (f := 24) rfl ?_); refine gl_ (some 12) Try.func24 #[.pointer (some ⟨g, 0, none⟩), .int .i64 5] rfl rfl rfl ?_; (with_reducible refine (spec_l1Cur_pick.calls g s0_0 t330 t331 5 t332 t333 t334 w0 _ ?side1 ?side2 A5.out).mono ?_); (case side1 => exact IsS40.q HI0); (case side2 => exact hbI_ HB (IsS40.ge HI0.out)); rintro e w43 ⟨rfl, hi, hb, hk⟩; refine ⟨_, rfl, ?_⟩; replace HK := Aside0.mk (KeepBut.trans (hk_ HK) hk (.inl rfl)); replace HB := Aside0.mk (hb); replace HI0 := Aside0.mk (hi); (try clear hb); (try clear hb2); (try clear hk); (try clear hi)) | ((with_reducible refine gate_dst (N := 14) rfl ?_); refine Kd.R_lit (Kd.int .i64) _ 3 ?hg (N := 14) ?hd (xs := ([0, 1000, 250000, 10000000] : List Int)) (inner := [.int .i64 0, .int .i64 1000, .int .i64 250000, .int .i64 10000000]) (ok := fun _ => True) (okp := fun _ => True) ?hr ?hp (fun _ hk => hk) trivial (Below.refl _ _) (Nat.le_refl _) (by simp) ?_; (case hd => rfl); (case hg => rfl); (case hr => first | (go_simp; done) | (go_simp; rfl)); (case hp => exact (Reps.one (show Kd.M (Kd.int .i64) _ _ _ 0 [.int .i64 0] from rfl) (Reps.one (show Kd.M (Kd.int .i64) _ _ _ 1000 [.int .i64 1000] from rfl) (Reps.one (show Kd.M (Kd.int .i64) _ _ _ 250000 [.int .i64 250000] from rfl) (Reps.one (show Kd.M (Kd.int .i64) _ _ _ 10000000 [.int .i64 10000000] from rfl) (Reps.none _ _)))))); intro v336 w44 ho45 hb hg_ hnew_; clear hg_ hnew_; (first | rw [← Ny335.out] at ho45 | (simp only [Int.reduceToNat] at ho45; rw [← Ny335.out] at ho45)); have HO337 := Aside0.mk (Kd.R_lower ho45 (keep_size (hk_ HK))); replace HK := hkb_ HK hb; replace HB := Aside0.mk (below_step (hbI_ HB (IsS40.ge HI0.out)) hb); replace HI0 := IsS40.b HI0 hb; clear hb ho45; obtain ⟨Ao46, co46, eo46⟩ := Kd.R_slice HO337.out; subst eo46) | ((with_reducible refine gate_callee (f := 27) rfl ?_); refine gl_ (some 15) Try.func27 #[.pointer (some ⟨g, 0, none⟩), .slice Ao46 y335.length co46] rfl rfl rfl ?_; (with_reducible refine (spec_l1Cur_among.calls g s0_0 t333 t334 _ _ y335 t338 t339 t340 w0 _ ?side1 ?side2 ?side3 ?side4 ?side5 A6.out).mono ?_); (case side1 => exact IsS40.q HI0); (case side2 => exact hbI_ HB (IsS40.ge HI0.out)); (case side3 => exact Kd.C_o HO337); (case side4 => exact (Kd.R_reads' HO337.out).2.1); (case side5 => exact far_slice (IsS40.own_ne HI0.out HO337.out (by decide))); rintro e w47 ⟨rfl, hi, hb, hk⟩; refine ⟨_, rfl, ?_⟩; have n0_ := IsS40.rk HI0 HO337 hk; have n1_ := Aside0.mk (KeepBut.trans (hk_ HK) hk (.inl rfl)); have n2_ := Aside0.mk (hb); have n3_ := Aside0.mk (hi); clear HO337 HK HB HI0; have HO337 := n0_; have HK := n1_; have HB := n2_; have HI0 := n3_; clear n0_ n1_ n2_ n3_; (try clear hb); (try clear hb2); (try clear hk); (try clear hi); try clear HO337) | ((with_reducible refine gate_dst (N := 16) rfl ?_); refine Kd.R_lit (Kd.int .i64) _ 3 ?hg (N := 16) ?hd (xs := ([t323, t326, t329, t332, t338] : List Int)) (inner := [.int .i64 t323, .int .i64 t326, .int .i64 t329, .int .i64 t332, .int .i64 t338]) (ok := fun _ => True) (okp := fun _ => True) ?hr ?hp (fun _ hk => hk) trivial (Below.refl _ _) (Nat.le_refl _) (by simp) ?_; (case hd => rfl); (case hg => rfl); (case hr => first | (go_simp; done) | (go_simp; rfl)); (case hp => exact (Reps.one (show Kd.M (Kd.int .i64) _ _ _ t323 [.int .i64 t323] from rfl) (Reps.one (show Kd.M (Kd.int .i64) _ _ _ t326 [.int .i64 t326] from rfl) (Reps.one (show Kd.M (Kd.int .i64) _ _ _ t329 [.int .i64 t329] from rfl) (Reps.one (show Kd.M (Kd.int .i64) _ _ _ t332 [.int .i64 t332] from rfl) (Reps.one (show Kd.M (Kd.int .i64) _ _ _ t338 [.int .i64 t338] from rfl) (Reps.none _ _))))))); intro v342 w48 ho49 hb hg_ hnew_; clear hg_ hnew_; (first | rw [← Ny341.out] at ho49 | (simp only [Int.reduceToNat] at ho49; rw [← Ny341.out] at ho49)); have HO343 := Aside0.mk (Kd.R_lower ho49 (keep_size (hk_ HK))); replace HK := hkb_ HK hb; replace HB := Aside0.mk (below_step (hbI_ HB (IsS40.ge HI0.out)) hb); replace HI0 := IsS40.b HI0 hb; clear hb ho49) | ((with_reducible refine gate_callee (f := 24) rfl ?_); refine gl_ (some 18) Try.func24 #[.pointer (some ⟨g, 0, none⟩), .int .i64 24] rfl rfl rfl ?_; (with_reducible refine (spec_l1Cur_pick.calls g s0_0 t339 t340 24 t344 t345 t346 w0 _ ?side1 ?side2 A7.out).mono ?_); (case side1 => exact IsS40.q HI0); (case side2 => exact hbI_ HB (IsS40.ge HI0.out)); rintro e w50 ⟨rfl, hi, hb, hk⟩; refine ⟨_, rfl, ?_⟩; have n0_ := IsS40.rk HI0 HO343 hk; have n1_ := Aside0.mk (KeepBut.trans (hk_ HK) hk (.inl rfl)); have n2_ := Aside0.mk (hb); have n3_ := Aside0.mk (hi); clear HO343 HK HB HI0; have HO343 := n0_; have HK := n1_; have HB := n2_; have HI0 := n3_; clear n0_ n1_ n2_ n3_; (try clear hb); (try clear hb2); (try clear hk); (try clear hi); obtain ⟨Ao51, co51, eo51⟩ := Kd.R_slice HO343.out; subst eo51; have q52 : (4 : Int) ≤ ((y341.length : Int) : Int) := of_decide_eq_true (by first | (with_reducible assumption) | assumption); obtain ⟨i052, hi052, _, hsz52, _⟩ := info_parts info3; have hcut52 := cut_to (P := Try.prog) 24 3 .i64 Try.underlying24 hi052 Ao51 y341.length co51 4 (by omega) q52 (Kd.R_reads' HO343.out).2.1; have hr52 := Kd.R_take (m := (4 : Int).toNat) HO343.out (by omega); have hy52 : y357.length = (4 : Int).toNat := (by rw [Ny357.out, List.length_take]; omega); rw [← Ny357.out] at hr52; rw [← hy52] at hr52 hcut52; clear hy52 hi052 hsz52 HO343; have HO359 := Aside0.mk hr52; clear hr52; replace q52 := eq_true q52))
    go_ret
    exact ⟨_, by first | rfl | (simp [errW_none, errW_some] <;> rfl) | (simp [*, errW_none, errW_some] <;> rfl), Kd.R_p HO359, IsS40.q HI0, hbI_ HB (IsS40.ge HI0.out), hk_ HK⟩
   ·rw [if_neg c36] at H
    exact absurd H (by simp)
  ·rw [if_neg c35] at H
   have c35b0 : (t344 == 1) = false := beq_eq_false_iff_ne.mpr c35
   have c35b1 : (t344 != 1) = true := bne_iff_ne.mpr c35
   simp only [Option.some.injEq, Prod.mk.injEq] at H
   obtain ⟨rfl, rfl, rfl⟩ := H
   go_enter Try.func15, Try.ntmps15
   go_wp2_with (first | ((with_reducible refine gate_dst (N := 5) rfl ?_); refine Kd.R_lit (Kd.int .i64) _ 3 ?hg (N := 5) ?hd (xs := ([0, 100, 5000, 10000] : List Int)) (inner := [.int .i64 0, .int .i64 100, .int .i64 5000, .int .i64 10000]) (ok := fun _ => True) (okp := fun _ => True) ?hr ?hp (fun _ hk => hk) trivial (Below.refl _ _) (Nat.le_refl _) (by simp) ?_; (case hd => rfl); (case hg => rfl); (case hr => first | (go_simp; done) | (go_simp; rfl)); (case hp => exact (Reps.one (show Kd.M (Kd.int .i64) _ _ _ 0 [.int .i64 0] from rfl) (Reps.one (show Kd.M (Kd.int .i64) _ _ _ 100 [.int .i64 100] from rfl) (Reps.one (show Kd.M (Kd.int .i64) _ _ _ 5000 [.int .i64 5000] from rfl) (Reps.one (show Kd.M (Kd.int .i64) _ _ _ 10000 [.int .i64 10000] from rfl) (Reps.none _ _)))))); intro v321 w53 ho54 hb hg_ hnew_; clear hg_ hnew_; (first | rw [← Ny320.out] at ho54 | (simp only [Int.reduceToNat] at ho54; rw [← Ny320.out] at ho54)); have HO322 := Aside0.mk (Kd.R_lower ho54 (keep_size (hk_ HK))); replace HK := hkb_ HK hb; replace HB := Aside0.mk (below_step (hbI_ HB (IsS40.ge HI0.out)) hb); replace HI0 := IsS40.b HI0 hb; clear hb ho54; obtain ⟨Ao55, co55, eo55⟩ := Kd.R_slice HO322.out; subst eo55) | ((with_reducible refine gate_callee (f := 27) rfl ?_); refine gl_ (some 6) Try.func27 #[.pointer (some ⟨g, 0, none⟩), .slice Ao55 y320.length co55] rfl rfl rfl ?_; (with_reducible refine (spec_l1Cur_among.calls g s0_0 s0_1 s0_2 _ _ y320 t323 t324 t325 w0 _ ?side1 ?side2 ?side3 ?side4 ?side5 A2.out).mono ?_); (case side1 => exact IsS40.q HI0); (case side2 => exact hbI_ HB (IsS40.ge HI0.out)); (case side3 => exact Kd.C_o HO322); (case side4 => exact (Kd.R_reads' HO322.out).2.1); (case side5 => exact far_slice (IsS40.own_ne HI0.out HO322.out (by decide))); rintro e w56 ⟨rfl, hi, hb, hk⟩; refine ⟨_, rfl, ?_⟩; have n0_ := IsS40.rk HI0 HO322 hk; have n1_ := Aside0.mk (KeepBut.trans (hk_ HK) hk (.inl rfl)); have n2_ := Aside0.mk (hb); have n3_ := Aside0.mk (hi); clear HO322 HK HB HI0; have HO322 := n0_; have HK := n1_; have HB := n2_; have HI0 := n3_; clear n0_ n1_ n2_ n3_; (try clear hb); (try clear hb2); (try clear hk); (try clear hi); try clear HO322) | ((with_reducible refine gate_callee (f := 24) rfl ?_); refine gl_ (some 8) Try.func24 #[.pointer (some ⟨g, 0, none⟩), .int .i64 60] rfl rfl rfl ?_; (with_reducible refine (spec_l1Cur_pick.calls g s0_0 t324 t325 60 t326 t327 t328 w0 _ ?side1 ?side2 A3.out).mono ?_); (case side1 => exact IsS40.q HI0); (case side2 => exact hbI_ HB (IsS40.ge HI0.out)); rintro e w57 ⟨rfl, hi, hb, hk⟩; refine ⟨_, rfl, ?_⟩; replace HK := Aside0.mk (KeepBut.trans (hk_ HK) hk (.inl rfl)); replace HB := Aside0.mk (hb); replace HI0 := Aside0.mk (hi); (try clear hb); (try clear hb2); (try clear hk); (try clear hi)) | ((with_reducible refine gate_callee (f := 24) rfl ?_); refine gl_ (some 10) Try.func24 #[.pointer (some ⟨g, 0, none⟩), .int .i64 5] rfl rfl rfl ?_; (with_reducible refine (spec_l1Cur_pick.calls g s0_0 t327 t328 5 t329 t330 t331 w0 _ ?side1 ?side2 A4.out).mono ?_); (case side1 => exact IsS40.q HI0); (case side2 => exact hbI_ HB (IsS40.ge HI0.out)); rintro e w58 ⟨rfl, hi, hb, hk⟩; refine ⟨_, rfl, ?_⟩; replace HK := Aside0.mk (KeepBut.trans (hk_ HK) hk (.inl rfl)); replace HB := Aside0.mk (hb); replace HI0 := Aside0.mk (hi); (try clear hb); (try clear hb2); (try clear hk); (try clear hi)) | ((with_reducible refine gate_callee (f := 24) rfl ?_); refine gl_ (some 12) Try.func24 #[.pointer (some ⟨g, 0, none⟩), .int .i64 5] rfl rfl rfl ?_; (with_reducible refine (spec_l1Cur_pick.calls g s0_0 t330 t331 5 t332 t333 t334 w0 _ ?side1 ?side2 A5.out).mono ?_); (case side1 => exact IsS40.q HI0); (case side2 => exact hbI_ HB (IsS40.ge HI0.out)); rintro e w59 ⟨rfl, hi, hb, hk⟩; refine ⟨_, rfl, ?_⟩; replace HK := Aside0.mk (KeepBut.trans (hk_ HK) hk (.inl rfl)); replace HB := Aside0.mk (hb); replace HI0 := Aside0.mk (hi); (try clear hb); (try clear hb2); (try clear hk); (try clear hi)) | ((with_reducible refine gate_dst (N := 14) rfl ?_); refine Kd.R_lit (Kd.int .i64) _ 3 ?hg (N := 14) ?hd (xs := ([0, 1000, 250000, 10000000] : List Int)) (inner := [.int .i64 0, .int .i64 1000, .int .i64 250000, .int .i64 10000000]) (ok := fun _ => True) (okp := fun _ => True) ?hr ?hp (fun _ hk => hk) trivial (Below.refl _ _) (Nat.le_refl _) (by simp) ?_; (case hd => rfl); (case hg => rfl); (case hr => first | (go_simp; done) | (go_simp; rfl)); (case hp => exact (Reps.one (show Kd.M (Kd.int .i64) _ _ _ 0 [.int .i64 0] from rfl) (Reps.one (show Kd.M (Kd.int .i64) _ _ _ 1000 [.int .i64 1000] from rfl) (Reps.one (show Kd.M (Kd.int .i64) _ _ _ 250000 [.int .i64 250000] from rfl) (Reps.one (show Kd.M (Kd.int .i64) _ _ _ 10000000 [.int .i64 10000000] from rfl) (Reps.none _ _)))))); intro v336 w60 ho61 hb hg_ hnew_; clear hg_ hnew_; (first | rw [← Ny335.out] at ho61 | (simp only [Int.reduceToNat] at ho61; rw [← Ny335.out] at ho61)); have HO337 := Aside0.mk (Kd.R_lower ho61 (keep_size (hk_ HK))); replace HK := hkb_ HK hb; replace HB := Aside0.mk (below_step (hbI_ HB (IsS40.ge HI0.out)) hb); replace HI0 := IsS40.b HI0 hb; clear hb ho61; obtain ⟨Ao62, co62, eo62⟩ := Kd.R_slice HO337.out; subst eo62) | ((with_reducible refine gate_callee (f := 27) rfl ?_); refine gl_ (some 15) Try.func27 #[.pointer (some ⟨g, 0, none⟩), .slice Ao62 y335.length co62] rfl rfl rfl ?_; (with_reducible refine (spec_l1Cur_among.calls g s0_0 t333 t334 _ _ y335 t338 t339 t340 w0 _ ?side1 ?side2 ?side3 ?side4 ?side5 A6.out).mono ?_); (case side1 => exact IsS40.q HI0); (case side2 => exact hbI_ HB (IsS40.ge HI0.out)); (case side3 => exact Kd.C_o HO337); (case side4 => exact (Kd.R_reads' HO337.out).2.1); (case side5 => exact far_slice (IsS40.own_ne HI0.out HO337.out (by decide))); rintro e w63 ⟨rfl, hi, hb, hk⟩; refine ⟨_, rfl, ?_⟩; have n0_ := IsS40.rk HI0 HO337 hk; have n1_ := Aside0.mk (KeepBut.trans (hk_ HK) hk (.inl rfl)); have n2_ := Aside0.mk (hb); have n3_ := Aside0.mk (hi); clear HO337 HK HB HI0; have HO337 := n0_; have HK := n1_; have HB := n2_; have HI0 := n3_; clear n0_ n1_ n2_ n3_; (try clear hb); (try clear hb2); (try clear hk); (try clear hi); try clear HO337) | ((with_reducible refine gate_dst (N := 16) rfl ?_); refine Kd.R_lit (Kd.int .i64) _ 3 ?hg (N := 16) ?hd (xs := ([t323, t326, t329, t332, t338] : List Int)) (inner := [.int .i64 t323, .int .i64 t326, .int .i64 t329, .int .i64 t332, .int .i64 t338]) (ok := fun _ => True) (okp := fun _ => True) ?hr ?hp (fun _ hk => hk) trivial (Below.refl _ _) (Nat.le_refl _) (by simp) ?_; (case hd => rfl); (case hg => rfl); (case hr => first | (go_simp; done) | (go_simp; rfl)); (case hp => exact (Reps.one (show Kd.M (Kd.int .i64) _ _ _ t323 [.int .i64 t323] from rfl) (Reps.one (show Kd.M (Kd.int .i64) _ _ _ t326 [.int .i64 t326] from rfl) (Reps.one (show Kd.M (Kd.int .i64) _ _ _ t329 [.int .i64 t329] from rfl) (Reps.one (show Kd.M (Kd.int .i64) _ _ _ t332 [.int .i64 t332] from rfl) (Reps.one (show Kd.M (Kd.int .i64) _ _ _ t338 [.int .i64 t338] from rfl) (Reps.none _ _))))))); intro v342 w64 ho65 hb hg_ hnew_; clear hg_ hnew_; (first | rw [← Ny341.out] at ho65 | (simp only [Int.reduceToNat] at ho65; rw [← Ny341.out] at ho65)); have HO343 := Aside0.mk (Kd.R_lower ho65 (keep_size (hk_ HK))); replace HK := hkb_ HK hb; replace HB := Aside0.mk (below_step (hbI_ HB (IsS40.ge HI0.out)) hb); replace HI0 := IsS40.b HI0 hb; clear hb ho65) | ((with_reducible refine gate_callee (f := 24) rfl ?_); refine gl_ (some 18) Try.func24 #[.pointer (some ⟨g, 0, none⟩), .int .i64 24] rfl rfl rfl ?_; (with_reducible refine (spec_l1Cur_pick.calls g s0_0 t339 t340 24 t344 t345 t346 w0 _ ?side1 ?side2 A7.out).mono ?_); (case side1 => exact IsS40.q HI0); (case side2 => exact hbI_ HB (IsS40.ge HI0.out)); rintro e w66 ⟨rfl, hi, hb, hk⟩; refine ⟨_, rfl, ?_⟩; have n0_ := IsS40.rk HI0 HO343 hk; have n1_ := Aside0.mk (KeepBut.trans (hk_ HK) hk (.inl rfl)); have n2_ := Aside0.mk (hb); have n3_ := Aside0.mk (hi); clear HO343 HK HB HI0; have HO343 := n0_; have HK := n1_; have HB := n2_; have HI0 := n3_; clear n0_ n1_ n2_ n3_; (try clear hb); (try clear hb2); (try clear hk); (try clear hi)))
   go_ret
   exact ⟨_, by first | rfl | (simp [errW_none, errW_some] <;> rfl) | (simp [*, errW_none, errW_some] <;> rfl), Kd.R_p HO343, IsS40.q HI0, hbI_ HB (IsS40.ge HI0.out), hk_ HK⟩

/-! ### spec_DrawEvalRule: function 4 -/
def spec_DrawEvalRule.f (k : Nat) (l0 : List Int) : Option ((List (S52)) × List Int) := (spec_l1Cur_anyRule.f k l0 0 0).bind fun bt361 => ((spec_l1Cur_fieldsOf.f l0 bt361.2.1 bt361.2.2).bind fun bt366 => (some (bt361.1, bt366.1)))
set_option maxHeartbeats 8000000 in
set_option maxRecDepth 100000 in
theorem spec_DrawEvalRule.calls (k : Nat) (A0 : Option Addr) (c0 : Nat) (l0 : List Int) (r1 : List (S52)) (r2 : List Int) (w : World) (hr0 : Kd.C (Kd.int .u8) w A0 l0.length l0) (hc0 : l0.length ≤ c0) (h : spec_DrawEvalRule.f k l0 = some (r1, r2)) :
  Calls Try.prog 4 #[.slice A0 l0.length c0] w fun e w' => ∃ v0_ v1_ : Value, e = .returned (.tuple #[v0_, v1_]) ∧ Kd.R k52 52 w' w.heap.size (fun _ => True) v0_ r1 ∧ Kd.R (Kd.int .i64) 3 w' w.heap.size (fun _ => True) v1_ r2 ∧ Below w.heap.size w w' := by
 have hu40 := Try.underlying40
 have HR0 := Aside0.mk hr0
 have HC0 := Aside0.mk hc0
 clear hr0 hc0
 have HB := Aside0.mk (Below.refl w.heap.size w)
 have H : ((spec_l1Cur_anyRule.f k l0 0 0).bind fun bt361 => ((spec_l1Cur_fieldsOf.f l0 bt361.2.1 bt361.2.2).bind fun bt366 => (some (bt361.1, bt366.1)))) = some (r1, r2) := h
 clear h
 replace H := Option.bind_eq_some_iff.mp H
 obtain ⟨⟨t361, t364, t365⟩, A20, H⟩ := H
 replace H : ((spec_l1Cur_fieldsOf.f l0 t364 t365).bind fun bt366 => (some (t361, bt366.1))) = some (r1, r2) := H
 have A2 := Aside0.mk A20
 clear A20
 replace H := Option.bind_eq_some_iff.mp H
 obtain ⟨⟨t366, t369, t370⟩, A30, H⟩ := H
 replace H : (some (t361, t366)) = some (r1, r2) := H
 have A3 := Aside0.mk A30
 clear A30
 simp only [Option.some.injEq, Prod.mk.injEq] at H
 obtain ⟨rfl, rfl⟩ := H
 go_enter Try.func4, Try.ntmps4
 go_wp2_with (first | ((with_reducible refine gate_dst (N := 7) rfl ?_); refine box_event ?hg (N := 7) ?hd (cs := #[.slice A0 l0.length c0, .int .i64 0, .int .u64 0]) (t := 40) ?hr ?_; (case hd => rfl); (case hg => rfl); (case hr => first | (go_simp; done) | (go_simp; rfl)); intro gb360 hg w4 hbox hb; have HI360 := Aside0.mk ((show IsS40 w w4 gb360 l0 0 0 from ⟨A0, c0, hbox, (by rw [hg]; exact (below_size (hb_ HB))), HR0.out⟩)); have GW360 := gs_ hg HB; have GE360 := gs_ hg HB; replace HB := hbs_ HB hb; clear hb hbox hg) | ((with_reducible refine gate_callee (f := 14) rfl ?_); refine gl_ (some 9) Try.func14 #[.pointer (some ⟨gb360, 0, none⟩)] rfl rfl rfl ?_; (with_reducible refine (spec_l1Cur_anyRule.calls k gb360 l0 0 0 t361 t364 t365 w _ ?side1 ?side2 A2.out).mono ?_); (case side1 => exact IsS40.q HI360); (case side2 => exact hbI_ HB (IsS40.ge HI360.out)); rintro e w5 ⟨v362, rfl, ho0, hi, hb, hk⟩; refine ⟨_, rfl, ?_⟩; have HO363 := Aside0.mk (Kd.R_lower ho0 (below_size (hbI_ HB (IsS40.ge HI360.out)))); replace HB := Aside0.mk (hb); replace HI360 := Aside0.mk (hi); (try clear hb); (try clear hb2); (try clear hk); (try clear hi); (try clear ho0)) | ((with_reducible refine gate_callee (f := 15) rfl ?_); refine gl_ (some 11) Try.func15 #[.pointer (some ⟨gb360, 0, none⟩)] rfl rfl rfl ?_; (with_reducible refine (spec_l1Cur_fieldsOf.calls gb360 l0 t364 t365 t366 t369 t370 w _ ?side1 ?side2 A3.out).mono ?_); (case side1 => exact IsS40.q HI360); (case side2 => exact hbI_ HB (IsS40.ge HI360.out)); rintro e w6 ⟨v367, rfl, ho0, hi, hb, hk⟩; refine ⟨_, rfl, ?_⟩; have n0_ := IsS40.rk HI360 HO363 hk; have n1_ := Aside0.mk (Kd.R_lower ho0 (below_size (hbI_ HB (IsS40.ge HI360.out)))); have n2_ := Aside0.mk (hb); have n3_ := Aside0.mk (hi); clear HO363 HB HI360; have HO363 := n0_; have HO368 := n1_; have HB := n2_; have HI360 := n3_; clear n0_ n1_ n2_ n3_; (try clear hb); (try clear hb2); (try clear hk); (try clear hi); (try clear ho0)))
 go_ret2
 exact ⟨_, _, by first | rfl | (simp [errW_none, errW_some] <;> rfl) | (simp [*, errW_none, errW_some] <;> rfl), Kd.R_p HO363, Kd.R_p HO368, hbI_ HB (IsS40.ge HI360.out)⟩

/-! ### impl_needsOf: function 43 -/
mutual
def impl_needsOf.j0 : Nat → Int → Bool → Option (Int)
 | 0, _, _ => none
 | k + 1, x0, x3 => if x3 = true then (some 0) else (if x0 ≥ 2 then (impl_needsOf.j1 k x0 (decide (x0 ≤ 5))) else (impl_needsOf.j1 k x0 false))
def impl_needsOf.j1 : Nat → Int → Bool → Option (Int)
 | 0, _, _ => none
 | k + 1, x0, x10 => if x10 = true then (some 2) else (if x0 ≥ 6 then (if x0 ≤ 8 then (some 4) else (some (-1))) else (some (-1)))
end
def impl_needsOf.f (k : Nat) (a0 : Int) : Option (Int) := if a0 = 0 then (impl_needsOf.j0 k a0 true) else (impl_needsOf.j0 k a0 (a0 == 1))
set_option maxHeartbeats 8000000 in
set_option maxRecDepth 100000 in
theorem impl_needsOf.calls (k : Nat) (a0 : Int) (r : Int) (w : World) (h : impl_needsOf.f k a0 = some r) :
  Calls Try.prog 43 #[.int .i64 a0] w fun e w' => e = .returned (.int .i64 r) ∧ Drawn0 w w' := by
 have H : (if a0 = 0 then (impl_needsOf.j0 k a0 true) else (impl_needsOf.j0 k a0 (a0 == 1))) = some r := h
 clear h
 have HC2 := Aside0.mk H
 clear H
 go_enter Try.func43, Try.ntmps43
 go_upto_region 1 with (fail)
 go_cut [3] (fun v3 wc => ∃ (kq : Nat) (x3_1 : Bool), v3 = .bool x3_1 ∧ Aside0 (impl_needsOf.j0 kq a0 x3_1 = some r) ∧ Aside0 (kq ≤ k) ∧ Drawn0 w wc)
 case first =>
  have H := HC2.out
  clear HC2
  by_cases c3 : a0 = 0
  ·rw [if_pos c3] at H
   have c3b0 : (a0 == 0) = true := beq_iff_eq.mpr c3
   have c3b1 : (a0 != 0) = false := bne_eq_false_iff_eq.mpr c3
   clear c3
   (first | rw [c3b0] | (simp only [i64_w, i32_w]; rw [c3b0]) | skip)
   have H' := Aside0.mk H
   clear H
   go_wp2
   go_meet
   case rel => exact ⟨_, (true), (by first | rfl | (simp; done) | (simp [*]; done)), H', ⟨by first | omega | exact Nat.le_refl _⟩, by repeat (first | exact Drawn0.refl _ | apply Drawn0.step)⟩
  ·rw [if_neg c3] at H
   have c3b0 : (a0 == 0) = false := beq_eq_false_iff_ne.mpr c3
   have c3b1 : (a0 != 0) = true := bne_iff_ne.mpr c3
   (first | rw [c3b0] | (simp only [i64_w, i32_w]; rw [c3b0]) | skip)
   have H' := Aside0.mk H
   clear H
   go_wp2
   go_meet
   case rel => exact ⟨_, ((a0 == 1)), (by first | rfl | (simp; done) | (simp [*]; done)), H', ⟨by first | omega | exact Nat.le_refl _⟩, by repeat (first | exact Drawn0.refl _ | apply Drawn0.step)⟩
 case rest =>
  clear HC2
  (try clear p2); (try clear c3); (try clear c3b0); (try clear c3b1)
  obtain ⟨kq, x3_1, rfl, HA, HJ1, ⟨mc1, rfl⟩⟩ := hcut
  cases kq with
  | zero => exact absurd HA.out (by simp [impl_needsOf.j0])
  | succ kj1 =>
   have H := HA.out
   clear HA
   simp only [impl_needsOf.j0] at H
   by_cases c4 : x3_1 = true
   ·subst c4
    have H1 : (some 0) = some r := by rw [if_pos rfl] at H; exact H
    clear H
    have H := H1
    clear H1
    obtain rfl := Option.some.inj H
    go_wp2
    go_ret
    exact ⟨by first | rfl | (simp; done) | (simp [*]; done), by repeat (first | exact Drawn0.refl _ | apply Drawn0.step)⟩
   ·replace c4 := Bool.eq_false_iff.mpr c4
    subst c4
    have H1 : (if a0 ≥ 2 then (impl_needsOf.j1 kj1 a0 (decide (a0 ≤ 5))) else (impl_needsOf.j1 kj1 a0 false)) = some r := by rw [if_neg (show ¬ (false = true) by decide)] at H; exact H
    clear H
    have H := H1
    clear H1
    have HC5 := Aside0.mk H
    clear H
    go_upto_region 3 with (fail)
    go_cut [10] (fun v10 wc => ∃ (kq : Nat) (x10_4 : Bool), v10 = .bool x10_4 ∧ Aside0 (impl_needsOf.j1 kq a0 x10_4 = some r) ∧ Aside0 (kq ≤ kj1) ∧ Drawn0 w wc)
    case first =>
     have H := HC5.out
     clear HC5
     by_cases c6 : a0 ≥ 2
     ·rw [if_pos c6] at H
      have c6b0 : decide (2 ≤ a0) = true := decide_eq_true c6
      clear c6
      (first | rw [c6b0] | (simp only [i64_w, i32_w]; rw [c6b0]) | skip)
      have H' := Aside0.mk H
      clear H
      go_wp2
      go_meet
      case rel => exact ⟨_, (decide (a0 ≤ 5)), (by first | rfl | (simp; done) | (simp [*]; done)), H', ⟨by have := HJ1.out; first | omega | exact Nat.le_refl _⟩, by repeat (first | exact Drawn0.refl _ | apply Drawn0.step)⟩
     ·rw [if_neg c6] at H
      have c6b0 : decide (2 ≤ a0) = false := decide_eq_false c6
      clear c6
      (first | rw [c6b0] | (simp only [i64_w, i32_w]; rw [c6b0]) | skip)
      have H' := Aside0.mk H
      clear H
      go_wp2
      go_meet
      case rel => exact ⟨_, (false), (by first | rfl | (simp; done) | (simp [*]; done)), H', ⟨by have := HJ1.out; first | omega | exact Nat.le_refl _⟩, by repeat (first | exact Drawn0.refl _ | apply Drawn0.step)⟩
    case rest =>
     clear HC5
     (try clear c1); (try clear p2); (try clear c3); (try clear c3b0); (try clear c3b1); (try clear c4); (try clear c6); (try clear c6b0)
     obtain ⟨kq, x10_4, rfl, HA, HJ4, ⟨mc4, rfl⟩⟩ := hcut
     cases kq with
     | zero => exact absurd HA.out (by simp [impl_needsOf.j1])
     | succ kj4 =>
      have H := HA.out
      clear HA
      simp only [impl_needsOf.j1] at H
      by_cases c7 : x10_4 = true
      ·subst c7
       have H1 : (some 2) = some r := by rw [if_pos rfl] at H; exact H
       clear H
       have H := H1
       clear H1
       obtain rfl := Option.some.inj H
       go_wp2
       go_ret
       exact ⟨by first | rfl | (simp; done) | (simp [*]; done), by repeat (first | exact Drawn0.refl _ | apply Drawn0.step)⟩
      ·replace c7 := Bool.eq_false_iff.mpr c7
       subst c7
       have H1 : (if a0 ≥ 6 then (if a0 ≤ 8 then (some 4) else (some (-1))) else (some (-1))) = some r := by rw [if_neg (show ¬ (false = true) by decide)] at H; exact H
       clear H
       have H := H1
       clear H1
       by_cases c8 : a0 ≥ 6
       ·rw [if_pos c8] at H
        have c8b0 : decide (6 ≤ a0) = true := decide_eq_true c8
        clear c8
        by_cases c9 : a0 ≤ 8
        ·rw [if_pos c9] at H
         have c9b0 : decide (a0 ≤ 8) = true := decide_eq_true c9
         clear c9
         obtain rfl := Option.some.inj H
         go_wp2
         go_ret
         exact ⟨by first | rfl | (simp; done) | (simp [*]; done), by repeat (first | exact Drawn0.refl _ | apply Drawn0.step)⟩
        ·rw [if_neg c9] at H
         have c9b0 : decide (a0 ≤ 8) = false := decide_eq_false c9
         clear c9
         obtain rfl := Option.some.inj H
         go_wp2
         go_ret
         exact ⟨by first | rfl | (simp; done) | (simp [*]; done), by repeat (first | exact Drawn0.refl _ | apply Drawn0.step)⟩
       ·rw [if_neg c8] at H
        have c8b0 : decide (6 ≤ a0) = false := decide_eq_false c8
        clear c8
        obtain rfl := Option.some.inj H
        go_wp2
        go_ret
        exact ⟨by first | rfl | (simp; done) | (simp [*]; done), by repeat (first | exact Drawn0.refl _ | apply Drawn0.step)⟩

end Go.Proofs.Ytmhalgeoaccchaa.PFnFolded
