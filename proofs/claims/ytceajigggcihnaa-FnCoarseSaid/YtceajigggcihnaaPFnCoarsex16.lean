-- Laid for this claim by wip/tools/print2.sh, a changed copy of the kit's print (wip/tools/patch_print.py): not by print.sh.
import Derived.Test.YtceajigggcihnaaPFnCoarsex14
import Derived.Test.YtceajigggcihnaaVFnCoarse
namespace Go.Proofs.Ytceajigggcihnaa.PFnCoarse
open Go.RowKit Go.Proofs.YtceajigggcihnaaW.PrintWords Go.Proofs.YtceajigggcihnaaW.PrintLast Go.Proofs.YtceajigggcihnaaW.PrintMore
attribute [local go_sem] max2_int min2_int max_two min_two max_three min_three max_four min_four
set_option linter.unusedVariables false
set_option linter.unusedSimpArgs false

/-! ### spec_l1Cur_model: function 120 -/
def spec_l1Cur_model.l0 : Nat → Int → List Int → Int → Int → Int → Int → Int → List Int → List Int → List Int → Option (Int × Int × Int × List Int × List Int × List Int × Int × Int)
 | 0, _, _, _, _, _, _, _, _, _, _ => none
 | k + 1, x4, x1000, x1001, x1002, x497000, x497001, x497002, x497003, x497004, x497005 => if x4 > 0 then ((spec_l1Cur_pick.f x1000 x1001 x1002 10001).bind fun bt498 => ((spec_l1Cur_among.f x1000 bt498.2.1 bt498.2.2 (([0, 100, 100, 200, 500, 1000, bt498.1] : List Int))).bind fun bt504 => (if x497003.length < 17592186044416 then ((spec_l1Cur_pick.f x1000 bt504.2.1 bt504.2.2 1001).bind fun bt510 => ((spec_l1Cur_among.f x1000 bt510.2.1 bt510.2.2 (([0, 0, 5, 10, 20, 50, bt510.1] : List Int))).bind fun bt516 => (if x497004.length < 17592186044416 then ((spec_l1Cur_pick.f x1000 bt516.2.1 bt516.2.2 5).bind fun bt522 => (if x497005.length < 17592186044416 then (spec_l1Cur_model.l0 k (wrap64 (x4 - 1)) x1000 bt522.2.1 bt522.2.2 x497000 x497001 x497002 (x497003 ++ [bt504.1]) (x497004 ++ [bt516.1]) (x497005 ++ [bt522.1])) else (none))) else (none)))) else (none)))) else (some (x497000, x497001, x497002, x497003, x497004, x497005, x1001, x1002))
def spec_l1Cur_model.f (k : Nat) (s0_0 : List Int) (s0_1 : Int) (s0_2 : Int) : Option (Int × Int × Int × List Int × List Int × List Int × Int × Int) := (spec_l1Cur_grid.f s0_0 s0_1 s0_2).bind fun bt491 => ((spec_grCount.f bt491.1 bt491.2.1 bt491.2.2.1).bind fun t497 => (spec_l1Cur_model.l0 k t497 s0_0 bt491.2.2.2.1 bt491.2.2.2.2 bt491.1 bt491.2.1 bt491.2.2.1 ([] : List Int) ([] : List Int) ([] : List Int)))
def spec_l1Cur_model.T5 : Bool × List (List Nat × List Nat) := (true, [([], []), ([0], [0]), ([], []), ([], []), ([3], [3]), ([4], [4]), ([2, 5, 4], [2, 5]), ([6], [6]), ([1, 7, 6], [1, 7]), ([0, 1, 2, 3, 4, 5, 6, 7, 8], []), ([9, 8, 8, 0, 1, 2, 3, 4, 5, 6, 7, 8], [8, 9])])
def spec_l1Cur_model.B5 : List Nat := [0, 1, 0, 0, 8, 24, 60, 124, 255, 511, 1023]
theorem spec_l1Cur_model.tab5 : rtab .any (opsOf Try.f120 5) = spec_l1Cur_model.T5 := by kernel_rfl
theorem spec_l1Cur_model.bits5 : waitsOk spec_l1Cur_model.T5.2 spec_l1Cur_model.B5 = true := by kernel_rfl
def spec_l1Cur_model.T6 : Bool × List (List Nat × List Nat) := (true, [([], []), ([0], [0]), ([], []), ([], []), ([3], [3]), ([4], [4]), ([2, 5, 4], [2, 5]), ([6], [6]), ([1, 7, 6], [1, 7]), ([0, 1, 2, 3, 4, 5, 6, 7, 8], []), ([9, 8, 8, 0, 1, 2, 3, 4, 5, 6, 7, 8], [8, 9])])
def spec_l1Cur_model.B6 : List Nat := [0, 1, 0, 0, 8, 24, 60, 124, 255, 511, 1023]
theorem spec_l1Cur_model.tab6 : rtab .any (opsOf Try.f120 6) = spec_l1Cur_model.T6 := by kernel_rfl
theorem spec_l1Cur_model.bits6 : waitsOk spec_l1Cur_model.T6.2 spec_l1Cur_model.B6 = true := by kernel_rfl
def spec_l1Cur_model.T7 : Bool × List (List Nat × List Nat) := (true, [([], []), ([0], [0]), ([], []), ([2], [2]), ([3], [3]), ([1, 4, 3], [1, 4]), ([0, 1, 2, 3, 4, 5], []), ([6, 5, 5, 0, 1, 2, 3, 4, 5], [5, 6])])
def spec_l1Cur_model.B7 : List Nat := [0, 1, 0, 4, 12, 31, 63, 127]
theorem spec_l1Cur_model.tab7 : rtab .any (opsOf Try.f120 7) = spec_l1Cur_model.T7 := by kernel_rfl
theorem spec_l1Cur_model.bits7 : waitsOk spec_l1Cur_model.T7.2 spec_l1Cur_model.B7 = true := by kernel_rfl
set_option maxHeartbeats 8000000 in
set_option maxRecDepth 100000 in
theorem spec_l1Cur_model.calls (k : Nat) (g : Nat) (s0_0 : List Int) (s0_1 : Int) (s0_2 : Int) (r1 : Int) (r2 : Int) (r3 : Int) (r4 : List Int) (r5 : List Int) (r6 : List Int) (r7 : Int) (r8 : Int) (w0 w : World) (hI : IsS106 w0 w g s0_0 s0_1 s0_2) (hB : Below w0.heap.size w0 w) (h : spec_l1Cur_model.f k s0_0 s0_1 s0_2 = some (r1, r2, r3, r4, r5, r6, r7, r8)) :
  Calls Try.prog 120 #[.pointer (some ⟨g, 0, none⟩)] w fun e w' => ∃ v3_ v4_ v5_ : Value, e = .returned (.agg #[.int .i64 r1, .int .i64 r2, .int .i64 r3, v3_, v4_, v5_]) ∧ Kd.R (Kd.int .i64) 3 w' w.heap.size (fun k_ => some k_ ≠ (v4_ : Value).ownBlock ∧ some k_ ≠ (v5_ : Value).ownBlock) v3_ r4 ∧ Kd.R (Kd.int .i64) 3 w' w.heap.size (fun k_ => some k_ ≠ (v3_ : Value).ownBlock ∧ some k_ ≠ (v5_ : Value).ownBlock) v4_ r5 ∧ Kd.R (Kd.int .i64) 3 w' w.heap.size (fun k_ => some k_ ≠ (v3_ : Value).ownBlock ∧ some k_ ≠ (v4_ : Value).ownBlock) v5_ r6 ∧ IsS106 w0 w' g s0_0 r7 r8 ∧ Below w0.heap.size w0 w' ∧ KeepBut w w' g none := by
 have hu34 := Try.underlying34
 have hu32 := Try.underlying32
 have HI0 := Aside0.mk hI
 have HK := Aside0.mk (KeepBut.refl w g none)
 have HL := Aside0.mk hB.size
 clear hI
 have HW0 := Aside0.mk hB.size
 have HB := Aside0.mk hB
 clear hB
 have H := h
 unfold spec_l1Cur_model.f at H
 clear h
 replace H := Option.bind_eq_some_iff.mp H
 obtain ⟨⟨t491, t492, t493, t494, t495⟩, A20, H⟩ := H
 try dsimp only at H
 have A2 := Aside0.mk A20
 clear A20
 replace H := Option.bind_eq_some_iff.mp H
 obtain ⟨t497, A30, H⟩ := H
 try dsimp only at H
 have A3 := Aside0.mk A30
 clear A30
 have H' := Aside0.mk H
 clear H
 go_enter Try.func120, Try.ntmps120
 go_wp2_with (first | ((with_reducible refine gate_dst (N := 2) rfl ?_); refine bv_ 2 (cs := #[.int .i64 0, .int .i64 0, .int .i64 0, .slice none 0 0, .slice none 0 0, .slice none 0 0]) (t := 34) ?_; intro gb490 hg w4 hbox hb; have BK490 := Aside0.mk (hbox); have GW490 := Aside0.mk ((by rw [hg]; exact (keep_size (hk_ HK)) : w.heap.size ≤ gb490)); have GE490 := Aside0.mk ((Nat.le_trans HW0.out (by rw [hg]; exact (keep_size (hk_ HK)) : w.heap.size ≤ gb490) : w0.heap.size ≤ gb490)); have NB0_490 := Aside0.mk ((by rw [hg]; exact Nat.ne_of_lt (IsS106.lt (show IsS106 w0 _ g s0_0 s0_1 s0_2 from IsS106.q HI0)) : g ≠ gb490)); have NB490_0 := Aside0.mk ((by rw [hg]; exact Nat.ne_of_gt (IsS106.lt (show IsS106 w0 _ g s0_0 s0_1 s0_2 from IsS106.q HI0)) : gb490 ≠ g)); replace HK := hkb_ HK hb; replace HB := Aside0.mk (below_step (hbI_ HB (IsS106.ge HI0.out)) hb); replace HI0 := IsS106.b HI0 hb; clear hb hbox hg) | ((with_reducible refine gate_callee (f := 121) rfl ?_); refine gl_ (some 6) Try.func121 #[.pointer (some ⟨g, 0, none⟩)] rfl rfl rfl ?_; (with_reducible refine (spec_l1Cur_grid.calls g s0_0 s0_1 s0_2 t491 t492 t493 t494 t495 w0 _ ?side1 ?side2 A2.out).mono ?_); (case side1 => exact IsS106.q HI0); (case side2 => exact hbI_ HB (IsS106.ge HI0.out)); rintro e w5 ⟨rfl, hi, hb, hk⟩; refine ⟨_, rfl, ?_⟩; replace BK490 := kk_ BK490 hk NB490_0; replace HK := Aside0.mk (KeepBut.trans (hk_ HK) hk (.inl rfl)); replace HB := Aside0.mk (hb); replace HI0 := Aside0.mk (hi)) | ((with_reducible refine gate_dst (N := 3) rfl ?_); refine bv_ 3 (cs := #[.int .i64 0, .int .i64 0, .int .i64 0, .slice none 0 0, .slice none 0 0, .slice none 0 0]) (t := 34) ?_; intro gb496 hg w6 hbox hb; have BK496 := Aside0.mk (hbox); have GW496 := Aside0.mk ((by rw [hg]; exact (keep_size (hk_ HK)) : w.heap.size ≤ gb496)); have GE496 := Aside0.mk ((Nat.le_trans HW0.out (by rw [hg]; exact (keep_size (hk_ HK)) : w.heap.size ≤ gb496) : w0.heap.size ≤ gb496)); have NB490_496 := nl_ hg BK490; have NB496_490 := ng_ hg BK490; have NB0_496 := Aside0.mk ((by rw [hg]; exact Nat.ne_of_lt (IsS106.lt (show IsS106 w0 _ g s0_0 t494 t495 from IsS106.q HI0)) : g ≠ gb496)); have NB496_0 := Aside0.mk ((by rw [hg]; exact Nat.ne_of_gt (IsS106.lt (show IsS106 w0 _ g s0_0 t494 t495 from IsS106.q HI0)) : gb496 ≠ g)); replace BK490 := kb_ BK490 hb; replace HK := hkb_ HK hb; replace HB := Aside0.mk (below_step (hbI_ HB (IsS106.ge HI0.out)) hb); replace HI0 := IsS106.b HI0 hb; clear hb hbox hg; have := NB496_490.out; have := NB490_496.out; have := NB496_0.out; have := NB0_496.out; obtain ⟨hcz9_0, hcz9_1, hcz9_2, hcz9_3, hcz9_4, hcz9_5, hfz9_0, hfz9_1, hfz9_2, hfz9_3, hfz9_4, hfz9_5⟩ := bx6 BK496) | ((with_reducible refine gate_callee (f := 79) rfl ?_); refine gl_ (some 10) Try.func79 #[.agg #[.int .i64 t491, .int .i64 t492, .int .i64 t493]] rfl rfl rfl ?_; (with_reducible refine (spec_grCount.calls t491 t492 t493 t497 _ A3.out).mono ?_); rintro e w10 ⟨rfl, hb⟩; refine ⟨_, rfl, ?_⟩; replace BK490 := kfb_ BK490 NB490_496 hb; replace BK496 := Aside0.mk (blk_below (g := gb496) (o := .cells #[.int .i64 t491, .int .i64 t492, .int .i64 t493, .slice none 0 0, .slice none 0 0, .slice none 0 0] 34 (0, 0)) (kpq_ (kputs BK496 [(0, _), (1, _), (2, _), (3, _), (4, _), (5, _)])) hb); replace HK := hkb_ HK hb; replace HB := Aside0.mk (below_step (hbI_ HB (IsS106.ge HI0.out)) hb); replace HI0 := Aside0.mk (IsS106.below (show IsS106 w0 ((((((w6.setCell ⟨gb496, 0, none⟩ (.int .i64 t491)).setCell ⟨gb496, 1, none⟩ (.int .i64 t492)).setCell ⟨gb496, 2, none⟩ (.int .i64 t493)).setCell ⟨gb496, 3, none⟩ (.slice none 0 0)).setCell ⟨gb496, 4, none⟩ (.slice none 0 0)).setCell ⟨gb496, 5, none⟩ (.slice none 0 0)) g s0_0 t494 t495 from IsS106.q HI0) hb)))
 go_loopg [4] k (fun kq v4 w' => ∃ (x4_1 : Int) (x1001_1 : Int) (x1002_1 : Int) (x497003_1 : List Int) (x497004_1 : List Int) (x497005_1 : List Int) (u497003 : Value) (u497004 : Value) (u497005 : Value), v4 = .int .i64 x4_1 ∧ Aside0 (spec_l1Cur_model.l0 kq x4_1 s0_0 x1001_1 x1002_1 t491 t492 t493 x497003_1 x497004_1 x497005_1 = some (r1, r2, r3, r4, r5, r6, r7, r8)) ∧ Aside0 (kq ≤ k) ∧ Aside0 (Kd.R (Kd.int .i64) 3 w' w.heap.size (fun k_ => some k_ ≠ (u497004 : Value).ownBlock ∧ some k_ ≠ (u497005 : Value).ownBlock) u497003 x497003_1) ∧ Aside0 (Kd.R (Kd.int .i64) 3 w' w.heap.size (fun k_ => some k_ ≠ (u497003 : Value).ownBlock ∧ some k_ ≠ (u497005 : Value).ownBlock) u497004 x497004_1) ∧ Aside0 (Kd.R (Kd.int .i64) 3 w' w.heap.size (fun k_ => some k_ ≠ (u497003 : Value).ownBlock ∧ some k_ ≠ (u497004 : Value).ownBlock) u497005 x497005_1) ∧ Aside0 (w'.heap[gb490]? = some (.cells #[.int .i64 0, .int .i64 0, .int .i64 0, (.slice none 0 0), (.slice none 0 0), (.slice none 0 0)] 34 (0, 0))) ∧ Aside0 (w'.heap[gb496]? = some (.cells #[.int .i64 t491, .int .i64 t492, .int .i64 t493, u497003, u497004, u497005] 34 (0, 0))) ∧ Aside0 (IsS106 w0 w' g s0_0 x1001_1 x1002_1) ∧ Aside0 (KeepBut w w' g none) ∧ Aside0 (Below w0.heap.size w0 w'))
 case atStart => exact ⟨(t497), (t494), (t495), (([] : List Int)), (([] : List Int)), (([] : List Int)), (.slice none 0 0), (.slice none 0 0), (.slice none 0 0), (by first | rfl | (simp; done) | (simp [*]; done)), H', ⟨Nat.le_refl _⟩, ⟨by first | exact Kd.R_nil _ _ _ _ _ | exact Kd.N_nil _ _ _ _ _ | exact Kd.V_nil _ _ _ _ _ | exact Kd.Q_nil _ _ _ _ _ | exact Kd.S_nil _ _ _ _ _⟩, ⟨by first | exact Kd.R_nil _ _ _ _ _ | exact Kd.N_nil _ _ _ _ _ | exact Kd.V_nil _ _ _ _ _ | exact Kd.Q_nil _ _ _ _ _ | exact Kd.S_nil _ _ _ _ _⟩, ⟨by first | exact Kd.R_nil _ _ _ _ _ | exact Kd.N_nil _ _ _ _ _ | exact Kd.V_nil _ _ _ _ _ | exact Kd.Q_nil _ _ _ _ _ | exact Kd.S_nil _ _ _ _ _⟩, ⟨kp_ BK490⟩, ⟨kp_ BK496⟩, ⟨IsS106.q HI0⟩, ⟨hk_ HK⟩, ⟨hbI_ HB (IsS106.ge HI0.out)⟩⟩
 clear H'
 obtain ⟨x4_1, x1001_1, x1002_1, x497003_1, x497004_1, x497005_1, u497003, u497004, u497005, rfl, HA, HK1, HO_497003, HO_497004, HO_497005, BK490, BK496, HI0, HK, HB⟩ := hrel
 cases gk with
 | zero => exact absurd HA.out (by simp [spec_l1Cur_model.l0])
 | succ k1 => ?_
 have H := HA.out
 clear HA
 simp only [spec_l1Cur_model.l0] at H
 by_cases c11 : x4_1 > 0
 ·rw [if_pos c11] at H
  have c11b0 : decide (0 < x4_1) = true := decide_eq_true c11
  clear c11
  replace H := Option.bind_eq_some_iff.mp H
  obtain ⟨⟨t498, t499, t500⟩, A120, H⟩ := H
  try dsimp only at H
  have A12 := Aside0.mk A120
  clear A120
  obtain ⟨y501, hy501⟩ : ∃ y_ : List Int, y_ = (([0, 100, 100, 200, 500, 1000, t498] : List Int)) := ⟨_, rfl⟩
  (try with_reducible replace H := (Option.bind_some _ _).symm.trans H); (try dsimp only at H); (try rw [← hy501] at H)
  have Ny501 := Aside0.mk hy501
  clear hy501
  replace H := Option.bind_eq_some_iff.mp H
  obtain ⟨⟨t504, t505, t506⟩, A130, H⟩ := H
  try dsimp only at H
  have A13 := Aside0.mk A130
  clear A130
  by_cases c14 : x497003_1.length < 17592186044416
  case neg => rw [if_neg c14] at H; exact absurd H (by simp)
  rw [if_pos c14] at H
  have LMc14 := Aside0.mk c14
  clear c14
  obtain ⟨y507, hy507⟩ : ∃ y_ : List Int, y_ = (x497003_1 ++ [t504]) := ⟨_, rfl⟩
  (try with_reducible replace H := (Option.bind_some _ _).symm.trans H); (try dsimp only at H); (try rw [← hy507] at H)
  have Ny507 := Aside0.mk hy507
  clear hy507
  replace H := Option.bind_eq_some_iff.mp H
  obtain ⟨⟨t510, t511, t512⟩, A150, H⟩ := H
  try dsimp only at H
  have A15 := Aside0.mk A150
  clear A150
  obtain ⟨y513, hy513⟩ : ∃ y_ : List Int, y_ = (([0, 0, 5, 10, 20, 50, t510] : List Int)) := ⟨_, rfl⟩
  (try with_reducible replace H := (Option.bind_some _ _).symm.trans H); (try dsimp only at H); (try rw [← hy513] at H)
  have Ny513 := Aside0.mk hy513
  clear hy513
  replace H := Option.bind_eq_some_iff.mp H
  obtain ⟨⟨t516, t517, t518⟩, A160, H⟩ := H
  try dsimp only at H
  have A16 := Aside0.mk A160
  clear A160
  by_cases c17 : x497004_1.length < 17592186044416
  case neg => rw [if_neg c17] at H; exact absurd H (by simp)
  rw [if_pos c17] at H
  have LMc17 := Aside0.mk c17
  clear c17
  obtain ⟨y519, hy519⟩ : ∃ y_ : List Int, y_ = (x497004_1 ++ [t516]) := ⟨_, rfl⟩
  (try with_reducible replace H := (Option.bind_some _ _).symm.trans H); (try dsimp only at H); (try rw [← hy519] at H)
  have Ny519 := Aside0.mk hy519
  clear hy519
  replace H := Option.bind_eq_some_iff.mp H
  obtain ⟨⟨t522, t523, t524⟩, A180, H⟩ := H
  try dsimp only at H
  have A18 := Aside0.mk A180
  clear A180
  by_cases c19 : x497005_1.length < 17592186044416
  case neg => rw [if_neg c19] at H; exact absurd H (by simp)
  rw [if_pos c19] at H
  have LMc19 := Aside0.mk c19
  clear c19
  obtain ⟨y525, hy525⟩ : ∃ y_ : List Int, y_ = (x497005_1 ++ [t522]) := ⟨_, rfl⟩
  (try with_reducible replace H := (Option.bind_some _ _).symm.trans H); (try dsimp only at H); (try rw [← hy525] at H)
  have Ny525 := Aside0.mk hy525
  clear hy525
  have H' := Aside0.mk H
  clear H
  try go_wp2
  replace HO_497003 := Aside0.mk (Kd.R_drew HO_497003.out)
  replace HO_497004 := Aside0.mk (Kd.R_drew HO_497004.out)
  replace HO_497005 := Aside0.mk (Kd.R_drew HO_497005.out)
  replace BK490 := Aside0.mk (blk_drew BK490.out)
  replace BK496 := Aside0.mk (blk_drew BK496.out)
  replace HI0 := Aside0.mk (IsS106.drew HI0.out)
  replace HK := Aside0.mk (keep_drew HK.out)
  replace HB := Aside0.mk (below_drew1 HB.out)
  refine start_ (n := 11) (S := fun w' => w'.cell? ⟨gb496, 0, none⟩ = some (.int .i64 t491) ∧ w'.cell? ⟨gb496, 1, none⟩ = some (.int .i64 t492) ∧ w'.cell? ⟨gb496, 2, none⟩ = some (.int .i64 t493) ∧ w'.cell? ⟨gb496, 3, none⟩ = some (u497003) ∧ w'.cell? ⟨gb496, 4, none⟩ = some (u497004) ∧ w'.cell? ⟨gb496, 5, none⟩ = some (u497005)) (ds := [10]) (bb 11 0) (by kernel_rfl) rfl rfl ⟨(blk_cell BK496.out 0).trans rfl, (blk_cell BK496.out 1).trans rfl, (blk_cell BK496.out 2).trans rfl, (blk_cell BK496.out 3).trans rfl, (blk_cell BK496.out 4).trans rfl, (blk_cell BK496.out 5).trans rfl⟩ (fun hHeld => ?_); refine with_tabW spec_l1Cur_model.tab5 spec_l1Cur_model.bits5 (fun HT_ HW_ => ?_)
  generalize wr.drew = w20 at HO_497003 HO_497004 HO_497005 BK490 BK496 HI0 HK HB hHeld ⊢
  refine pl_ HT_ 0 (some 15) (bb 11 1) (h := ?_)
  refine pl_ HT_ 2 (some 17) (bb 11 5) (h := ?_)
  refine pl_ HT_ 3 (some 18) (bb 11 13) (h := ?_)
  refine tk_ HT_ HW_ hHeld 1 (some 16) (bb 11 15) (h := ?_)
  refine one_ (i := 4) (N := some 19) (bb 11 31) rfl rfl (one_of HT_.out (by kernel_rfl)) (by decide) (fun K hK => ?_)
  refine goes_ Try.func87 (by kernel_rfl) rfl #[.pointer (some ⟨g, 0, none⟩), .int .i64 10001] (by rfl) rfl rfl (by (try simp only [List.map_toArray, List.map_cons, List.map_nil]); first | done | rfl | (simp only [List.length_drop, List.length_take]; rfl)) ?_
  with_reducible refine (spec_l1Cur_pick.calls g s0_0 x1001_1 x1002_1 10001 t498 t499 t500 w0 _ ?side1 ?side2 A12.out).mono ?_
  (case side1 => exact IsS106.q HI0)
  (case side2 => exact hbI_ HB (IsS106.ge HI0.out))
  rintro e w21 ⟨rfl, hi, hb, hk⟩
  refine ⟨_, rfl, ?_⟩
  have n0_ := IsS106.rk HI0 HO_497003 hk
  have n1_ := IsS106.rk HI0 HO_497004 hk
  have n2_ := IsS106.rk HI0 HO_497005 hk
  have n3_ := Aside0.mk (KeepBut.blk hk (kp_ BK490) NB490_0.out (by simp))
  have n4_ := Aside0.mk (KeepBut.blk hk (kp_ BK496) NB496_0.out (by simp))
  have n5_ := Aside0.mk (KeepBut.trans (hk_ HK) hk (.inl rfl))
  have n6_ := Aside0.mk (hb)
  have n7_ := Aside0.mk (hi)
  clear HO_497003
  clear HO_497004
  clear HO_497005
  clear BK490
  clear BK496
  clear HK
  clear HB
  clear HI0
  have HO_497003 := n0_
  have HO_497004 := n1_
  have HO_497005 := n2_
  have BK490 := n3_
  have BK496 := n4_
  have HK := n5_
  have HB := n6_
  have HI0 := n7_
  clear n0_ n1_ n2_ n3_ n4_ n5_ n6_ n7_
  refine hK.out _ _ ⟨(blk_cell BK496.out 0).trans rfl, (blk_cell BK496.out 1).trans rfl, (blk_cell BK496.out 2).trans rfl, (blk_cell BK496.out 3).trans rfl, (blk_cell BK496.out 4).trans rfl, (blk_cell BK496.out 5).trans rfl⟩ (fun hHeld => ?_)
  clear hK K
  refine nm_ (some 19) (h := ?_)
  refine one_ (i := 5) (N := some 20) (bb 11 63) rfl rfl (one_of HT_.out (by kernel_rfl)) (by decide) (fun K hK => ?_)
  refine Kd.R_lit_step (Kd.int .i64) _ 3 ?hg (N := 20) ?hd (xs := ([0, 100, 100, 200, 500, 1000, t498] : List Int)) (inner := [.int .i64 0, .int .i64 100, .int .i64 100, .int .i64 200, .int .i64 500, .int .i64 1000, .int .i64 t498]) (ok := fun _ => True) (okp := fun _ => True) ?hr ?hp (fun _ hk => hk) trivial (Below.refl _ _) (Nat.le_refl _) (by simp) ?_; (case hd => rfl); (case hg => rfl); (case hr => first | (go_simp; done) | (go_simp; rfl)); (case hp => exact (Reps.one (show Kd.M (Kd.int .i64) _ _ _ 0 [.int .i64 0] from rfl) (Reps.one (show Kd.M (Kd.int .i64) _ _ _ 100 [.int .i64 100] from rfl) (Reps.one (show Kd.M (Kd.int .i64) _ _ _ 100 [.int .i64 100] from rfl) (Reps.one (show Kd.M (Kd.int .i64) _ _ _ 200 [.int .i64 200] from rfl) (Reps.one (show Kd.M (Kd.int .i64) _ _ _ 500 [.int .i64 500] from rfl) (Reps.one (show Kd.M (Kd.int .i64) _ _ _ 1000 [.int .i64 1000] from rfl) (Reps.one (show Kd.M (Kd.int .i64) _ _ _ t498 [.int .i64 t498] from rfl) (Reps.none _ _)))))))))
  intro v502 w22 ho23 hb hg_ hnew_
  clear hg_ hnew_
  (first | rw [← Ny501.out] at ho23 | (simp only [Int.reduceToNat] at ho23; rw [← Ny501.out] at ho23))
  have n0_ := Aside0.mk (Kd.R_elder' (Kd.R_p HO_497003) (Kd.R_base ho23) hb)
  have n1_ := Aside0.mk (Kd.R_elder' (Kd.R_p HO_497004) (Kd.R_base ho23) hb)
  have n2_ := Aside0.mk (Kd.R_elder' (Kd.R_p HO_497005) (Kd.R_base ho23) hb)
  have n3_ := Aside0.mk (Kd.R_lower (Kd.R_nw (Kd.R_nw (Kd.R_nw ho23 HO_497003) HO_497004) HO_497005) (keep_size (hk_ HK)))
  have n4_ := Aside0.mk (blk_below (kp_ BK490) hb)
  have n5_ := Aside0.mk (blk_below (kp_ BK496) hb)
  have n6_ := Aside0.mk (IsS106.below (IsS106.q HI0) hb)
  have n7_ := Aside0.mk (KeepBut.trans (hk_ HK) (KeepBut.of_below hb g none) (.inl rfl))
  have n8_ := Aside0.mk (below_step (hbI_ HB (IsS106.ge HI0.out)) hb)
  clear HO_497003
  clear HO_497004
  clear HO_497005
  clear BK490
  clear BK496
  clear HI0
  clear HK
  clear HB
  have HO_497003 := n0_
  have HO_497004 := n1_
  have HO_497005 := n2_
  have HO503 := n3_
  have BK490 := n4_
  have BK496 := n5_
  have HI0 := n6_
  have HK := n7_
  have HB := n8_
  clear n0_ n1_ n2_ n3_ n4_ n5_ n6_ n7_ n8_
  clear hb ho23
  obtain ⟨Ao24, co24, eo24⟩ := Kd.R_slice HO503.out
  (first | subst eo24 | (injection eo24 with f1_ f2_ f3_; have f4_ := f1_.symm; have f5_ := f3_.symm; clear f1_ f2_ f3_; subst f4_; subst f5_))
  refine hK.out _ _ ⟨(blk_cell BK496.out 0).trans rfl, (blk_cell BK496.out 1).trans rfl, (blk_cell BK496.out 2).trans rfl, (blk_cell BK496.out 3).trans rfl, (blk_cell BK496.out 4).trans rfl, (blk_cell BK496.out 5).trans rfl⟩ (fun hHeld => ?_)
  clear hK K
  refine nm_ (some 20) (h := ?_)
  refine one_ (i := 6) (N := some 21) (bb 11 127) rfl rfl (one_of HT_.out (by kernel_rfl)) (by decide) (fun K hK => ?_)
  refine goes_ Try.func89 (by kernel_rfl) rfl #[.pointer (some ⟨g, 0, none⟩), .slice Ao24 y501.length co24] (by rfl) rfl rfl (by (try simp only [List.map_toArray, List.map_cons, List.map_nil]); first | done | rfl | (simp only [List.length_drop, List.length_take]; rfl)) ?_
  with_reducible refine (spec_l1Cur_among.calls g s0_0 t499 t500 _ _ y501 t504 t505 t506 w0 _ ?side1 ?side2 ?side3 ?side4 ?side5 A13.out).mono ?_
  (case side1 => exact IsS106.q HI0)
  (case side2 => exact hbI_ HB (IsS106.ge HI0.out))
  (case side3 => exact Kd.C_o HO503)
  (case side4 => exact (Kd.R_reads' HO503.out).2.1)
  (case side5 => exact far_slice (IsS106.own_ne HI0.out HO503.out (by decide)))
  rintro e w25 ⟨rfl, hi, hb, hk⟩
  refine ⟨_, rfl, ?_⟩
  have n0_ := IsS106.rk HI0 HO_497003 hk
  have n1_ := IsS106.rk HI0 HO_497004 hk
  have n2_ := IsS106.rk HI0 HO_497005 hk
  have n3_ := Aside0.mk (KeepBut.blk hk (kp_ BK490) NB490_0.out (by simp))
  have n4_ := Aside0.mk (KeepBut.blk hk (kp_ BK496) NB496_0.out (by simp))
  have n5_ := IsS106.rk HI0 HO503 hk
  have n6_ := Aside0.mk (KeepBut.trans (hk_ HK) hk (.inl rfl))
  have n7_ := Aside0.mk (hb)
  have n8_ := Aside0.mk (hi)
  clear HO_497003
  clear HO_497004
  clear HO_497005
  clear BK490
  clear BK496
  clear HO503
  clear HK
  clear HB
  clear HI0
  have HO_497003 := n0_
  have HO_497004 := n1_
  have HO_497005 := n2_
  have BK490 := n3_
  have BK496 := n4_
  have HO503 := n5_
  have HK := n6_
  have HB := n7_
  have HI0 := n8_
  clear n0_ n1_ n2_ n3_ n4_ n5_ n6_ n7_ n8_
  refine hK.out _ _ ⟨(blk_cell BK496.out 0).trans rfl, (blk_cell BK496.out 1).trans rfl, (blk_cell BK496.out 2).trans rfl, (blk_cell BK496.out 3).trans rfl, (blk_cell BK496.out 4).trans rfl, (blk_cell BK496.out 5).trans rfl⟩ (fun hHeld => ?_)
  clear hK K
  refine nm_ (some 21) (h := ?_)
  refine one_ (i := 7) (N := some 22) (bb 11 255) rfl rfl (one_of HT_.out (by kernel_rfl)) (by decide) (fun K hK => ?_)
  refine value_ (w1 := ?_) (v := ?_) (by rfl) rfl ?_ ?_
  rotate_left 2
  ·go_simp
   constructor
   ·rfl
   rfl
  refine hK.out _ _ ⟨(blk_cell (blk_alloc BK496.out _) 0).trans rfl, (blk_cell (blk_alloc BK496.out _) 1).trans rfl, (blk_cell (blk_alloc BK496.out _) 2).trans rfl, (blk_cell (blk_alloc BK496.out _) 3).trans rfl, (blk_cell (blk_alloc BK496.out _) 4).trans rfl, (blk_cell (blk_alloc BK496.out _) 5).trans rfl⟩ (fun hHeld => ?_)
  clear hK K
  refine nm_ (some 22) (h := ?_)
  refine one_ (i := 8) (N := some 23) (bb 11 511) rfl rfl (one_of HT_.out (by kernel_rfl)) (by decide) (fun K hK => ?_)
  refine Kd.R_append_step (Kd.int .i64) w.heap.size (by rfl) (.tmp 16) (.tmp 22) 24 3 (.int .i64 0) 8 rfl Try.underlying24 info3 rfl (by decide) (by omega) u497003 x497003_1 t504 [.int .i64 t504] (fun k_ => some k_ ≠ (u497004 : Value).ownBlock ∧ some k_ ≠ (u497005 : Value).ownBlock ∧ some k_ ≠ (.slice Ao24 y501.length co24 : Value).ownBlock) (fun _ => False) rfl rfl ?aP (fun _ hk => hk.elim) ?aF ?aO (Below.refl _ _) ?aS ?aL ?_
  (case aP => exact rfl)
  (case aF => exact (fun k_ hk => ⟨Kd.fresh' (Kd.R_lt (Kd.R_p HO_497004)) k_ hk, Kd.fresh' (Kd.R_lt (Kd.R_p HO_497005)) k_ hk, Kd.fresh' (Kd.R_lt (Kd.R_p HO503)) k_ hk⟩))
  (case aO => exact (rm_ (h := HO_497003.out)))
  (case aS => exact (keep_size (hk_ HK)))
  (case aL => have := LMc14.out; omega)
  intro v508 w26 ho hb hg hat
  rw [← Ny507.out] at ho
  have n0_ := Aside0.mk (Kd.R_after (ok := (fun k_ => some k_ ≠ (u497005 : Value).ownBlock ∧ some k_ ≠ (.slice Ao24 y501.length co24 : Value).ownBlock)) (rm_ (h := HO_497004.out)) hg hat)
  have n1_ := Aside0.mk (Kd.R_after (ok := (fun k_ => some k_ ≠ (u497004 : Value).ownBlock ∧ some k_ ≠ (.slice Ao24 y501.length co24 : Value).ownBlock)) (rm_ (h := HO_497005.out)) hg hat)
  have n2_ := Aside0.mk (blk_grown (kp_ BK490) hg (Kd.R_ne HO_497003.out BK490.out (by decide)))
  have n3_ := Aside0.mk (blk_grown (kp_ BK496) hg (Kd.R_ne HO_497003.out BK496.out (by decide)))
  have n4_ := Aside0.mk (IsS106.grown (IsS106.q HI0) hg (IsS106.own_ne HI0.out HO_497003.out (by decide)))
  have n5_ := Aside0.mk (Kd.R_after (ok := (fun k_ => some k_ ≠ (u497004 : Value).ownBlock ∧ some k_ ≠ (u497005 : Value).ownBlock)) (rm_ (h := HO503.out)) hg hat)
  have n6_ := Aside0.mk (below_weaken (hbI_ HB (IsS106.ge HI0.out)) HL.out hb)
  have n7_ := Aside0.mk (KeepBut.trans (hk_ HK) (KeepBut.of_grown hg g) (Kd.R_base2 HO_497003.out))
  have n8_ := Aside0.mk (ho)
  clear HO_497004
  clear HO_497005
  clear BK490
  clear BK496
  clear HI0
  clear HO503
  clear HB
  clear HK
  clear HO_497003
  have HO_497004 := n0_
  have HO_497005 := n1_
  have BK490 := n2_
  have BK496 := n3_
  have HI0 := n4_
  have HO503 := n5_
  have HB := n6_
  have HK := n7_
  have HO509 := n8_
  clear n0_ n1_ n2_ n3_ n4_ n5_ n6_ n7_ n8_
  clear ho hb hg hat
  obtain ⟨Ao27, co27, eo27⟩ := Kd.R_slice HO509.out
  (first | subst eo27 | (injection eo27 with f1_ f2_ f3_; have f4_ := f1_.symm; have f5_ := f3_.symm; clear f1_ f2_ f3_; subst f4_; subst f5_))
  refine hK.out _ _ ⟨(blk_cell BK496.out 0).trans rfl, (blk_cell BK496.out 1).trans rfl, (blk_cell BK496.out 2).trans rfl, (blk_cell BK496.out 3).trans rfl, (blk_cell BK496.out 4).trans rfl, (blk_cell BK496.out 5).trans rfl⟩ (fun hHeld => ?_)
  clear hK K
  refine nm_ (some 23) (h := ?_)
  refine pl_ HT_ 9 (some 24) (bb 11 1023) (h := ?_)
  refine last_ (i := 10) (N := none) (bb 11 2047) rfl rfl (one_of HT_.out (by kernel_rfl)) (by decide) (fun K hK => ?_)
  have hs28 : w26.cell? ⟨gb496, 3, none⟩ = some (u497003) := (blk_cell BK496.out 3).trans rfl
  have hfs28 := blk_frozen BK496.out 3
  have hns28_0 := NB490_496.out
  have hms28_0 := NB496_490.out
  refine skip_ (w1 := ?_) (by rfl) rfl ?_ ?_
  rotate_left
  ·go_simp
   rfl
  refine hK.out _ _ ?_
  clear hK K
  refine done_ (done_of HT_.out (by kernel_rfl)) ?_
  try go_wp2
  have n0_ : Aside0 (Kd.R (Kd.int .i64) 3 (w26.setCell ⟨gb496, 3, none⟩ (.slice Ao27 y507.length co27)) w.heap.size (fun k_ => some k_ ≠ (u497005 : Value).ownBlock ∧ some k_ ≠ (.slice Ao27 y507.length co27 : Value).ownBlock) u497004 x497004_1) := ⟨Kd.R_mono (Kd.R_s HO_497004 BK496) (fun _ hk => ⟨hk.1.1, hk.2⟩)⟩
  have n1_ : Aside0 (Kd.R (Kd.int .i64) 3 (w26.setCell ⟨gb496, 3, none⟩ (.slice Ao27 y507.length co27)) w.heap.size (fun k_ => some k_ ≠ (u497004 : Value).ownBlock ∧ some k_ ≠ (.slice Ao27 y507.length co27 : Value).ownBlock) u497005 x497005_1) := ⟨Kd.R_mono (Kd.R_s HO_497005 BK496) (fun _ hk => ⟨hk.1.1, hk.2⟩)⟩
  have n2_ : Aside0 (Kd.R (Kd.int .i64) 3 (w26.setCell ⟨gb496, 3, none⟩ (.slice Ao27 y507.length co27)) w.heap.size (fun k_ => some k_ ≠ (u497004 : Value).ownBlock ∧ some k_ ≠ (u497005 : Value).ownBlock) (.slice Ao27 y507.length co27) y507) := ⟨Kd.R_mono (Kd.R_s HO509 BK496) (fun _ hk => ⟨hk.1, hk.2.1⟩)⟩
  have n3_ : Aside0 ((w26.setCell ⟨gb496, 3, none⟩ (.slice Ao27 y507.length co27)).heap[gb490]? = some (.cells #[.int .i64 0, .int .i64 0, .int .i64 0, .slice none 0 0, .slice none 0 0, .slice none 0 0] 34 (0, 0))) := ⟨kf_ BK490 NB490_496⟩
  have n4_ : Aside0 ((w26.setCell ⟨gb496, 3, none⟩ (.slice Ao27 y507.length co27)).heap[gb496]? = some (.cells #[.int .i64 t491, .int .i64 t492, .int .i64 t493, .slice Ao27 y507.length co27, u497004, u497005] 34 (0, 0))) := ⟨kpq_ (kputs BK496 [(3, _)])⟩
  have n5_ : Aside0 (IsS106 w0 (w26.setCell ⟨gb496, 3, none⟩ (.slice Ao27 y507.length co27)) g s0_0 t505 t506) := ⟨IsS106.q HI0⟩
  have n6_ : Aside0 (KeepBut w (w26.setCell ⟨gb496, 3, none⟩ (.slice Ao27 y507.length co27)) g none) := ⟨hk_ HK⟩
  have n7_ : Aside0 (Below w0.heap.size w0 (w26.setCell ⟨gb496, 3, none⟩ (.slice Ao27 y507.length co27))) := ⟨hbI_ HB (IsS106.ge HI0.out)⟩
  generalize (w26.setCell ⟨gb496, 3, none⟩ (.slice Ao27 y507.length co27)) = w29 at n0_ n1_ n2_ n3_ n4_ n5_ n6_ n7_ ⊢
  have HO_497004 := n0_
  have HO_497005 := n1_
  have HO509 := n2_
  have BK490 := n3_
  have BK496 := n4_
  have HI0 := n5_
  have HK := n6_
  have HB := n7_
  clear n0_ n1_ n2_ n3_ n4_ n5_ n6_ n7_
  replace HO_497004 := Aside0.mk (Kd.R_drew HO_497004.out)
  replace HO_497005 := Aside0.mk (Kd.R_drew HO_497005.out)
  replace HO509 := Aside0.mk (Kd.R_drew HO509.out)
  replace BK490 := Aside0.mk (blk_drew BK490.out)
  replace BK496 := Aside0.mk (blk_drew BK496.out)
  replace HI0 := Aside0.mk (IsS106.drew HI0.out)
  replace HK := Aside0.mk (keep_drew HK.out)
  replace HB := Aside0.mk (below_drew1 HB.out)
  refine start_ (n := 11) (S := fun w' => w'.cell? ⟨gb496, 0, none⟩ = some (.int .i64 t491) ∧ w'.cell? ⟨gb496, 1, none⟩ = some (.int .i64 t492) ∧ w'.cell? ⟨gb496, 2, none⟩ = some (.int .i64 t493) ∧ w'.cell? ⟨gb496, 3, none⟩ = some (.slice Ao27 y507.length co27) ∧ w'.cell? ⟨gb496, 4, none⟩ = some (u497004) ∧ w'.cell? ⟨gb496, 5, none⟩ = some (u497005)) (ds := [10]) (bb 11 0) (by kernel_rfl) rfl rfl ⟨(blk_cell BK496.out 0).trans rfl, (blk_cell BK496.out 1).trans rfl, (blk_cell BK496.out 2).trans rfl, (blk_cell BK496.out 3).trans rfl, (blk_cell BK496.out 4).trans rfl, (blk_cell BK496.out 5).trans rfl⟩ (fun hHeld => ?_); refine with_tabW spec_l1Cur_model.tab6 spec_l1Cur_model.bits6 (fun HT_ HW_ => ?_)
  generalize w29.drew = w30 at HO_497004 HO_497005 HO509 BK490 BK496 HI0 HK HB hHeld ⊢
  refine pl_ HT_ 0 (some 25) (bb 11 1) (h := ?_)
  refine pl_ HT_ 2 (some 27) (bb 11 5) (h := ?_)
  refine pl_ HT_ 3 (some 28) (bb 11 13) (h := ?_)
  refine tk_ HT_ HW_ hHeld 1 (some 26) (bb 11 15) (h := ?_)
  refine one_ (i := 4) (N := some 29) (bb 11 31) rfl rfl (one_of HT_.out (by kernel_rfl)) (by decide) (fun K hK => ?_)
  refine goes_ Try.func87 (by kernel_rfl) rfl #[.pointer (some ⟨g, 0, none⟩), .int .i64 1001] (by rfl) rfl rfl (by (try simp only [List.map_toArray, List.map_cons, List.map_nil]); first | done | rfl | (simp only [List.length_drop, List.length_take]; rfl)) ?_
  with_reducible refine (spec_l1Cur_pick.calls g s0_0 t505 t506 1001 t510 t511 t512 w0 _ ?side1 ?side2 A15.out).mono ?_
  (case side1 => exact IsS106.q HI0)
  (case side2 => exact hbI_ HB (IsS106.ge HI0.out))
  rintro e w31 ⟨rfl, hi, hb, hk⟩
  refine ⟨_, rfl, ?_⟩
  have n0_ := IsS106.rk HI0 HO_497004 hk
  have n1_ := IsS106.rk HI0 HO_497005 hk
  have n2_ := Aside0.mk (KeepBut.blk hk (kp_ BK490) NB490_0.out (by simp))
  have n3_ := Aside0.mk (KeepBut.blk hk (kp_ BK496) NB496_0.out (by simp))
  have n4_ := IsS106.rk HI0 HO509 hk
  have n5_ := Aside0.mk (KeepBut.trans (hk_ HK) hk (.inl rfl))
  have n6_ := Aside0.mk (hb)
  have n7_ := Aside0.mk (hi)
  clear HO_497004
  clear HO_497005
  clear BK490
  clear BK496
  clear HO509
  clear HK
  clear HB
  clear HI0
  have HO_497004 := n0_
  have HO_497005 := n1_
  have BK490 := n2_
  have BK496 := n3_
  have HO509 := n4_
  have HK := n5_
  have HB := n6_
  have HI0 := n7_
  clear n0_ n1_ n2_ n3_ n4_ n5_ n6_ n7_
  refine hK.out _ _ ⟨(blk_cell BK496.out 0).trans rfl, (blk_cell BK496.out 1).trans rfl, (blk_cell BK496.out 2).trans rfl, (blk_cell BK496.out 3).trans rfl, (blk_cell BK496.out 4).trans rfl, (blk_cell BK496.out 5).trans rfl⟩ (fun hHeld => ?_)
  clear hK K
  refine nm_ (some 29) (h := ?_)
  refine one_ (i := 5) (N := some 30) (bb 11 63) rfl rfl (one_of HT_.out (by kernel_rfl)) (by decide) (fun K hK => ?_)
  refine Kd.R_lit_step (Kd.int .i64) _ 3 ?hg (N := 30) ?hd (xs := ([0, 0, 5, 10, 20, 50, t510] : List Int)) (inner := [.int .i64 0, .int .i64 0, .int .i64 5, .int .i64 10, .int .i64 20, .int .i64 50, .int .i64 t510]) (ok := fun _ => True) (okp := fun _ => True) ?hr ?hp (fun _ hk => hk) trivial (Below.refl _ _) (Nat.le_refl _) (by simp) ?_; (case hd => rfl); (case hg => rfl); (case hr => first | (go_simp; done) | (go_simp; rfl)); (case hp => exact (Reps.one (show Kd.M (Kd.int .i64) _ _ _ 0 [.int .i64 0] from rfl) (Reps.one (show Kd.M (Kd.int .i64) _ _ _ 0 [.int .i64 0] from rfl) (Reps.one (show Kd.M (Kd.int .i64) _ _ _ 5 [.int .i64 5] from rfl) (Reps.one (show Kd.M (Kd.int .i64) _ _ _ 10 [.int .i64 10] from rfl) (Reps.one (show Kd.M (Kd.int .i64) _ _ _ 20 [.int .i64 20] from rfl) (Reps.one (show Kd.M (Kd.int .i64) _ _ _ 50 [.int .i64 50] from rfl) (Reps.one (show Kd.M (Kd.int .i64) _ _ _ t510 [.int .i64 t510] from rfl) (Reps.none _ _)))))))))
  intro v514 w32 ho33 hb hg_ hnew_
  clear hg_ hnew_
  (first | rw [← Ny513.out] at ho33 | (simp only [Int.reduceToNat] at ho33; rw [← Ny513.out] at ho33))
  have n0_ := Aside0.mk (Kd.R_elder' (Kd.R_p HO_497004) (Kd.R_base ho33) hb)
  have n1_ := Aside0.mk (Kd.R_elder' (Kd.R_p HO_497005) (Kd.R_base ho33) hb)
  have n2_ := Aside0.mk (Kd.R_elder' (Kd.R_p HO509) (Kd.R_base ho33) hb)
  have n3_ := Aside0.mk (Kd.R_lower (Kd.R_nw (Kd.R_nw (Kd.R_nw ho33 HO_497004) HO_497005) HO509) (keep_size (hk_ HK)))
  have n4_ := Aside0.mk (blk_below (kp_ BK490) hb)
  have n5_ := Aside0.mk (blk_below (kp_ BK496) hb)
  have n6_ := Aside0.mk (IsS106.below (IsS106.q HI0) hb)
  have n7_ := Aside0.mk (KeepBut.trans (hk_ HK) (KeepBut.of_below hb g none) (.inl rfl))
  have n8_ := Aside0.mk (below_step (hbI_ HB (IsS106.ge HI0.out)) hb)
  clear HO_497004
  clear HO_497005
  clear HO509
  clear BK490
  clear BK496
  clear HI0
  clear HK
  clear HB
  have HO_497004 := n0_
  have HO_497005 := n1_
  have HO509 := n2_
  have HO515 := n3_
  have BK490 := n4_
  have BK496 := n5_
  have HI0 := n6_
  have HK := n7_
  have HB := n8_
  clear n0_ n1_ n2_ n3_ n4_ n5_ n6_ n7_ n8_
  clear hb ho33
  obtain ⟨Ao34, co34, eo34⟩ := Kd.R_slice HO515.out
  (first | subst eo34 | (injection eo34 with f1_ f2_ f3_; have f4_ := f1_.symm; have f5_ := f3_.symm; clear f1_ f2_ f3_; subst f4_; subst f5_))
  refine hK.out _ _ ⟨(blk_cell BK496.out 0).trans rfl, (blk_cell BK496.out 1).trans rfl, (blk_cell BK496.out 2).trans rfl, (blk_cell BK496.out 3).trans rfl, (blk_cell BK496.out 4).trans rfl, (blk_cell BK496.out 5).trans rfl⟩ (fun hHeld => ?_)
  clear hK K
  refine nm_ (some 30) (h := ?_)
  refine one_ (i := 6) (N := some 31) (bb 11 127) rfl rfl (one_of HT_.out (by kernel_rfl)) (by decide) (fun K hK => ?_)
  refine goes_ Try.func89 (by kernel_rfl) rfl #[.pointer (some ⟨g, 0, none⟩), .slice Ao34 y513.length co34] (by rfl) rfl rfl (by (try simp only [List.map_toArray, List.map_cons, List.map_nil]); first | done | rfl | (simp only [List.length_drop, List.length_take]; rfl)) ?_
  with_reducible refine (spec_l1Cur_among.calls g s0_0 t511 t512 _ _ y513 t516 t517 t518 w0 _ ?side1 ?side2 ?side3 ?side4 ?side5 A16.out).mono ?_
  (case side1 => exact IsS106.q HI0)
  (case side2 => exact hbI_ HB (IsS106.ge HI0.out))
  (case side3 => exact Kd.C_o HO515)
  (case side4 => exact (Kd.R_reads' HO515.out).2.1)
  (case side5 => exact far_slice (IsS106.own_ne HI0.out HO515.out (by decide)))
  rintro e w35 ⟨rfl, hi, hb, hk⟩
  refine ⟨_, rfl, ?_⟩
  have n0_ := IsS106.rk HI0 HO_497004 hk
  have n1_ := IsS106.rk HI0 HO_497005 hk
  have n2_ := Aside0.mk (KeepBut.blk hk (kp_ BK490) NB490_0.out (by simp))
  have n3_ := Aside0.mk (KeepBut.blk hk (kp_ BK496) NB496_0.out (by simp))
  have n4_ := IsS106.rk HI0 HO509 hk
  have n5_ := IsS106.rk HI0 HO515 hk
  have n6_ := Aside0.mk (KeepBut.trans (hk_ HK) hk (.inl rfl))
  have n7_ := Aside0.mk (hb)
  have n8_ := Aside0.mk (hi)
  clear HO_497004
  clear HO_497005
  clear BK490
  clear BK496
  clear HO509
  clear HO515
  clear HK
  clear HB
  clear HI0
  have HO_497004 := n0_
  have HO_497005 := n1_
  have BK490 := n2_
  have BK496 := n3_
  have HO509 := n4_
  have HO515 := n5_
  have HK := n6_
  have HB := n7_
  have HI0 := n8_
  clear n0_ n1_ n2_ n3_ n4_ n5_ n6_ n7_ n8_
  refine hK.out _ _ ⟨(blk_cell BK496.out 0).trans rfl, (blk_cell BK496.out 1).trans rfl, (blk_cell BK496.out 2).trans rfl, (blk_cell BK496.out 3).trans rfl, (blk_cell BK496.out 4).trans rfl, (blk_cell BK496.out 5).trans rfl⟩ (fun hHeld => ?_)
  clear hK K
  refine nm_ (some 31) (h := ?_)
  refine one_ (i := 7) (N := some 32) (bb 11 255) rfl rfl (one_of HT_.out (by kernel_rfl)) (by decide) (fun K hK => ?_)
  refine value_ (w1 := ?_) (v := ?_) (by rfl) rfl ?_ ?_
  rotate_left 2
  ·go_simp
   constructor
   ·rfl
   rfl
  refine hK.out _ _ ⟨(blk_cell (blk_alloc BK496.out _) 0).trans rfl, (blk_cell (blk_alloc BK496.out _) 1).trans rfl, (blk_cell (blk_alloc BK496.out _) 2).trans rfl, (blk_cell (blk_alloc BK496.out _) 3).trans rfl, (blk_cell (blk_alloc BK496.out _) 4).trans rfl, (blk_cell (blk_alloc BK496.out _) 5).trans rfl⟩ (fun hHeld => ?_)
  clear hK K
  refine nm_ (some 32) (h := ?_)
  refine one_ (i := 8) (N := some 33) (bb 11 511) rfl rfl (one_of HT_.out (by kernel_rfl)) (by decide) (fun K hK => ?_)
  refine Kd.R_append_step (Kd.int .i64) w.heap.size (by rfl) (.tmp 26) (.tmp 32) 24 3 (.int .i64 0) 8 rfl Try.underlying24 info3 rfl (by decide) (by omega) u497004 x497004_1 t516 [.int .i64 t516] (fun k_ => some k_ ≠ (u497005 : Value).ownBlock ∧ some k_ ≠ (.slice Ao27 y507.length co27 : Value).ownBlock ∧ some k_ ≠ (.slice Ao34 y513.length co34 : Value).ownBlock) (fun _ => False) rfl rfl ?aP (fun _ hk => hk.elim) ?aF ?aO (Below.refl _ _) ?aS ?aL ?_
  (case aP => exact rfl)
  (case aF => exact (fun k_ hk => ⟨Kd.fresh' (Kd.R_lt (Kd.R_p HO_497005)) k_ hk, Kd.fresh' (Kd.R_lt (Kd.R_p HO509)) k_ hk, Kd.fresh' (Kd.R_lt (Kd.R_p HO515)) k_ hk⟩))
  (case aO => exact (rm_ (h := HO_497004.out)))
  (case aS => exact (keep_size (hk_ HK)))
  (case aL => have := LMc17.out; omega)
  intro v520 w36 ho hb hg hat
  rw [← Ny519.out] at ho
  have n0_ := Aside0.mk (Kd.R_after (ok := (fun k_ => some k_ ≠ (.slice Ao27 y507.length co27 : Value).ownBlock ∧ some k_ ≠ (.slice Ao34 y513.length co34 : Value).ownBlock)) (rm_ (h := HO_497005.out)) hg hat)
  have n1_ := Aside0.mk (blk_grown (kp_ BK490) hg (Kd.R_ne HO_497004.out BK490.out (by decide)))
  have n2_ := Aside0.mk (blk_grown (kp_ BK496) hg (Kd.R_ne HO_497004.out BK496.out (by decide)))
  have n3_ := Aside0.mk (IsS106.grown (IsS106.q HI0) hg (IsS106.own_ne HI0.out HO_497004.out (by decide)))
  have n4_ := Aside0.mk (Kd.R_after (ok := (fun k_ => some k_ ≠ (u497005 : Value).ownBlock ∧ some k_ ≠ (.slice Ao34 y513.length co34 : Value).ownBlock)) (rm_ (h := HO509.out)) hg hat)
  have n5_ := Aside0.mk (Kd.R_after (ok := (fun k_ => some k_ ≠ (u497005 : Value).ownBlock ∧ some k_ ≠ (.slice Ao27 y507.length co27 : Value).ownBlock)) (rm_ (h := HO515.out)) hg hat)
  have n6_ := Aside0.mk (below_weaken (hbI_ HB (IsS106.ge HI0.out)) HL.out hb)
  have n7_ := Aside0.mk (KeepBut.trans (hk_ HK) (KeepBut.of_grown hg g) (Kd.R_base2 HO_497004.out))
  have n8_ := Aside0.mk (ho)
  clear HO_497005
  clear BK490
  clear BK496
  clear HI0
  clear HO509
  clear HO515
  clear HB
  clear HK
  clear HO_497004
  have HO_497005 := n0_
  have BK490 := n1_
  have BK496 := n2_
  have HI0 := n3_
  have HO509 := n4_
  have HO515 := n5_
  have HB := n6_
  have HK := n7_
  have HO521 := n8_
  clear n0_ n1_ n2_ n3_ n4_ n5_ n6_ n7_ n8_
  clear ho hb hg hat
  obtain ⟨Ao37, co37, eo37⟩ := Kd.R_slice HO521.out
  (first | subst eo37 | (injection eo37 with f1_ f2_ f3_; have f4_ := f1_.symm; have f5_ := f3_.symm; clear f1_ f2_ f3_; subst f4_; subst f5_))
  refine hK.out _ _ ⟨(blk_cell BK496.out 0).trans rfl, (blk_cell BK496.out 1).trans rfl, (blk_cell BK496.out 2).trans rfl, (blk_cell BK496.out 3).trans rfl, (blk_cell BK496.out 4).trans rfl, (blk_cell BK496.out 5).trans rfl⟩ (fun hHeld => ?_)
  clear hK K
  refine nm_ (some 33) (h := ?_)
  refine pl_ HT_ 9 (some 34) (bb 11 1023) (h := ?_)
  refine last_ (i := 10) (N := none) (bb 11 2047) rfl rfl (one_of HT_.out (by kernel_rfl)) (by decide) (fun K hK => ?_)
  have hs38 : w36.cell? ⟨gb496, 4, none⟩ = some (u497004) := (blk_cell BK496.out 4).trans rfl
  have hfs38 := blk_frozen BK496.out 4
  have hns38_0 := NB490_496.out
  have hms38_0 := NB496_490.out
  refine skip_ (w1 := ?_) (by rfl) rfl ?_ ?_
  rotate_left
  ·go_simp
   rfl
  refine hK.out _ _ ?_
  clear hK K
  refine done_ (done_of HT_.out (by kernel_rfl)) ?_
  try go_wp2
  have n0_ : Aside0 (Kd.R (Kd.int .i64) 3 (w36.setCell ⟨gb496, 4, none⟩ (.slice Ao37 y519.length co37)) w.heap.size (fun k_ => some k_ ≠ (.slice Ao27 y507.length co27 : Value).ownBlock ∧ some k_ ≠ (.slice Ao37 y519.length co37 : Value).ownBlock) u497005 x497005_1) := ⟨Kd.R_mono (Kd.R_s HO_497005 BK496) (fun _ hk => ⟨hk.1.1, hk.2⟩)⟩
  have n1_ : Aside0 (Kd.R (Kd.int .i64) 3 (w36.setCell ⟨gb496, 4, none⟩ (.slice Ao37 y519.length co37)) w.heap.size (fun k_ => some k_ ≠ (u497005 : Value).ownBlock ∧ some k_ ≠ (.slice Ao37 y519.length co37 : Value).ownBlock) (.slice Ao27 y507.length co27) y507) := ⟨Kd.R_mono (Kd.R_s HO509 BK496) (fun _ hk => ⟨hk.1.1, hk.2⟩)⟩
  have n2_ : Aside0 (Kd.R (Kd.int .i64) 3 (w36.setCell ⟨gb496, 4, none⟩ (.slice Ao37 y519.length co37)) w.heap.size (fun k_ => some k_ ≠ (u497005 : Value).ownBlock ∧ some k_ ≠ (.slice Ao27 y507.length co27 : Value).ownBlock) (.slice Ao37 y519.length co37) y519) := ⟨Kd.R_mono (Kd.R_s HO521 BK496) (fun _ hk => ⟨hk.1, hk.2.1⟩)⟩
  have n3_ : Aside0 ((w36.setCell ⟨gb496, 4, none⟩ (.slice Ao37 y519.length co37)).heap[gb490]? = some (.cells #[.int .i64 0, .int .i64 0, .int .i64 0, .slice none 0 0, .slice none 0 0, .slice none 0 0] 34 (0, 0))) := ⟨kf_ BK490 NB490_496⟩
  have n4_ : Aside0 ((w36.setCell ⟨gb496, 4, none⟩ (.slice Ao37 y519.length co37)).heap[gb496]? = some (.cells #[.int .i64 t491, .int .i64 t492, .int .i64 t493, .slice Ao27 y507.length co27, .slice Ao37 y519.length co37, u497005] 34 (0, 0))) := ⟨kpq_ (kputs BK496 [(4, _)])⟩
  have n5_ : Aside0 (IsS106 w0 (w36.setCell ⟨gb496, 4, none⟩ (.slice Ao37 y519.length co37)) g s0_0 t517 t518) := ⟨IsS106.q HI0⟩
  have n6_ : Aside0 (KeepBut w (w36.setCell ⟨gb496, 4, none⟩ (.slice Ao37 y519.length co37)) g none) := ⟨hk_ HK⟩
  have n7_ : Aside0 (Below w0.heap.size w0 (w36.setCell ⟨gb496, 4, none⟩ (.slice Ao37 y519.length co37))) := ⟨hbI_ HB (IsS106.ge HI0.out)⟩
  generalize (w36.setCell ⟨gb496, 4, none⟩ (.slice Ao37 y519.length co37)) = w39 at n0_ n1_ n2_ n3_ n4_ n5_ n6_ n7_ ⊢
  have HO_497005 := n0_
  have HO509 := n1_
  have HO521 := n2_
  have BK490 := n3_
  have BK496 := n4_
  have HI0 := n5_
  have HK := n6_
  have HB := n7_
  clear n0_ n1_ n2_ n3_ n4_ n5_ n6_ n7_
  replace HO_497005 := Aside0.mk (Kd.R_drew HO_497005.out)
  replace HO509 := Aside0.mk (Kd.R_drew HO509.out)
  replace HO521 := Aside0.mk (Kd.R_drew HO521.out)
  replace BK490 := Aside0.mk (blk_drew BK490.out)
  replace BK496 := Aside0.mk (blk_drew BK496.out)
  replace HI0 := Aside0.mk (IsS106.drew HI0.out)
  replace HK := Aside0.mk (keep_drew HK.out)
  replace HB := Aside0.mk (below_drew1 HB.out)
  refine start_ (n := 8) (S := fun w' => w'.cell? ⟨gb496, 0, none⟩ = some (.int .i64 t491) ∧ w'.cell? ⟨gb496, 1, none⟩ = some (.int .i64 t492) ∧ w'.cell? ⟨gb496, 2, none⟩ = some (.int .i64 t493) ∧ w'.cell? ⟨gb496, 3, none⟩ = some (.slice Ao27 y507.length co27) ∧ w'.cell? ⟨gb496, 4, none⟩ = some (.slice Ao37 y519.length co37) ∧ w'.cell? ⟨gb496, 5, none⟩ = some (u497005)) (ds := [7]) (bb 8 0) (by kernel_rfl) rfl rfl ⟨(blk_cell BK496.out 0).trans rfl, (blk_cell BK496.out 1).trans rfl, (blk_cell BK496.out 2).trans rfl, (blk_cell BK496.out 3).trans rfl, (blk_cell BK496.out 4).trans rfl, (blk_cell BK496.out 5).trans rfl⟩ (fun hHeld => ?_); refine with_tabW spec_l1Cur_model.tab7 spec_l1Cur_model.bits7 (fun HT_ HW_ => ?_)
  generalize w39.drew = w40 at HO_497005 HO509 HO521 BK490 BK496 HI0 HK HB hHeld ⊢
  refine pl_ HT_ 0 (some 35) (bb 8 1) (h := ?_)
  refine pl_ HT_ 2 (some 37) (bb 8 5) (h := ?_)
  refine tk_ HT_ HW_ hHeld 1 (some 36) (bb 8 7) (h := ?_)
  refine one_ (i := 3) (N := some 38) (bb 8 15) rfl rfl (one_of HT_.out (by kernel_rfl)) (by decide) (fun K hK => ?_)
  refine goes_ Try.func87 (by kernel_rfl) rfl #[.pointer (some ⟨g, 0, none⟩), .int .i64 5] (by rfl) rfl rfl (by (try simp only [List.map_toArray, List.map_cons, List.map_nil]); first | done | rfl | (simp only [List.length_drop, List.length_take]; rfl)) ?_
  with_reducible refine (spec_l1Cur_pick.calls g s0_0 t517 t518 5 t522 t523 t524 w0 _ ?side1 ?side2 A18.out).mono ?_
  (case side1 => exact IsS106.q HI0)
  (case side2 => exact hbI_ HB (IsS106.ge HI0.out))
  rintro e w41 ⟨rfl, hi, hb, hk⟩
  refine ⟨_, rfl, ?_⟩
  have n0_ := IsS106.rk HI0 HO_497005 hk
  have n1_ := Aside0.mk (KeepBut.blk hk (kp_ BK490) NB490_0.out (by simp))
  have n2_ := Aside0.mk (KeepBut.blk hk (kp_ BK496) NB496_0.out (by simp))
  have n3_ := IsS106.rk HI0 HO509 hk
  have n4_ := IsS106.rk HI0 HO521 hk
  have n5_ := Aside0.mk (KeepBut.trans (hk_ HK) hk (.inl rfl))
  have n6_ := Aside0.mk (hb)
  have n7_ := Aside0.mk (hi)
  clear HO_497005
  clear BK490
  clear BK496
  clear HO509
  clear HO521
  clear HK
  clear HB
  clear HI0
  have HO_497005 := n0_
  have BK490 := n1_
  have BK496 := n2_
  have HO509 := n3_
  have HO521 := n4_
  have HK := n5_
  have HB := n6_
  have HI0 := n7_
  clear n0_ n1_ n2_ n3_ n4_ n5_ n6_ n7_
  refine hK.out _ _ ⟨(blk_cell BK496.out 0).trans rfl, (blk_cell BK496.out 1).trans rfl, (blk_cell BK496.out 2).trans rfl, (blk_cell BK496.out 3).trans rfl, (blk_cell BK496.out 4).trans rfl, (blk_cell BK496.out 5).trans rfl⟩ (fun hHeld => ?_)
  clear hK K
  refine nm_ (some 38) (h := ?_)
  refine one_ (i := 4) (N := some 39) (bb 8 31) rfl rfl (one_of HT_.out (by kernel_rfl)) (by decide) (fun K hK => ?_)
  refine value_ (w1 := ?_) (v := ?_) (by rfl) rfl ?_ ?_
  rotate_left 2
  ·go_simp
   constructor
   ·rfl
   rfl
  refine hK.out _ _ ⟨(blk_cell (blk_alloc BK496.out _) 0).trans rfl, (blk_cell (blk_alloc BK496.out _) 1).trans rfl, (blk_cell (blk_alloc BK496.out _) 2).trans rfl, (blk_cell (blk_alloc BK496.out _) 3).trans rfl, (blk_cell (blk_alloc BK496.out _) 4).trans rfl, (blk_cell (blk_alloc BK496.out _) 5).trans rfl⟩ (fun hHeld => ?_)
  clear hK K
  refine nm_ (some 39) (h := ?_)
  refine one_ (i := 5) (N := some 40) (bb 8 63) rfl rfl (one_of HT_.out (by kernel_rfl)) (by decide) (fun K hK => ?_)
  refine Kd.R_append_step (Kd.int .i64) w.heap.size (by rfl) (.tmp 36) (.tmp 39) 24 3 (.int .i64 0) 8 rfl Try.underlying24 info3 rfl (by decide) (by omega) u497005 x497005_1 t522 [.int .i64 t522] (fun k_ => some k_ ≠ (.slice Ao27 y507.length co27 : Value).ownBlock ∧ some k_ ≠ (.slice Ao37 y519.length co37 : Value).ownBlock) (fun _ => False) rfl rfl ?aP (fun _ hk => hk.elim) ?aF ?aO (Below.refl _ _) ?aS ?aL ?_
  (case aP => exact rfl)
  (case aF => exact (fun k_ hk => ⟨Kd.fresh' (Kd.R_lt (Kd.R_p HO509)) k_ hk, Kd.fresh' (Kd.R_lt (Kd.R_p HO521)) k_ hk⟩))
  (case aO => exact (Kd.R_p HO_497005))
  (case aS => exact (keep_size (hk_ HK)))
  (case aL => have := LMc19.out; omega)
  intro v526 w42 ho hb hg hat
  rw [← Ny525.out] at ho
  have n0_ := Aside0.mk (blk_grown (kp_ BK490) hg (Kd.R_ne HO_497005.out BK490.out (by decide)))
  have n1_ := Aside0.mk (blk_grown (kp_ BK496) hg (Kd.R_ne HO_497005.out BK496.out (by decide)))
  have n2_ := Aside0.mk (IsS106.grown (IsS106.q HI0) hg (IsS106.own_ne HI0.out HO_497005.out (by decide)))
  have n3_ := Aside0.mk (Kd.R_after (ok := (fun k_ => some k_ ≠ (.slice Ao37 y519.length co37 : Value).ownBlock)) (rm_ (h := HO509.out)) hg hat)
  have n4_ := Aside0.mk (Kd.R_after (ok := (fun k_ => some k_ ≠ (.slice Ao27 y507.length co27 : Value).ownBlock)) (rm_ (h := HO521.out)) hg hat)
  have n5_ := Aside0.mk (below_weaken (hbI_ HB (IsS106.ge HI0.out)) HL.out hb)
  have n6_ := Aside0.mk (KeepBut.trans (hk_ HK) (KeepBut.of_grown hg g) (Kd.R_base2 HO_497005.out))
  have n7_ := Aside0.mk (ho)
  clear BK490
  clear BK496
  clear HI0
  clear HO509
  clear HO521
  clear HB
  clear HK
  clear HO_497005
  have BK490 := n0_
  have BK496 := n1_
  have HI0 := n2_
  have HO509 := n3_
  have HO521 := n4_
  have HB := n5_
  have HK := n6_
  have HO527 := n7_
  clear n0_ n1_ n2_ n3_ n4_ n5_ n6_ n7_
  clear ho hb hg hat
  obtain ⟨Ao43, co43, eo43⟩ := Kd.R_slice HO527.out
  (first | subst eo43 | (injection eo43 with f1_ f2_ f3_; have f4_ := f1_.symm; have f5_ := f3_.symm; clear f1_ f2_ f3_; subst f4_; subst f5_))
  refine hK.out _ _ ⟨(blk_cell BK496.out 0).trans rfl, (blk_cell BK496.out 1).trans rfl, (blk_cell BK496.out 2).trans rfl, (blk_cell BK496.out 3).trans rfl, (blk_cell BK496.out 4).trans rfl, (blk_cell BK496.out 5).trans rfl⟩ (fun hHeld => ?_)
  clear hK K
  refine nm_ (some 40) (h := ?_)
  refine pl_ HT_ 6 (some 41) (bb 8 127) (h := ?_)
  refine last_ (i := 7) (N := none) (bb 8 255) rfl rfl (one_of HT_.out (by kernel_rfl)) (by decide) (fun K hK => ?_)
  have hs44 : w42.cell? ⟨gb496, 5, none⟩ = some (u497005) := (blk_cell BK496.out 5).trans rfl
  have hfs44 := blk_frozen BK496.out 5
  have hns44_0 := NB490_496.out
  have hms44_0 := NB496_490.out
  refine skip_ (w1 := ?_) (by rfl) rfl ?_ ?_
  rotate_left
  ·go_simp
   rfl
  refine hK.out _ _ ?_
  clear hK K
  refine done_ (done_of HT_.out (by kernel_rfl)) ?_
  try go_wp2
  go_roundg k1
  case measure => have := HK1.out; omega
  case rel => exact ⟨(wrap64 (x4_1 - 1)), (t523), (t524), (y507), (y519), (y525), (.slice Ao27 y507.length co27), (.slice Ao37 y519.length co37), (.slice Ao43 y525.length co43), (by first | rfl | (simp; done) | (simp [*]; done)), H', ⟨by have := HK1.out; omega⟩, ⟨Kd.R_mono (Kd.R_s HO509 BK496) (fun _ hk => ⟨hk.1, hk.2⟩)⟩, ⟨Kd.R_mono (Kd.R_s HO521 BK496) (fun _ hk => ⟨hk.1, hk.2⟩)⟩, ⟨Kd.R_mono (Kd.R_s HO527 BK496) (fun _ hk => ⟨hk.1, hk.2⟩)⟩, ⟨kf_ BK490 NB490_496⟩, ⟨kpq_ (kputs BK496 [(5, _)])⟩, ⟨IsS106.q HI0⟩, ⟨hk_ HK⟩, ⟨hbI_ HB (IsS106.ge HI0.out)⟩⟩
 rw [if_neg c11] at H
 have c11b0 : decide (0 < x4_1) = false := decide_eq_false c11
 clear c11
 simp only [Option.some.injEq, Prod.mk.injEq] at H
 obtain ⟨rfl, rfl, rfl, rfl, rfl, rfl, rfl, rfl⟩ := H
 have := NB496_490.out
 have := NB490_496.out
 have := NB496_0.out
 have := NB0_496.out
 obtain ⟨hcz47_0, hcz47_1, hcz47_2, hcz47_3, hcz47_4, hcz47_5, hfz47_0, hfz47_1, hfz47_2, hfz47_3, hfz47_4, hfz47_5⟩ := bx6 BK496
 have := NB490_0.out
 have := NB0_490.out
 obtain ⟨hcz49_0, hcz49_1, hcz49_2, hcz49_3, hcz49_4, hcz49_5, hfz49_0, hfz49_1, hfz49_2, hfz49_3, hfz49_4, hfz49_5⟩ := bx6 BK490
 obtain ⟨Ao50, co50, eo50⟩ := Kd.R_slice HO_497003.out
 subst eo50
 obtain ⟨Ao51, co51, eo51⟩ := Kd.R_slice HO_497004.out
 subst eo51
 obtain ⟨Ao52, co52, eo52⟩ := Kd.R_slice HO_497005.out
 subst eo52
 go_wp2
 refine bodyPost_ret (results_cell_row rfl _ _ gb490 34 #[.int .i64 t491, .int .i64 t492, .int .i64 t493, .slice Ao50 x497003_1.length co50, .slice Ao51 x497004_1.length co51, .slice Ao52 x497005_1.length co52] (0, 0) _ rfl (kpq_ (kputs BK490 [(0, _), (1, _), (2, _), (3, _), (4, _), (5, _)])) Try.underlying34 rfl (by kernel_rfl)) rfl ?_
 exact ⟨_, _, _, by first | rfl | (simp [errW_none, errW_some] <;> rfl) | (simp [*, errW_none, errW_some] <;> rfl), Kd.R_mono (Kd.R_s HO_497003 BK490) (fun _ hk => ⟨hk.1, hk.2⟩), Kd.R_mono (Kd.R_s HO_497004 BK490) (fun _ hk => ⟨hk.1, hk.2⟩), Kd.R_mono (Kd.R_s HO_497005 BK490) (fun _ hk => ⟨hk.1, hk.2⟩), IsS106.q HI0, hbI_ HB (IsS106.ge HI0.out), hk_ HK⟩

end Go.Proofs.Ytceajigggcihnaa.PFnCoarse
