-- Laid for this claim by wip/tools/print2.sh, a changed copy of the kit's print (wip/tools/patch_print.py): not by print.sh.
import Derived.Test.YthphbkkkbolcnaaGreatDoorPFnModelsx2
import Derived.Test.YthphbkkkbolcnaaGreatDoorVFnModels
namespace Go.Proofs.YthphbkkkbolcnaaGreatDoor.PFnModels
open Go.RowKit Go.Proofs.YthphbkkkbolcnaaGreatDoorW.PrintWords Go.Proofs.YthphbkkkbolcnaaGreatDoorW.PrintLast Go.Proofs.YthphbkkkbolcnaaGreatDoorW.PrintMore
set_option linter.unusedVariables false
set_option linter.unusedSimpArgs false

/-! ### spec_l1Cur_model: function 50 -/
def spec_l1Cur_model.l0 : Nat → Int → List Int → Int → Int → Int → Int → Int → List Int → List Int → List Int → Option (Int × Int × Int × List Int × List Int × List Int × Int × Int)
 | 0, _, _, _, _, _, _, _, _, _, _ => none
 | k + 1, x4, x1000, x1001, x1002, x143000, x143001, x143002, x143003, x143004, x143005 => if x4 > 0 then ((spec_l1Cur_pick.f x1000 x1001 x1002 10001).bind fun bt144 => ((spec_l1Cur_among.f x1000 bt144.2.1 bt144.2.2 (([0, 100, 100, 200, 500, 1000, bt144.1] : List Int))).bind fun bt150 => (if x143003.length < 17592186044416 then ((spec_l1Cur_pick.f x1000 bt150.2.1 bt150.2.2 1001).bind fun bt156 => ((spec_l1Cur_among.f x1000 bt156.2.1 bt156.2.2 (([0, 0, 5, 10, 20, 50, bt156.1] : List Int))).bind fun bt162 => (if x143004.length < 17592186044416 then ((spec_l1Cur_pick.f x1000 bt162.2.1 bt162.2.2 5).bind fun bt168 => (if x143005.length < 17592186044416 then (spec_l1Cur_model.l0 k (wrap64 (x4 - 1)) x1000 bt168.2.1 bt168.2.2 x143000 x143001 x143002 (x143003 ++ [bt150.1]) (x143004 ++ [bt162.1]) (x143005 ++ [bt168.1])) else (none))) else (none)))) else (none)))) else (some (x143000, x143001, x143002, x143003, x143004, x143005, x1001, x1002))
def spec_l1Cur_model.f (k : Nat) (s0_0 : List Int) (s0_1 : Int) (s0_2 : Int) : Option (Int × Int × Int × List Int × List Int × List Int × Int × Int) := (spec_l1Cur_grid.f s0_0 s0_1 s0_2).bind fun bt137 => ((spec_grCount.f bt137.1 bt137.2.1 bt137.2.2.1).bind fun t143 => (spec_l1Cur_model.l0 k t143 s0_0 bt137.2.2.2.1 bt137.2.2.2.2 bt137.1 bt137.2.1 bt137.2.2.1 ([] : List Int) ([] : List Int) ([] : List Int)))
def spec_l1Cur_model.T5 : Bool × List (List Nat × List Nat) := (true, [([], []), ([0], [0]), ([], []), ([], []), ([3], [3]), ([4], [4]), ([2, 5, 4], [2, 5]), ([6], [6]), ([1, 7, 6], [1, 7]), ([0, 1, 2, 3, 4, 5, 6, 7, 8], []), ([9, 8, 8, 0, 1, 2, 3, 4, 5, 6, 7, 8], [8, 9])])
def spec_l1Cur_model.B5 : List Nat := [0, 1, 0, 0, 8, 24, 60, 124, 255, 511, 1023]
theorem spec_l1Cur_model.tab5 : rtab .any (opsOf Tryz.f50 5) = spec_l1Cur_model.T5 := by kernel_rfl
theorem spec_l1Cur_model.bits5 : waitsOk spec_l1Cur_model.T5.2 spec_l1Cur_model.B5 = true := by kernel_rfl
def spec_l1Cur_model.T6 : Bool × List (List Nat × List Nat) := (true, [([], []), ([0], [0]), ([], []), ([], []), ([3], [3]), ([4], [4]), ([2, 5, 4], [2, 5]), ([6], [6]), ([1, 7, 6], [1, 7]), ([0, 1, 2, 3, 4, 5, 6, 7, 8], []), ([9, 8, 8, 0, 1, 2, 3, 4, 5, 6, 7, 8], [8, 9])])
def spec_l1Cur_model.B6 : List Nat := [0, 1, 0, 0, 8, 24, 60, 124, 255, 511, 1023]
theorem spec_l1Cur_model.tab6 : rtab .any (opsOf Tryz.f50 6) = spec_l1Cur_model.T6 := by kernel_rfl
theorem spec_l1Cur_model.bits6 : waitsOk spec_l1Cur_model.T6.2 spec_l1Cur_model.B6 = true := by kernel_rfl
def spec_l1Cur_model.T7 : Bool × List (List Nat × List Nat) := (true, [([], []), ([0], [0]), ([], []), ([2], [2]), ([3], [3]), ([1, 4, 3], [1, 4]), ([0, 1, 2, 3, 4, 5], []), ([6, 5, 5, 0, 1, 2, 3, 4, 5], [5, 6])])
def spec_l1Cur_model.B7 : List Nat := [0, 1, 0, 4, 12, 31, 63, 127]
theorem spec_l1Cur_model.tab7 : rtab .any (opsOf Tryz.f50 7) = spec_l1Cur_model.T7 := by kernel_rfl
theorem spec_l1Cur_model.bits7 : waitsOk spec_l1Cur_model.T7.2 spec_l1Cur_model.B7 = true := by kernel_rfl
set_option maxHeartbeats 8000000 in
set_option maxRecDepth 100000 in
theorem spec_l1Cur_model.calls (k : Nat) (g : Nat) (s0_0 : List Int) (s0_1 : Int) (s0_2 : Int) (r1 : Int) (r2 : Int) (r3 : Int) (r4 : List Int) (r5 : List Int) (r6 : List Int) (r7 : Int) (r8 : Int) (w0 w : World) (hI : IsS75 w0 w g s0_0 s0_1 s0_2) (hB : Below w0.heap.size w0 w) (h : spec_l1Cur_model.f k s0_0 s0_1 s0_2 = some (r1, r2, r3, r4, r5, r6, r7, r8)) :
  Calls Tryz.prog 50 #[.pointer (some ⟨g, 0, none⟩)] w fun e w' => ∃ v3_ v4_ v5_ : Value, e = .returned (.agg #[.int .i64 r1, .int .i64 r2, .int .i64 r3, v3_, v4_, v5_]) ∧ Kd.R (Kd.int .i64) 3 w' w.heap.size (fun k_ => some k_ ≠ (v4_ : Value).ownBlock ∧ some k_ ≠ (v5_ : Value).ownBlock) v3_ r4 ∧ Kd.R (Kd.int .i64) 3 w' w.heap.size (fun k_ => some k_ ≠ (v3_ : Value).ownBlock ∧ some k_ ≠ (v5_ : Value).ownBlock) v4_ r5 ∧ Kd.R (Kd.int .i64) 3 w' w.heap.size (fun k_ => some k_ ≠ (v3_ : Value).ownBlock ∧ some k_ ≠ (v4_ : Value).ownBlock) v5_ r6 ∧ IsS75 w0 w' g s0_0 r7 r8 ∧ Below w0.heap.size w0 w' ∧ KeepBut w w' g none := by
 have hu28 := Tryz.underlying28
 have hu25 := Tryz.underlying25
 have HI0 := am_ hI
 have HK := am_ (KeepBut.refl w g none)
 have HL := am_ hB.size
 clear hI
 have HW0 := am_ hB.size
 have HB := am_ hB
 clear hB
 have H := h
 unfold spec_l1Cur_model.f at H
 clear h
 revert H; refine bn_ ?_; rintro ⟨t137, t138, t139, t140, t141⟩ A2 H; try dsimp only at H
 revert H; refine bn_ ?_; rintro t143 A3 H; try dsimp only at H
 have H' := am_ H
 clear H
 go_enter Tryz.func50, Tryz.ntmps50
 go_wp2_with (first | ((with_reducible refine gate_dst (N := 2) rfl ?_); refine bv_ 2 (cs := #[.int .i64 0, .int .i64 0, .int .i64 0, .slice none 0 0, .slice none 0 0, .slice none 0 0]) (t := 28) ?_; intro gb136 hg w4 hbox hb; have BK136 := am_ (hbox); have GW136 := am_ ((by rw [hg]; exact (keep_size (hk_ HK)) : w.heap.size ≤ gb136)); have GE136 := am_ ((Nat.le_trans HW0.out (by rw [hg]; exact (keep_size (hk_ HK)) : w.heap.size ≤ gb136) : w0.heap.size ≤ gb136)); have NB0_136 := am_ ((by rw [hg]; exact Nat.ne_of_lt (IsS75.lt (show IsS75 w0 _ g s0_0 s0_1 s0_2 from IsS75.q HI0)) : g ≠ gb136)); have NB136_0 := am_ ((by rw [hg]; exact Nat.ne_of_gt (IsS75.lt (show IsS75 w0 _ g s0_0 s0_1 s0_2 from IsS75.q HI0)) : gb136 ≠ g)); replace HK := hkb_ HK hb; replace HB := am_ (below_step (hbI_ HB (IsS75.ge HI0.out)) hb); replace HI0 := IsS75.b HI0 hb; clear hb hbox hg) | ((with_reducible refine gk_ 73 ?_); refine gq_ 6 Tryz.func73 #[.pointer (some ⟨g, 0, none⟩)] ?_; (with_reducible refine (spec_l1Cur_grid.calls g s0_0 s0_1 s0_2 t137 t138 t139 t140 t141 w0 _ ?_ ?_ A2.out).mono ?_); exact IsS75.q HI0; exact hbI_ HB (IsS75.ge HI0.out); rintro e w5 ⟨rfl, hi, hb, hk⟩; refine ⟨_, rfl, ?_⟩; replace BK136 := kk_ BK136 hk NB136_0; replace HK := kt_ HK hk; replace HB := am_ (hb); replace HI0 := am_ (hi)) | ((with_reducible refine gate_dst (N := 3) rfl ?_); refine bv_ 3 (cs := #[.int .i64 0, .int .i64 0, .int .i64 0, .slice none 0 0, .slice none 0 0, .slice none 0 0]) (t := 28) ?_; intro gb142 hg w6 hbox hb; have BK142 := am_ (hbox); have GW142 := am_ ((by rw [hg]; exact (keep_size (hk_ HK)) : w.heap.size ≤ gb142)); have GE142 := am_ ((Nat.le_trans HW0.out (by rw [hg]; exact (keep_size (hk_ HK)) : w.heap.size ≤ gb142) : w0.heap.size ≤ gb142)); have NB136_142 := nl_ hg BK136; have NB142_136 := ng_ hg BK136; have NB0_142 := am_ ((by rw [hg]; exact Nat.ne_of_lt (IsS75.lt (show IsS75 w0 _ g s0_0 t140 t141 from IsS75.q HI0)) : g ≠ gb142)); have NB142_0 := am_ ((by rw [hg]; exact Nat.ne_of_gt (IsS75.lt (show IsS75 w0 _ g s0_0 t140 t141 from IsS75.q HI0)) : gb142 ≠ g)); replace BK136 := kb_ BK136 hb; replace HK := hkb_ HK hb; replace HB := am_ (below_step (hbI_ HB (IsS75.ge HI0.out)) hb); replace HI0 := IsS75.b HI0 hb; clear hb hbox hg; have := NB142_136.out; have := NB136_142.out; have := NB142_0.out; have := NB0_142.out; obtain ⟨hcz9_0, hcz9_1, hcz9_2, hcz9_3, hcz9_4, hcz9_5, hfz9_0, hfz9_1, hfz9_2, hfz9_3, hfz9_4, hfz9_5⟩ := bx6 BK142) | ((with_reducible refine gk_ 59 ?_); refine gq_ 10 Tryz.func59 #[.agg #[.int .i64 t137, .int .i64 t138, .int .i64 t139]] ?_; (with_reducible refine (spec_grCount.calls t137 t138 t139 t143 _ A3.out).mono ?_); rintro e w10 ⟨rfl, hb⟩; refine ⟨_, rfl, ?_⟩; replace BK136 := kfb_ BK136 NB136_142 hb; replace BK142 := am_ (blk_below (g := gb142) (o := .cells #[.int .i64 t137, .int .i64 t138, .int .i64 t139, .slice none 0 0, .slice none 0 0, .slice none 0 0] 28 (0, 0)) (kpq_ (kputs BK142 [(0, _), (1, _), (2, _), (3, _), (4, _), (5, _)])) hb); replace HK := hkb_ HK hb; replace HB := am_ (below_step (hbI_ HB (IsS75.ge HI0.out)) hb); replace HI0 := am_ (IsS75.below (show IsS75 w0 ((((((w6.setCell ⟨gb142, 0, none⟩ (.int .i64 t137)).setCell ⟨gb142, 1, none⟩ (.int .i64 t138)).setCell ⟨gb142, 2, none⟩ (.int .i64 t139)).setCell ⟨gb142, 3, none⟩ (.slice none 0 0)).setCell ⟨gb142, 4, none⟩ (.slice none 0 0)).setCell ⟨gb142, 5, none⟩ (.slice none 0 0)) g s0_0 t140 t141 from IsS75.q HI0) hb)))
 go_loopg [4] k (fun kq v4 w' => ∃ (x4_1 : Int) (x1001_1 : Int) (x1002_1 : Int) (x143003_1 : List Int) (x143004_1 : List Int) (x143005_1 : List Int) (u143003 : Value) (u143004 : Value) (u143005 : Value), v4 = .int .i64 x4_1 ∧ Aside0 (spec_l1Cur_model.l0 kq x4_1 s0_0 x1001_1 x1002_1 t137 t138 t139 x143003_1 x143004_1 x143005_1 = some (r1, r2, r3, r4, r5, r6, r7, r8)) ∧ Aside0 (kq ≤ k) ∧ Aside0 (Kd.R (Kd.int .i64) 3 w' w.heap.size (fun k_ => some k_ ≠ (u143004 : Value).ownBlock ∧ some k_ ≠ (u143005 : Value).ownBlock) u143003 x143003_1) ∧ Aside0 (Kd.R (Kd.int .i64) 3 w' w.heap.size (fun k_ => some k_ ≠ (u143003 : Value).ownBlock ∧ some k_ ≠ (u143005 : Value).ownBlock) u143004 x143004_1) ∧ Aside0 (Kd.R (Kd.int .i64) 3 w' w.heap.size (fun k_ => some k_ ≠ (u143003 : Value).ownBlock ∧ some k_ ≠ (u143004 : Value).ownBlock) u143005 x143005_1) ∧ Aside0 (w'.heap[gb136]? = some (.cells #[.int .i64 0, .int .i64 0, .int .i64 0, (.slice none 0 0), (.slice none 0 0), (.slice none 0 0)] 28 (0, 0))) ∧ Aside0 (w'.heap[gb142]? = some (.cells #[.int .i64 t137, .int .i64 t138, .int .i64 t139, u143003, u143004, u143005] 28 (0, 0))) ∧ Aside0 (IsS75 w0 w' g s0_0 x1001_1 x1002_1) ∧ Aside0 (KeepBut w w' g none) ∧ Aside0 (Below w0.heap.size w0 w'))
 case atStart => exact ⟨(t143), (t140), (t141), (([] : List Int)), (([] : List Int)), (([] : List Int)), (.slice none 0 0), (.slice none 0 0), (.slice none 0 0), sr_, H', ⟨Nat.le_refl _⟩, ⟨by first | exact Kd.R_nil _ _ _ _ _ | exact Kd.N_nil _ _ _ _ _ | exact Kd.V_nil _ _ _ _ _ | exact Kd.Q_nil _ _ _ _ _ | exact Kd.S_nil _ _ _ _ _⟩, ⟨by first | exact Kd.R_nil _ _ _ _ _ | exact Kd.N_nil _ _ _ _ _ | exact Kd.V_nil _ _ _ _ _ | exact Kd.Q_nil _ _ _ _ _ | exact Kd.S_nil _ _ _ _ _⟩, ⟨by first | exact Kd.R_nil _ _ _ _ _ | exact Kd.N_nil _ _ _ _ _ | exact Kd.V_nil _ _ _ _ _ | exact Kd.Q_nil _ _ _ _ _ | exact Kd.S_nil _ _ _ _ _⟩, ⟨kp_ BK136⟩, ⟨kp_ BK142⟩, ⟨IsS75.q HI0⟩, ⟨hk_ HK⟩, ⟨hbI_ HB (IsS75.ge HI0.out)⟩⟩
 clear H'
 obtain ⟨x4_1, x1001_1, x1002_1, x143003_1, x143004_1, x143005_1, u143003, u143004, u143005, rfl, HA, HK1, HO_143003, HO_143004, HO_143005, BK136, BK142, HI0, HK, HB⟩ := hrel
 cases gk with
 | zero => exact absurd HA.out (by simp [spec_l1Cur_model.l0])
 | succ k1 => ?_
 have H := HA.out
 clear HA
 simp only [spec_l1Cur_model.l0] at H
 by_cases c11 : x4_1 > 0
 ·rw [if_pos c11] at H
  have c11b0 : decide (0 < x4_1) = true := decide_eq_true c11
  clear c11
  revert H; refine bn_ ?_; rintro ⟨t144, t145, t146⟩ A12 H; try dsimp only at H
  obtain ⟨y147, hy147⟩ : ∃ y_ : List Int, y_ = (([0, 100, 100, 200, 500, 1000, t144] : List Int)) := ⟨_, rfl⟩
  (try with_reducible replace H := (Option.bind_some _ _).symm.trans H); (try dsimp only at H); (try rw [← hy147] at H)
  have Ny147 := am_ hy147
  clear hy147
  revert H; refine bn_ ?_; rintro ⟨t150, t151, t152⟩ A13 H; try dsimp only at H
  revert H; refine pf_ fun c14 H => ?_
  have LMc14 := am_ c14
  clear c14
  obtain ⟨y153, hy153⟩ : ∃ y_ : List Int, y_ = (x143003_1 ++ [t150]) := ⟨_, rfl⟩
  (try with_reducible replace H := (Option.bind_some _ _).symm.trans H); (try dsimp only at H); (try rw [← hy153] at H)
  have Ny153 := am_ hy153
  clear hy153
  revert H; refine bn_ ?_; rintro ⟨t156, t157, t158⟩ A15 H; try dsimp only at H
  obtain ⟨y159, hy159⟩ : ∃ y_ : List Int, y_ = (([0, 0, 5, 10, 20, 50, t156] : List Int)) := ⟨_, rfl⟩
  (try with_reducible replace H := (Option.bind_some _ _).symm.trans H); (try dsimp only at H); (try rw [← hy159] at H)
  have Ny159 := am_ hy159
  clear hy159
  revert H; refine bn_ ?_; rintro ⟨t162, t163, t164⟩ A16 H; try dsimp only at H
  revert H; refine pf_ fun c17 H => ?_
  have LMc17 := am_ c17
  clear c17
  obtain ⟨y165, hy165⟩ : ∃ y_ : List Int, y_ = (x143004_1 ++ [t162]) := ⟨_, rfl⟩
  (try with_reducible replace H := (Option.bind_some _ _).symm.trans H); (try dsimp only at H); (try rw [← hy165] at H)
  have Ny165 := am_ hy165
  clear hy165
  revert H; refine bn_ ?_; rintro ⟨t168, t169, t170⟩ A18 H; try dsimp only at H
  revert H; refine pf_ fun c19 H => ?_
  have LMc19 := am_ c19
  clear c19
  obtain ⟨y171, hy171⟩ : ∃ y_ : List Int, y_ = (x143005_1 ++ [t168]) := ⟨_, rfl⟩
  (try with_reducible replace H := (Option.bind_some _ _).symm.trans H); (try dsimp only at H); (try rw [← hy171] at H)
  have Ny171 := am_ hy171
  clear hy171
  have H' := am_ H
  clear H
  try go_wp2
  replace HO_143003 := am_ (Kd.R_drew HO_143003.out)
  replace HO_143004 := am_ (Kd.R_drew HO_143004.out)
  replace HO_143005 := am_ (Kd.R_drew HO_143005.out)
  replace BK136 := am_ (blk_drew BK136.out)
  replace BK142 := am_ (blk_drew BK142.out)
  replace HI0 := am_ (IsS75.drew HI0.out)
  replace HK := am_ (keep_drew HK.out)
  replace HB := am_ (below_drew1 HB.out)
  refine start_ (n := 11) (S := fun w' => w'.cell? ⟨gb142, 0, none⟩ = some (.int .i64 t137) ∧ w'.cell? ⟨gb142, 1, none⟩ = some (.int .i64 t138) ∧ w'.cell? ⟨gb142, 2, none⟩ = some (.int .i64 t139) ∧ w'.cell? ⟨gb142, 3, none⟩ = some (u143003) ∧ w'.cell? ⟨gb142, 4, none⟩ = some (u143004) ∧ w'.cell? ⟨gb142, 5, none⟩ = some (u143005)) (ds := [10]) (bb 11 0) (by kernel_rfl) rfl rfl ⟨(blk_cell BK142.out 0).trans rfl, (blk_cell BK142.out 1).trans rfl, (blk_cell BK142.out 2).trans rfl, (blk_cell BK142.out 3).trans rfl, (blk_cell BK142.out 4).trans rfl, (blk_cell BK142.out 5).trans rfl⟩ (fun hHeld => ?_); refine with_tabW spec_l1Cur_model.tab5 spec_l1Cur_model.bits5 (fun HT_ HW_ => ?_)
  generalize wr.drew = w20 at HO_143003 HO_143004 HO_143005 BK136 BK142 HI0 HK HB hHeld ⊢
  refine pm_ HT_ 0 15 11 1 ?_
  refine pm_ HT_ 2 17 11 5 ?_
  refine pm_ HT_ 3 18 11 13 ?_
  refine tk_ HT_ HW_ hHeld 1 (some 16) (bb 11 15) (h := ?_)
  refine one_ (i := 4) (N := some 19) (bb 11 31) rfl rfl (one_of HT_.out (by kernel_rfl)) (by decide) (fun K hK => ?_)
  refine goes_ Tryz.func75 (by kernel_rfl) rfl #[.pointer (some ⟨g, 0, none⟩), .int .i64 10001] (by rfl) rfl rfl (by (try simp only [List.map_toArray, List.map_cons, List.map_nil]); first | done | rfl | (simp only [List.length_drop, List.length_take]; rfl)) ?_
  with_reducible refine (spec_l1Cur_pick.calls g s0_0 x1001_1 x1002_1 10001 t144 t145 t146 w0 _ ?side1 ?side2 A12.out).mono ?_
  (case side1 => exact IsS75.q HI0)
  (case side2 => exact hbI_ HB (IsS75.ge HI0.out))
  rintro e w21 ⟨rfl, hi, hb, hk⟩
  refine ⟨_, rfl, ?_⟩
  have n0_ := IsS75.rk HI0 HO_143003 hk
  have n1_ := IsS75.rk HI0 HO_143004 hk
  have n2_ := IsS75.rk HI0 HO_143005 hk
  have n3_ := am_ (KeepBut.blk hk (kp_ BK136) NB136_0.out (by simp))
  have n4_ := am_ (KeepBut.blk hk (kp_ BK142) NB142_0.out (by simp))
  have n5_ := kt_ HK hk
  have n6_ := am_ (hb)
  have n7_ := am_ (hi)
  clear HO_143003
  clear HO_143004
  clear HO_143005
  clear BK136
  clear BK142
  clear HK
  clear HB
  clear HI0
  have HO_143003 := n0_
  have HO_143004 := n1_
  have HO_143005 := n2_
  have BK136 := n3_
  have BK142 := n4_
  have HK := n5_
  have HB := n6_
  have HI0 := n7_
  clear n0_ n1_ n2_ n3_ n4_ n5_ n6_ n7_
  refine hK.out _ _ ⟨(blk_cell BK142.out 0).trans rfl, (blk_cell BK142.out 1).trans rfl, (blk_cell BK142.out 2).trans rfl, (blk_cell BK142.out 3).trans rfl, (blk_cell BK142.out 4).trans rfl, (blk_cell BK142.out 5).trans rfl⟩ (fun hHeld => ?_)
  clear hK K
  refine nm_ (some 19) (h := ?_)
  refine one_ (i := 5) (N := some 20) (bb 11 63) rfl rfl (one_of HT_.out (by kernel_rfl)) (by decide) (fun K hK => ?_)
  refine Kd.R_lit_step (Kd.int .i64) _ 3 ?hg (N := 20) ?hd (xs := ([0, 100, 100, 200, 500, 1000, t144] : List Int)) (inner := [.int .i64 0, .int .i64 100, .int .i64 100, .int .i64 200, .int .i64 500, .int .i64 1000, .int .i64 t144]) (ok := fun _ => True) (okp := fun _ => True) ?hr ?hp (fun _ hk => hk) trivial (Below.refl _ _) (Nat.le_refl _) (by simp) ?_; (case hd => rfl); (case hg => rfl); (case hr => first | (go_simp; done) | (go_simp; rfl)); (case hp => exact (Reps.one (show Kd.M (Kd.int .i64) _ _ _ 0 [.int .i64 0] from rfl) (Reps.one (show Kd.M (Kd.int .i64) _ _ _ 100 [.int .i64 100] from rfl) (Reps.one (show Kd.M (Kd.int .i64) _ _ _ 100 [.int .i64 100] from rfl) (Reps.one (show Kd.M (Kd.int .i64) _ _ _ 200 [.int .i64 200] from rfl) (Reps.one (show Kd.M (Kd.int .i64) _ _ _ 500 [.int .i64 500] from rfl) (Reps.one (show Kd.M (Kd.int .i64) _ _ _ 1000 [.int .i64 1000] from rfl) (Reps.one (show Kd.M (Kd.int .i64) _ _ _ t144 [.int .i64 t144] from rfl) (Reps.none _ _)))))))))
  intro v148 w22 ho23 hb hg_ hnew_
  clear hg_ hnew_
  (first | rw [← Ny147.out] at ho23 | (simp only [Int.reduceToNat] at ho23; rw [← Ny147.out] at ho23))
  have n0_ := am_ (Kd.R_elder' (Kd.R_p HO_143003) (Kd.R_base ho23) hb)
  have n1_ := am_ (Kd.R_elder' (Kd.R_p HO_143004) (Kd.R_base ho23) hb)
  have n2_ := am_ (Kd.R_elder' (Kd.R_p HO_143005) (Kd.R_base ho23) hb)
  have n3_ := am_ (Kd.R_lower (Kd.R_nw (Kd.R_nw (Kd.R_nw ho23 HO_143003) HO_143004) HO_143005) (keep_size (hk_ HK)))
  have n4_ := am_ (blk_below (kp_ BK136) hb)
  have n5_ := am_ (blk_below (kp_ BK142) hb)
  have n6_ := am_ (IsS75.below (IsS75.q HI0) hb)
  have n7_ := am_ (KeepBut.trans (hk_ HK) (KeepBut.of_below hb g none) (.inl rfl))
  have n8_ := am_ (below_step (hbI_ HB (IsS75.ge HI0.out)) hb)
  clear HO_143003
  clear HO_143004
  clear HO_143005
  clear BK136
  clear BK142
  clear HI0
  clear HK
  clear HB
  have HO_143003 := n0_
  have HO_143004 := n1_
  have HO_143005 := n2_
  have HO149 := n3_
  have BK136 := n4_
  have BK142 := n5_
  have HI0 := n6_
  have HK := n7_
  have HB := n8_
  clear n0_ n1_ n2_ n3_ n4_ n5_ n6_ n7_ n8_
  clear hb ho23
  obtain ⟨Ao24, co24, eo24⟩ := Kd.R_slice HO149.out
  (first | subst eo24 | (injection eo24 with f1_ f2_ f3_; have f4_ := f1_.symm; have f5_ := f3_.symm; clear f1_ f2_ f3_; subst f4_; subst f5_))
  refine hK.out _ _ ⟨(blk_cell BK142.out 0).trans rfl, (blk_cell BK142.out 1).trans rfl, (blk_cell BK142.out 2).trans rfl, (blk_cell BK142.out 3).trans rfl, (blk_cell BK142.out 4).trans rfl, (blk_cell BK142.out 5).trans rfl⟩ (fun hHeld => ?_)
  clear hK K
  refine nm_ (some 20) (h := ?_)
  refine one_ (i := 6) (N := some 21) (bb 11 127) rfl rfl (one_of HT_.out (by kernel_rfl)) (by decide) (fun K hK => ?_)
  refine goes_ Tryz.func74 (by kernel_rfl) rfl #[.pointer (some ⟨g, 0, none⟩), .slice Ao24 y147.length co24] (by rfl) rfl rfl (by (try simp only [List.map_toArray, List.map_cons, List.map_nil]); first | done | rfl | (simp only [List.length_drop, List.length_take]; rfl)) ?_
  with_reducible refine (spec_l1Cur_among.calls g s0_0 t145 t146 _ _ y147 t150 t151 t152 w0 _ ?side1 ?side2 ?side3 ?side4 ?side5 A13.out).mono ?_
  (case side1 => exact IsS75.q HI0)
  (case side2 => exact hbI_ HB (IsS75.ge HI0.out))
  (case side3 => exact Kd.C_o HO149)
  (case side4 => exact (Kd.R_reads' HO149.out).2.1)
  (case side5 => exact far_slice (IsS75.own_ne HI0.out HO149.out (by decide)))
  rintro e w25 ⟨rfl, hi, hb, hk⟩
  refine ⟨_, rfl, ?_⟩
  have n0_ := IsS75.rk HI0 HO_143003 hk
  have n1_ := IsS75.rk HI0 HO_143004 hk
  have n2_ := IsS75.rk HI0 HO_143005 hk
  have n3_ := am_ (KeepBut.blk hk (kp_ BK136) NB136_0.out (by simp))
  have n4_ := am_ (KeepBut.blk hk (kp_ BK142) NB142_0.out (by simp))
  have n5_ := IsS75.rk HI0 HO149 hk
  have n6_ := kt_ HK hk
  have n7_ := am_ (hb)
  have n8_ := am_ (hi)
  clear HO_143003
  clear HO_143004
  clear HO_143005
  clear BK136
  clear BK142
  clear HO149
  clear HK
  clear HB
  clear HI0
  have HO_143003 := n0_
  have HO_143004 := n1_
  have HO_143005 := n2_
  have BK136 := n3_
  have BK142 := n4_
  have HO149 := n5_
  have HK := n6_
  have HB := n7_
  have HI0 := n8_
  clear n0_ n1_ n2_ n3_ n4_ n5_ n6_ n7_ n8_
  refine hK.out _ _ ⟨(blk_cell BK142.out 0).trans rfl, (blk_cell BK142.out 1).trans rfl, (blk_cell BK142.out 2).trans rfl, (blk_cell BK142.out 3).trans rfl, (blk_cell BK142.out 4).trans rfl, (blk_cell BK142.out 5).trans rfl⟩ (fun hHeld => ?_)
  clear hK K
  refine nm_ (some 21) (h := ?_)
  refine one_ (i := 7) (N := some 22) (bb 11 255) rfl rfl (one_of HT_.out (by kernel_rfl)) (by decide) (fun K hK => ?_)
  refine value_ (w1 := ?_) (v := ?_) (by rfl) rfl ?_ ?_
  rotate_left 2
  ·go_simp
   constructor
   ·rfl
   rfl
  refine hK.out _ _ ⟨(blk_cell (blk_alloc BK142.out _) 0).trans rfl, (blk_cell (blk_alloc BK142.out _) 1).trans rfl, (blk_cell (blk_alloc BK142.out _) 2).trans rfl, (blk_cell (blk_alloc BK142.out _) 3).trans rfl, (blk_cell (blk_alloc BK142.out _) 4).trans rfl, (blk_cell (blk_alloc BK142.out _) 5).trans rfl⟩ (fun hHeld => ?_)
  clear hK K
  refine nm_ (some 22) (h := ?_)
  refine one_ (i := 8) (N := some 23) (bb 11 511) rfl rfl (one_of HT_.out (by kernel_rfl)) (by decide) (fun K hK => ?_)
  refine Kd.R_append_step (Kd.int .i64) w.heap.size (by rfl) (.tmp 16) (.tmp 22) 26 3 (.int .i64 0) 8 rfl Tryz.underlying26 info3 rfl (by decide) (by omega) u143003 x143003_1 t150 [.int .i64 t150] (fun k_ => some k_ ≠ (u143004 : Value).ownBlock ∧ some k_ ≠ (u143005 : Value).ownBlock ∧ some k_ ≠ (.slice Ao24 y147.length co24 : Value).ownBlock) (fun _ => False) rfl rfl ?aP (fun _ hk => hk.elim) ?aF ?aO (Below.refl _ _) ?aS ?aL ?_
  (case aP => exact rfl)
  (case aF => exact (fun k_ hk => ⟨Kd.fresh' (Kd.R_lt (Kd.R_p HO_143004)) k_ hk, Kd.fresh' (Kd.R_lt (Kd.R_p HO_143005)) k_ hk, Kd.fresh' (Kd.R_lt (Kd.R_p HO149)) k_ hk⟩))
  (case aO => exact (rm_ (h := HO_143003.out)))
  (case aS => exact (keep_size (hk_ HK)))
  (case aL => have := LMc14.out; omega)
  intro v154 w26 ho hb hg hat
  rw [← Ny153.out] at ho
  have n0_ := am_ (Kd.R_after (ok := (fun k_ => some k_ ≠ (u143005 : Value).ownBlock ∧ some k_ ≠ (.slice Ao24 y147.length co24 : Value).ownBlock)) (rm_ (h := HO_143004.out)) hg hat)
  have n1_ := am_ (Kd.R_after (ok := (fun k_ => some k_ ≠ (u143004 : Value).ownBlock ∧ some k_ ≠ (.slice Ao24 y147.length co24 : Value).ownBlock)) (rm_ (h := HO_143005.out)) hg hat)
  have n2_ := am_ (blk_grown (kp_ BK136) hg (Kd.R_ne HO_143003.out BK136.out (by decide)))
  have n3_ := am_ (blk_grown (kp_ BK142) hg (Kd.R_ne HO_143003.out BK142.out (by decide)))
  have n4_ := am_ (IsS75.grown (IsS75.q HI0) hg (IsS75.own_ne HI0.out HO_143003.out (by decide)))
  have n5_ := am_ (Kd.R_after (ok := (fun k_ => some k_ ≠ (u143004 : Value).ownBlock ∧ some k_ ≠ (u143005 : Value).ownBlock)) (rm_ (h := HO149.out)) hg hat)
  have n6_ := am_ (below_weaken (hbI_ HB (IsS75.ge HI0.out)) HL.out hb)
  have n7_ := am_ (KeepBut.trans (hk_ HK) (KeepBut.of_grown hg g) (Kd.R_base2 HO_143003.out))
  have n8_ := am_ (ho)
  clear HO_143004
  clear HO_143005
  clear BK136
  clear BK142
  clear HI0
  clear HO149
  clear HB
  clear HK
  clear HO_143003
  have HO_143004 := n0_
  have HO_143005 := n1_
  have BK136 := n2_
  have BK142 := n3_
  have HI0 := n4_
  have HO149 := n5_
  have HB := n6_
  have HK := n7_
  have HO155 := n8_
  clear n0_ n1_ n2_ n3_ n4_ n5_ n6_ n7_ n8_
  clear ho hb hg hat
  obtain ⟨Ao27, co27, eo27⟩ := Kd.R_slice HO155.out
  (first | subst eo27 | (injection eo27 with f1_ f2_ f3_; have f4_ := f1_.symm; have f5_ := f3_.symm; clear f1_ f2_ f3_; subst f4_; subst f5_))
  refine hK.out _ _ ⟨(blk_cell BK142.out 0).trans rfl, (blk_cell BK142.out 1).trans rfl, (blk_cell BK142.out 2).trans rfl, (blk_cell BK142.out 3).trans rfl, (blk_cell BK142.out 4).trans rfl, (blk_cell BK142.out 5).trans rfl⟩ (fun hHeld => ?_)
  clear hK K
  refine nm_ (some 23) (h := ?_)
  refine pm_ HT_ 9 24 11 1023 ?_
  refine last_ (i := 10) (N := none) (bb 11 2047) rfl rfl (one_of HT_.out (by kernel_rfl)) (by decide) (fun K hK => ?_)
  have hs28 : w26.cell? ⟨gb142, 3, none⟩ = some (u143003) := (blk_cell BK142.out 3).trans rfl
  have hfs28 := blk_frozen BK142.out 3
  have hns28_0 := NB136_142.out
  have hms28_0 := NB142_136.out
  refine skip_ (w1 := ?_) (by rfl) rfl ?_ ?_
  rotate_left
  ·go_simp
   rfl
  refine hK.out _ _ ?_
  clear hK K
  refine done_ (done_of HT_.out (by kernel_rfl)) ?_
  try go_wp2
  have n0_ : Aside0 (Kd.R (Kd.int .i64) 3 (w26.setCell ⟨gb142, 3, none⟩ (.slice Ao27 y153.length co27)) w.heap.size (fun k_ => some k_ ≠ (u143005 : Value).ownBlock ∧ some k_ ≠ (.slice Ao27 y153.length co27 : Value).ownBlock) u143004 x143004_1) := ⟨Kd.R_mono (Kd.R_s HO_143004 BK142) (fun _ hk => ⟨hk.1.1, hk.2⟩)⟩
  have n1_ : Aside0 (Kd.R (Kd.int .i64) 3 (w26.setCell ⟨gb142, 3, none⟩ (.slice Ao27 y153.length co27)) w.heap.size (fun k_ => some k_ ≠ (u143004 : Value).ownBlock ∧ some k_ ≠ (.slice Ao27 y153.length co27 : Value).ownBlock) u143005 x143005_1) := ⟨Kd.R_mono (Kd.R_s HO_143005 BK142) (fun _ hk => ⟨hk.1.1, hk.2⟩)⟩
  have n2_ : Aside0 (Kd.R (Kd.int .i64) 3 (w26.setCell ⟨gb142, 3, none⟩ (.slice Ao27 y153.length co27)) w.heap.size (fun k_ => some k_ ≠ (u143004 : Value).ownBlock ∧ some k_ ≠ (u143005 : Value).ownBlock) (.slice Ao27 y153.length co27) y153) := ⟨Kd.R_mono (Kd.R_s HO155 BK142) (fun _ hk => ⟨hk.1, hk.2.1⟩)⟩
  have n3_ : Aside0 ((w26.setCell ⟨gb142, 3, none⟩ (.slice Ao27 y153.length co27)).heap[gb136]? = some (.cells #[.int .i64 0, .int .i64 0, .int .i64 0, .slice none 0 0, .slice none 0 0, .slice none 0 0] 28 (0, 0))) := ⟨kf_ BK136 NB136_142⟩
  have n4_ : Aside0 ((w26.setCell ⟨gb142, 3, none⟩ (.slice Ao27 y153.length co27)).heap[gb142]? = some (.cells #[.int .i64 t137, .int .i64 t138, .int .i64 t139, .slice Ao27 y153.length co27, u143004, u143005] 28 (0, 0))) := ⟨kpq_ (kputs BK142 [(3, _)])⟩
  have n5_ : Aside0 (IsS75 w0 (w26.setCell ⟨gb142, 3, none⟩ (.slice Ao27 y153.length co27)) g s0_0 t151 t152) := ⟨IsS75.q HI0⟩
  have n6_ : Aside0 (KeepBut w (w26.setCell ⟨gb142, 3, none⟩ (.slice Ao27 y153.length co27)) g none) := ⟨hk_ HK⟩
  have n7_ : Aside0 (Below w0.heap.size w0 (w26.setCell ⟨gb142, 3, none⟩ (.slice Ao27 y153.length co27))) := ⟨hbI_ HB (IsS75.ge HI0.out)⟩
  generalize (w26.setCell ⟨gb142, 3, none⟩ (.slice Ao27 y153.length co27)) = w29 at n0_ n1_ n2_ n3_ n4_ n5_ n6_ n7_ ⊢
  have HO_143004 := n0_
  have HO_143005 := n1_
  have HO155 := n2_
  have BK136 := n3_
  have BK142 := n4_
  have HI0 := n5_
  have HK := n6_
  have HB := n7_
  clear n0_ n1_ n2_ n3_ n4_ n5_ n6_ n7_
  replace HO_143004 := am_ (Kd.R_drew HO_143004.out)
  replace HO_143005 := am_ (Kd.R_drew HO_143005.out)
  replace HO155 := am_ (Kd.R_drew HO155.out)
  replace BK136 := am_ (blk_drew BK136.out)
  replace BK142 := am_ (blk_drew BK142.out)
  replace HI0 := am_ (IsS75.drew HI0.out)
  replace HK := am_ (keep_drew HK.out)
  replace HB := am_ (below_drew1 HB.out)
  refine start_ (n := 11) (S := fun w' => w'.cell? ⟨gb142, 0, none⟩ = some (.int .i64 t137) ∧ w'.cell? ⟨gb142, 1, none⟩ = some (.int .i64 t138) ∧ w'.cell? ⟨gb142, 2, none⟩ = some (.int .i64 t139) ∧ w'.cell? ⟨gb142, 3, none⟩ = some (.slice Ao27 y153.length co27) ∧ w'.cell? ⟨gb142, 4, none⟩ = some (u143004) ∧ w'.cell? ⟨gb142, 5, none⟩ = some (u143005)) (ds := [10]) (bb 11 0) (by kernel_rfl) rfl rfl ⟨(blk_cell BK142.out 0).trans rfl, (blk_cell BK142.out 1).trans rfl, (blk_cell BK142.out 2).trans rfl, (blk_cell BK142.out 3).trans rfl, (blk_cell BK142.out 4).trans rfl, (blk_cell BK142.out 5).trans rfl⟩ (fun hHeld => ?_); refine with_tabW spec_l1Cur_model.tab6 spec_l1Cur_model.bits6 (fun HT_ HW_ => ?_)
  generalize w29.drew = w30 at HO_143004 HO_143005 HO155 BK136 BK142 HI0 HK HB hHeld ⊢
  refine pm_ HT_ 0 25 11 1 ?_
  refine pm_ HT_ 2 27 11 5 ?_
  refine pm_ HT_ 3 28 11 13 ?_
  refine tk_ HT_ HW_ hHeld 1 (some 26) (bb 11 15) (h := ?_)
  refine one_ (i := 4) (N := some 29) (bb 11 31) rfl rfl (one_of HT_.out (by kernel_rfl)) (by decide) (fun K hK => ?_)
  refine goes_ Tryz.func75 (by kernel_rfl) rfl #[.pointer (some ⟨g, 0, none⟩), .int .i64 1001] (by rfl) rfl rfl (by (try simp only [List.map_toArray, List.map_cons, List.map_nil]); first | done | rfl | (simp only [List.length_drop, List.length_take]; rfl)) ?_
  with_reducible refine (spec_l1Cur_pick.calls g s0_0 t151 t152 1001 t156 t157 t158 w0 _ ?side1 ?side2 A15.out).mono ?_
  (case side1 => exact IsS75.q HI0)
  (case side2 => exact hbI_ HB (IsS75.ge HI0.out))
  rintro e w31 ⟨rfl, hi, hb, hk⟩
  refine ⟨_, rfl, ?_⟩
  have n0_ := IsS75.rk HI0 HO_143004 hk
  have n1_ := IsS75.rk HI0 HO_143005 hk
  have n2_ := am_ (KeepBut.blk hk (kp_ BK136) NB136_0.out (by simp))
  have n3_ := am_ (KeepBut.blk hk (kp_ BK142) NB142_0.out (by simp))
  have n4_ := IsS75.rk HI0 HO155 hk
  have n5_ := kt_ HK hk
  have n6_ := am_ (hb)
  have n7_ := am_ (hi)
  clear HO_143004
  clear HO_143005
  clear BK136
  clear BK142
  clear HO155
  clear HK
  clear HB
  clear HI0
  have HO_143004 := n0_
  have HO_143005 := n1_
  have BK136 := n2_
  have BK142 := n3_
  have HO155 := n4_
  have HK := n5_
  have HB := n6_
  have HI0 := n7_
  clear n0_ n1_ n2_ n3_ n4_ n5_ n6_ n7_
  refine hK.out _ _ ⟨(blk_cell BK142.out 0).trans rfl, (blk_cell BK142.out 1).trans rfl, (blk_cell BK142.out 2).trans rfl, (blk_cell BK142.out 3).trans rfl, (blk_cell BK142.out 4).trans rfl, (blk_cell BK142.out 5).trans rfl⟩ (fun hHeld => ?_)
  clear hK K
  refine nm_ (some 29) (h := ?_)
  refine one_ (i := 5) (N := some 30) (bb 11 63) rfl rfl (one_of HT_.out (by kernel_rfl)) (by decide) (fun K hK => ?_)
  refine Kd.R_lit_step (Kd.int .i64) _ 3 ?hg (N := 30) ?hd (xs := ([0, 0, 5, 10, 20, 50, t156] : List Int)) (inner := [.int .i64 0, .int .i64 0, .int .i64 5, .int .i64 10, .int .i64 20, .int .i64 50, .int .i64 t156]) (ok := fun _ => True) (okp := fun _ => True) ?hr ?hp (fun _ hk => hk) trivial (Below.refl _ _) (Nat.le_refl _) (by simp) ?_; (case hd => rfl); (case hg => rfl); (case hr => first | (go_simp; done) | (go_simp; rfl)); (case hp => exact (Reps.one (show Kd.M (Kd.int .i64) _ _ _ 0 [.int .i64 0] from rfl) (Reps.one (show Kd.M (Kd.int .i64) _ _ _ 0 [.int .i64 0] from rfl) (Reps.one (show Kd.M (Kd.int .i64) _ _ _ 5 [.int .i64 5] from rfl) (Reps.one (show Kd.M (Kd.int .i64) _ _ _ 10 [.int .i64 10] from rfl) (Reps.one (show Kd.M (Kd.int .i64) _ _ _ 20 [.int .i64 20] from rfl) (Reps.one (show Kd.M (Kd.int .i64) _ _ _ 50 [.int .i64 50] from rfl) (Reps.one (show Kd.M (Kd.int .i64) _ _ _ t156 [.int .i64 t156] from rfl) (Reps.none _ _)))))))))
  intro v160 w32 ho33 hb hg_ hnew_
  clear hg_ hnew_
  (first | rw [← Ny159.out] at ho33 | (simp only [Int.reduceToNat] at ho33; rw [← Ny159.out] at ho33))
  have n0_ := am_ (Kd.R_elder' (Kd.R_p HO_143004) (Kd.R_base ho33) hb)
  have n1_ := am_ (Kd.R_elder' (Kd.R_p HO_143005) (Kd.R_base ho33) hb)
  have n2_ := am_ (Kd.R_elder' (Kd.R_p HO155) (Kd.R_base ho33) hb)
  have n3_ := am_ (Kd.R_lower (Kd.R_nw (Kd.R_nw (Kd.R_nw ho33 HO_143004) HO_143005) HO155) (keep_size (hk_ HK)))
  have n4_ := am_ (blk_below (kp_ BK136) hb)
  have n5_ := am_ (blk_below (kp_ BK142) hb)
  have n6_ := am_ (IsS75.below (IsS75.q HI0) hb)
  have n7_ := am_ (KeepBut.trans (hk_ HK) (KeepBut.of_below hb g none) (.inl rfl))
  have n8_ := am_ (below_step (hbI_ HB (IsS75.ge HI0.out)) hb)
  clear HO_143004
  clear HO_143005
  clear HO155
  clear BK136
  clear BK142
  clear HI0
  clear HK
  clear HB
  have HO_143004 := n0_
  have HO_143005 := n1_
  have HO155 := n2_
  have HO161 := n3_
  have BK136 := n4_
  have BK142 := n5_
  have HI0 := n6_
  have HK := n7_
  have HB := n8_
  clear n0_ n1_ n2_ n3_ n4_ n5_ n6_ n7_ n8_
  clear hb ho33
  obtain ⟨Ao34, co34, eo34⟩ := Kd.R_slice HO161.out
  (first | subst eo34 | (injection eo34 with f1_ f2_ f3_; have f4_ := f1_.symm; have f5_ := f3_.symm; clear f1_ f2_ f3_; subst f4_; subst f5_))
  refine hK.out _ _ ⟨(blk_cell BK142.out 0).trans rfl, (blk_cell BK142.out 1).trans rfl, (blk_cell BK142.out 2).trans rfl, (blk_cell BK142.out 3).trans rfl, (blk_cell BK142.out 4).trans rfl, (blk_cell BK142.out 5).trans rfl⟩ (fun hHeld => ?_)
  clear hK K
  refine nm_ (some 30) (h := ?_)
  refine one_ (i := 6) (N := some 31) (bb 11 127) rfl rfl (one_of HT_.out (by kernel_rfl)) (by decide) (fun K hK => ?_)
  refine goes_ Tryz.func74 (by kernel_rfl) rfl #[.pointer (some ⟨g, 0, none⟩), .slice Ao34 y159.length co34] (by rfl) rfl rfl (by (try simp only [List.map_toArray, List.map_cons, List.map_nil]); first | done | rfl | (simp only [List.length_drop, List.length_take]; rfl)) ?_
  with_reducible refine (spec_l1Cur_among.calls g s0_0 t157 t158 _ _ y159 t162 t163 t164 w0 _ ?side1 ?side2 ?side3 ?side4 ?side5 A16.out).mono ?_
  (case side1 => exact IsS75.q HI0)
  (case side2 => exact hbI_ HB (IsS75.ge HI0.out))
  (case side3 => exact Kd.C_o HO161)
  (case side4 => exact (Kd.R_reads' HO161.out).2.1)
  (case side5 => exact far_slice (IsS75.own_ne HI0.out HO161.out (by decide)))
  rintro e w35 ⟨rfl, hi, hb, hk⟩
  refine ⟨_, rfl, ?_⟩
  have n0_ := IsS75.rk HI0 HO_143004 hk
  have n1_ := IsS75.rk HI0 HO_143005 hk
  have n2_ := am_ (KeepBut.blk hk (kp_ BK136) NB136_0.out (by simp))
  have n3_ := am_ (KeepBut.blk hk (kp_ BK142) NB142_0.out (by simp))
  have n4_ := IsS75.rk HI0 HO155 hk
  have n5_ := IsS75.rk HI0 HO161 hk
  have n6_ := kt_ HK hk
  have n7_ := am_ (hb)
  have n8_ := am_ (hi)
  clear HO_143004
  clear HO_143005
  clear BK136
  clear BK142
  clear HO155
  clear HO161
  clear HK
  clear HB
  clear HI0
  have HO_143004 := n0_
  have HO_143005 := n1_
  have BK136 := n2_
  have BK142 := n3_
  have HO155 := n4_
  have HO161 := n5_
  have HK := n6_
  have HB := n7_
  have HI0 := n8_
  clear n0_ n1_ n2_ n3_ n4_ n5_ n6_ n7_ n8_
  refine hK.out _ _ ⟨(blk_cell BK142.out 0).trans rfl, (blk_cell BK142.out 1).trans rfl, (blk_cell BK142.out 2).trans rfl, (blk_cell BK142.out 3).trans rfl, (blk_cell BK142.out 4).trans rfl, (blk_cell BK142.out 5).trans rfl⟩ (fun hHeld => ?_)
  clear hK K
  refine nm_ (some 31) (h := ?_)
  refine one_ (i := 7) (N := some 32) (bb 11 255) rfl rfl (one_of HT_.out (by kernel_rfl)) (by decide) (fun K hK => ?_)
  refine value_ (w1 := ?_) (v := ?_) (by rfl) rfl ?_ ?_
  rotate_left 2
  ·go_simp
   constructor
   ·rfl
   rfl
  refine hK.out _ _ ⟨(blk_cell (blk_alloc BK142.out _) 0).trans rfl, (blk_cell (blk_alloc BK142.out _) 1).trans rfl, (blk_cell (blk_alloc BK142.out _) 2).trans rfl, (blk_cell (blk_alloc BK142.out _) 3).trans rfl, (blk_cell (blk_alloc BK142.out _) 4).trans rfl, (blk_cell (blk_alloc BK142.out _) 5).trans rfl⟩ (fun hHeld => ?_)
  clear hK K
  refine nm_ (some 32) (h := ?_)
  refine one_ (i := 8) (N := some 33) (bb 11 511) rfl rfl (one_of HT_.out (by kernel_rfl)) (by decide) (fun K hK => ?_)
  refine Kd.R_append_step (Kd.int .i64) w.heap.size (by rfl) (.tmp 26) (.tmp 32) 26 3 (.int .i64 0) 8 rfl Tryz.underlying26 info3 rfl (by decide) (by omega) u143004 x143004_1 t162 [.int .i64 t162] (fun k_ => some k_ ≠ (u143005 : Value).ownBlock ∧ some k_ ≠ (.slice Ao27 y153.length co27 : Value).ownBlock ∧ some k_ ≠ (.slice Ao34 y159.length co34 : Value).ownBlock) (fun _ => False) rfl rfl ?aP (fun _ hk => hk.elim) ?aF ?aO (Below.refl _ _) ?aS ?aL ?_
  (case aP => exact rfl)
  (case aF => exact (fun k_ hk => ⟨Kd.fresh' (Kd.R_lt (Kd.R_p HO_143005)) k_ hk, Kd.fresh' (Kd.R_lt (Kd.R_p HO155)) k_ hk, Kd.fresh' (Kd.R_lt (Kd.R_p HO161)) k_ hk⟩))
  (case aO => exact (rm_ (h := HO_143004.out)))
  (case aS => exact (keep_size (hk_ HK)))
  (case aL => have := LMc17.out; omega)
  intro v166 w36 ho hb hg hat
  rw [← Ny165.out] at ho
  have n0_ := am_ (Kd.R_after (ok := (fun k_ => some k_ ≠ (.slice Ao27 y153.length co27 : Value).ownBlock ∧ some k_ ≠ (.slice Ao34 y159.length co34 : Value).ownBlock)) (rm_ (h := HO_143005.out)) hg hat)
  have n1_ := am_ (blk_grown (kp_ BK136) hg (Kd.R_ne HO_143004.out BK136.out (by decide)))
  have n2_ := am_ (blk_grown (kp_ BK142) hg (Kd.R_ne HO_143004.out BK142.out (by decide)))
  have n3_ := am_ (IsS75.grown (IsS75.q HI0) hg (IsS75.own_ne HI0.out HO_143004.out (by decide)))
  have n4_ := am_ (Kd.R_after (ok := (fun k_ => some k_ ≠ (u143005 : Value).ownBlock ∧ some k_ ≠ (.slice Ao34 y159.length co34 : Value).ownBlock)) (rm_ (h := HO155.out)) hg hat)
  have n5_ := am_ (Kd.R_after (ok := (fun k_ => some k_ ≠ (u143005 : Value).ownBlock ∧ some k_ ≠ (.slice Ao27 y153.length co27 : Value).ownBlock)) (rm_ (h := HO161.out)) hg hat)
  have n6_ := am_ (below_weaken (hbI_ HB (IsS75.ge HI0.out)) HL.out hb)
  have n7_ := am_ (KeepBut.trans (hk_ HK) (KeepBut.of_grown hg g) (Kd.R_base2 HO_143004.out))
  have n8_ := am_ (ho)
  clear HO_143005
  clear BK136
  clear BK142
  clear HI0
  clear HO155
  clear HO161
  clear HB
  clear HK
  clear HO_143004
  have HO_143005 := n0_
  have BK136 := n1_
  have BK142 := n2_
  have HI0 := n3_
  have HO155 := n4_
  have HO161 := n5_
  have HB := n6_
  have HK := n7_
  have HO167 := n8_
  clear n0_ n1_ n2_ n3_ n4_ n5_ n6_ n7_ n8_
  clear ho hb hg hat
  obtain ⟨Ao37, co37, eo37⟩ := Kd.R_slice HO167.out
  (first | subst eo37 | (injection eo37 with f1_ f2_ f3_; have f4_ := f1_.symm; have f5_ := f3_.symm; clear f1_ f2_ f3_; subst f4_; subst f5_))
  refine hK.out _ _ ⟨(blk_cell BK142.out 0).trans rfl, (blk_cell BK142.out 1).trans rfl, (blk_cell BK142.out 2).trans rfl, (blk_cell BK142.out 3).trans rfl, (blk_cell BK142.out 4).trans rfl, (blk_cell BK142.out 5).trans rfl⟩ (fun hHeld => ?_)
  clear hK K
  refine nm_ (some 33) (h := ?_)
  refine pm_ HT_ 9 34 11 1023 ?_
  refine last_ (i := 10) (N := none) (bb 11 2047) rfl rfl (one_of HT_.out (by kernel_rfl)) (by decide) (fun K hK => ?_)
  have hs38 : w36.cell? ⟨gb142, 4, none⟩ = some (u143004) := (blk_cell BK142.out 4).trans rfl
  have hfs38 := blk_frozen BK142.out 4
  have hns38_0 := NB136_142.out
  have hms38_0 := NB142_136.out
  refine skip_ (w1 := ?_) (by rfl) rfl ?_ ?_
  rotate_left
  ·go_simp
   rfl
  refine hK.out _ _ ?_
  clear hK K
  refine done_ (done_of HT_.out (by kernel_rfl)) ?_
  try go_wp2
  have n0_ : Aside0 (Kd.R (Kd.int .i64) 3 (w36.setCell ⟨gb142, 4, none⟩ (.slice Ao37 y165.length co37)) w.heap.size (fun k_ => some k_ ≠ (.slice Ao27 y153.length co27 : Value).ownBlock ∧ some k_ ≠ (.slice Ao37 y165.length co37 : Value).ownBlock) u143005 x143005_1) := ⟨Kd.R_mono (Kd.R_s HO_143005 BK142) (fun _ hk => ⟨hk.1.1, hk.2⟩)⟩
  have n1_ : Aside0 (Kd.R (Kd.int .i64) 3 (w36.setCell ⟨gb142, 4, none⟩ (.slice Ao37 y165.length co37)) w.heap.size (fun k_ => some k_ ≠ (u143005 : Value).ownBlock ∧ some k_ ≠ (.slice Ao37 y165.length co37 : Value).ownBlock) (.slice Ao27 y153.length co27) y153) := ⟨Kd.R_mono (Kd.R_s HO155 BK142) (fun _ hk => ⟨hk.1.1, hk.2⟩)⟩
  have n2_ : Aside0 (Kd.R (Kd.int .i64) 3 (w36.setCell ⟨gb142, 4, none⟩ (.slice Ao37 y165.length co37)) w.heap.size (fun k_ => some k_ ≠ (u143005 : Value).ownBlock ∧ some k_ ≠ (.slice Ao27 y153.length co27 : Value).ownBlock) (.slice Ao37 y165.length co37) y165) := ⟨Kd.R_mono (Kd.R_s HO167 BK142) (fun _ hk => ⟨hk.1, hk.2.1⟩)⟩
  have n3_ : Aside0 ((w36.setCell ⟨gb142, 4, none⟩ (.slice Ao37 y165.length co37)).heap[gb136]? = some (.cells #[.int .i64 0, .int .i64 0, .int .i64 0, .slice none 0 0, .slice none 0 0, .slice none 0 0] 28 (0, 0))) := ⟨kf_ BK136 NB136_142⟩
  have n4_ : Aside0 ((w36.setCell ⟨gb142, 4, none⟩ (.slice Ao37 y165.length co37)).heap[gb142]? = some (.cells #[.int .i64 t137, .int .i64 t138, .int .i64 t139, .slice Ao27 y153.length co27, .slice Ao37 y165.length co37, u143005] 28 (0, 0))) := ⟨kpq_ (kputs BK142 [(4, _)])⟩
  have n5_ : Aside0 (IsS75 w0 (w36.setCell ⟨gb142, 4, none⟩ (.slice Ao37 y165.length co37)) g s0_0 t163 t164) := ⟨IsS75.q HI0⟩
  have n6_ : Aside0 (KeepBut w (w36.setCell ⟨gb142, 4, none⟩ (.slice Ao37 y165.length co37)) g none) := ⟨hk_ HK⟩
  have n7_ : Aside0 (Below w0.heap.size w0 (w36.setCell ⟨gb142, 4, none⟩ (.slice Ao37 y165.length co37))) := ⟨hbI_ HB (IsS75.ge HI0.out)⟩
  generalize (w36.setCell ⟨gb142, 4, none⟩ (.slice Ao37 y165.length co37)) = w39 at n0_ n1_ n2_ n3_ n4_ n5_ n6_ n7_ ⊢
  have HO_143005 := n0_
  have HO155 := n1_
  have HO167 := n2_
  have BK136 := n3_
  have BK142 := n4_
  have HI0 := n5_
  have HK := n6_
  have HB := n7_
  clear n0_ n1_ n2_ n3_ n4_ n5_ n6_ n7_
  replace HO_143005 := am_ (Kd.R_drew HO_143005.out)
  replace HO155 := am_ (Kd.R_drew HO155.out)
  replace HO167 := am_ (Kd.R_drew HO167.out)
  replace BK136 := am_ (blk_drew BK136.out)
  replace BK142 := am_ (blk_drew BK142.out)
  replace HI0 := am_ (IsS75.drew HI0.out)
  replace HK := am_ (keep_drew HK.out)
  replace HB := am_ (below_drew1 HB.out)
  refine start_ (n := 8) (S := fun w' => w'.cell? ⟨gb142, 0, none⟩ = some (.int .i64 t137) ∧ w'.cell? ⟨gb142, 1, none⟩ = some (.int .i64 t138) ∧ w'.cell? ⟨gb142, 2, none⟩ = some (.int .i64 t139) ∧ w'.cell? ⟨gb142, 3, none⟩ = some (.slice Ao27 y153.length co27) ∧ w'.cell? ⟨gb142, 4, none⟩ = some (.slice Ao37 y165.length co37) ∧ w'.cell? ⟨gb142, 5, none⟩ = some (u143005)) (ds := [7]) (bb 8 0) (by kernel_rfl) rfl rfl ⟨(blk_cell BK142.out 0).trans rfl, (blk_cell BK142.out 1).trans rfl, (blk_cell BK142.out 2).trans rfl, (blk_cell BK142.out 3).trans rfl, (blk_cell BK142.out 4).trans rfl, (blk_cell BK142.out 5).trans rfl⟩ (fun hHeld => ?_); refine with_tabW spec_l1Cur_model.tab7 spec_l1Cur_model.bits7 (fun HT_ HW_ => ?_)
  generalize w39.drew = w40 at HO_143005 HO155 HO167 BK136 BK142 HI0 HK HB hHeld ⊢
  refine pm_ HT_ 0 35 8 1 ?_
  refine pm_ HT_ 2 37 8 5 ?_
  refine tk_ HT_ HW_ hHeld 1 (some 36) (bb 8 7) (h := ?_)
  refine one_ (i := 3) (N := some 38) (bb 8 15) rfl rfl (one_of HT_.out (by kernel_rfl)) (by decide) (fun K hK => ?_)
  refine goes_ Tryz.func75 (by kernel_rfl) rfl #[.pointer (some ⟨g, 0, none⟩), .int .i64 5] (by rfl) rfl rfl (by (try simp only [List.map_toArray, List.map_cons, List.map_nil]); first | done | rfl | (simp only [List.length_drop, List.length_take]; rfl)) ?_
  with_reducible refine (spec_l1Cur_pick.calls g s0_0 t163 t164 5 t168 t169 t170 w0 _ ?side1 ?side2 A18.out).mono ?_
  (case side1 => exact IsS75.q HI0)
  (case side2 => exact hbI_ HB (IsS75.ge HI0.out))
  rintro e w41 ⟨rfl, hi, hb, hk⟩
  refine ⟨_, rfl, ?_⟩
  have n0_ := IsS75.rk HI0 HO_143005 hk
  have n1_ := am_ (KeepBut.blk hk (kp_ BK136) NB136_0.out (by simp))
  have n2_ := am_ (KeepBut.blk hk (kp_ BK142) NB142_0.out (by simp))
  have n3_ := IsS75.rk HI0 HO155 hk
  have n4_ := IsS75.rk HI0 HO167 hk
  have n5_ := kt_ HK hk
  have n6_ := am_ (hb)
  have n7_ := am_ (hi)
  clear HO_143005
  clear BK136
  clear BK142
  clear HO155
  clear HO167
  clear HK
  clear HB
  clear HI0
  have HO_143005 := n0_
  have BK136 := n1_
  have BK142 := n2_
  have HO155 := n3_
  have HO167 := n4_
  have HK := n5_
  have HB := n6_
  have HI0 := n7_
  clear n0_ n1_ n2_ n3_ n4_ n5_ n6_ n7_
  refine hK.out _ _ ⟨(blk_cell BK142.out 0).trans rfl, (blk_cell BK142.out 1).trans rfl, (blk_cell BK142.out 2).trans rfl, (blk_cell BK142.out 3).trans rfl, (blk_cell BK142.out 4).trans rfl, (blk_cell BK142.out 5).trans rfl⟩ (fun hHeld => ?_)
  clear hK K
  refine nm_ (some 38) (h := ?_)
  refine one_ (i := 4) (N := some 39) (bb 8 31) rfl rfl (one_of HT_.out (by kernel_rfl)) (by decide) (fun K hK => ?_)
  refine value_ (w1 := ?_) (v := ?_) (by rfl) rfl ?_ ?_
  rotate_left 2
  ·go_simp
   constructor
   ·rfl
   rfl
  refine hK.out _ _ ⟨(blk_cell (blk_alloc BK142.out _) 0).trans rfl, (blk_cell (blk_alloc BK142.out _) 1).trans rfl, (blk_cell (blk_alloc BK142.out _) 2).trans rfl, (blk_cell (blk_alloc BK142.out _) 3).trans rfl, (blk_cell (blk_alloc BK142.out _) 4).trans rfl, (blk_cell (blk_alloc BK142.out _) 5).trans rfl⟩ (fun hHeld => ?_)
  clear hK K
  refine nm_ (some 39) (h := ?_)
  refine one_ (i := 5) (N := some 40) (bb 8 63) rfl rfl (one_of HT_.out (by kernel_rfl)) (by decide) (fun K hK => ?_)
  refine Kd.R_append_step (Kd.int .i64) w.heap.size (by rfl) (.tmp 36) (.tmp 39) 26 3 (.int .i64 0) 8 rfl Tryz.underlying26 info3 rfl (by decide) (by omega) u143005 x143005_1 t168 [.int .i64 t168] (fun k_ => some k_ ≠ (.slice Ao27 y153.length co27 : Value).ownBlock ∧ some k_ ≠ (.slice Ao37 y165.length co37 : Value).ownBlock) (fun _ => False) rfl rfl ?aP (fun _ hk => hk.elim) ?aF ?aO (Below.refl _ _) ?aS ?aL ?_
  (case aP => exact rfl)
  (case aF => exact (fun k_ hk => ⟨Kd.fresh' (Kd.R_lt (Kd.R_p HO155)) k_ hk, Kd.fresh' (Kd.R_lt (Kd.R_p HO167)) k_ hk⟩))
  (case aO => exact (Kd.R_p HO_143005))
  (case aS => exact (keep_size (hk_ HK)))
  (case aL => have := LMc19.out; omega)
  intro v172 w42 ho hb hg hat
  rw [← Ny171.out] at ho
  have n0_ := am_ (blk_grown (kp_ BK136) hg (Kd.R_ne HO_143005.out BK136.out (by decide)))
  have n1_ := am_ (blk_grown (kp_ BK142) hg (Kd.R_ne HO_143005.out BK142.out (by decide)))
  have n2_ := am_ (IsS75.grown (IsS75.q HI0) hg (IsS75.own_ne HI0.out HO_143005.out (by decide)))
  have n3_ := am_ (Kd.R_after (ok := (fun k_ => some k_ ≠ (.slice Ao37 y165.length co37 : Value).ownBlock)) (rm_ (h := HO155.out)) hg hat)
  have n4_ := am_ (Kd.R_after (ok := (fun k_ => some k_ ≠ (.slice Ao27 y153.length co27 : Value).ownBlock)) (rm_ (h := HO167.out)) hg hat)
  have n5_ := am_ (below_weaken (hbI_ HB (IsS75.ge HI0.out)) HL.out hb)
  have n6_ := am_ (KeepBut.trans (hk_ HK) (KeepBut.of_grown hg g) (Kd.R_base2 HO_143005.out))
  have n7_ := am_ (ho)
  clear BK136
  clear BK142
  clear HI0
  clear HO155
  clear HO167
  clear HB
  clear HK
  clear HO_143005
  have BK136 := n0_
  have BK142 := n1_
  have HI0 := n2_
  have HO155 := n3_
  have HO167 := n4_
  have HB := n5_
  have HK := n6_
  have HO173 := n7_
  clear n0_ n1_ n2_ n3_ n4_ n5_ n6_ n7_
  clear ho hb hg hat
  obtain ⟨Ao43, co43, eo43⟩ := Kd.R_slice HO173.out
  (first | subst eo43 | (injection eo43 with f1_ f2_ f3_; have f4_ := f1_.symm; have f5_ := f3_.symm; clear f1_ f2_ f3_; subst f4_; subst f5_))
  refine hK.out _ _ ⟨(blk_cell BK142.out 0).trans rfl, (blk_cell BK142.out 1).trans rfl, (blk_cell BK142.out 2).trans rfl, (blk_cell BK142.out 3).trans rfl, (blk_cell BK142.out 4).trans rfl, (blk_cell BK142.out 5).trans rfl⟩ (fun hHeld => ?_)
  clear hK K
  refine nm_ (some 40) (h := ?_)
  refine pm_ HT_ 6 41 8 127 ?_
  refine last_ (i := 7) (N := none) (bb 8 255) rfl rfl (one_of HT_.out (by kernel_rfl)) (by decide) (fun K hK => ?_)
  have hs44 : w42.cell? ⟨gb142, 5, none⟩ = some (u143005) := (blk_cell BK142.out 5).trans rfl
  have hfs44 := blk_frozen BK142.out 5
  have hns44_0 := NB136_142.out
  have hms44_0 := NB142_136.out
  refine skip_ (w1 := ?_) (by rfl) rfl ?_ ?_
  rotate_left
  ·go_simp
   rfl
  refine hK.out _ _ ?_
  clear hK K
  refine done_ (done_of HT_.out (by kernel_rfl)) ?_
  try go_wp2
  go_roundg k1
  case measure => have := HK1.out; omega
  case rel => exact ⟨(wrap64 (x4_1 - 1)), (t169), (t170), (y153), (y165), (y171), (.slice Ao27 y153.length co27), (.slice Ao37 y165.length co37), (.slice Ao43 y171.length co43), sr_, H', ⟨by have := HK1.out; omega⟩, ⟨Kd.R_mono (Kd.R_s HO155 BK142) (fun _ hk => ⟨hk.1, hk.2⟩)⟩, ⟨Kd.R_mono (Kd.R_s HO167 BK142) (fun _ hk => ⟨hk.1, hk.2⟩)⟩, ⟨Kd.R_mono (Kd.R_s HO173 BK142) (fun _ hk => ⟨hk.1, hk.2⟩)⟩, ⟨kf_ BK136 NB136_142⟩, ⟨kpq_ (kputs BK142 [(5, _)])⟩, ⟨IsS75.q HI0⟩, ⟨hk_ HK⟩, ⟨hbI_ HB (IsS75.ge HI0.out)⟩⟩
 rw [if_neg c11] at H
 have c11b0 : decide (0 < x4_1) = false := decide_eq_false c11
 clear c11
 simp only [Option.some.injEq, Prod.mk.injEq] at H
 obtain ⟨rfl, rfl, rfl, rfl, rfl, rfl, rfl, rfl⟩ := H
 have := NB142_136.out
 have := NB136_142.out
 have := NB142_0.out
 have := NB0_142.out
 obtain ⟨hcz47_0, hcz47_1, hcz47_2, hcz47_3, hcz47_4, hcz47_5, hfz47_0, hfz47_1, hfz47_2, hfz47_3, hfz47_4, hfz47_5⟩ := bx6 BK142
 have := NB136_0.out
 have := NB0_136.out
 obtain ⟨hcz49_0, hcz49_1, hcz49_2, hcz49_3, hcz49_4, hcz49_5, hfz49_0, hfz49_1, hfz49_2, hfz49_3, hfz49_4, hfz49_5⟩ := bx6 BK136
 obtain ⟨Ao50, co50, eo50⟩ := Kd.R_slice HO_143003.out
 subst eo50
 obtain ⟨Ao51, co51, eo51⟩ := Kd.R_slice HO_143004.out
 subst eo51
 obtain ⟨Ao52, co52, eo52⟩ := Kd.R_slice HO_143005.out
 subst eo52
 go_wp2
 refine bodyPost_ret (results_cell_row rfl _ _ gb136 28 #[.int .i64 t137, .int .i64 t138, .int .i64 t139, .slice Ao50 x143003_1.length co50, .slice Ao51 x143004_1.length co51, .slice Ao52 x143005_1.length co52] (0, 0) _ rfl (kpq_ (kputs BK136 [(0, _), (1, _), (2, _), (3, _), (4, _), (5, _)])) Tryz.underlying28 rfl (by kernel_rfl)) rfl ?_
 exact ⟨_, _, _, se_, Kd.R_mono (Kd.R_s HO_143003 BK136) (fun _ hk => ⟨hk.1, hk.2⟩), Kd.R_mono (Kd.R_s HO_143004 BK136) (fun _ hk => ⟨hk.1, hk.2⟩), Kd.R_mono (Kd.R_s HO_143005 BK136) (fun _ hk => ⟨hk.1, hk.2⟩), IsS75.q HI0, hbI_ HB (IsS75.ge HI0.out), hk_ HK⟩

end Go.Proofs.YthphbkkkbolcnaaGreatDoor.PFnModels
