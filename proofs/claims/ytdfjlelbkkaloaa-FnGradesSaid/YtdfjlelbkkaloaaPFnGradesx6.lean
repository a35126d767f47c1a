-- Laid for this claim by wip/tools/print2.sh, a changed copy of the kit's print (wip/tools/patch_print.py): not by print.sh.
import Derived.Test.YtdfjlelbkkaloaaPFnGradesx0
import Derived.Test.YtdfjlelbkkaloaaPFnGradesx2
import Derived.Test.YtdfjlelbkkaloaaPFnGradesx5
namespace Go.Proofs.Ytdfjlelbkkaloaa.PFnGrades
open Go.RowKit Go.Proofs.YtdfjlelbkkaloaaW.PrintWords Go.Proofs.YtdfjlelbkkaloaaW.PrintLast Go.Proofs.YtdfjlelbkkaloaaW.PrintMore
attribute [local go_sem] max2_int min2_int max_two min_two max_three min_three max_four min_four   -- for this text's walks alone
set_option linter.unusedVariables false
set_option linter.unusedSimpArgs false

/-! ### spec_l1Cur_model: function 71 -/
def spec_l1Cur_model.l0 : Nat → Int → List Int → Int → Int → Int → Int → Int → List Int → List Int → List Int → Option (Int × Int × Int × List Int × List Int × List Int × Int × Int)
 | 0, _, _, _, _, _, _, _, _, _, _ => none
 | k + 1, x4, x1000, x1001, x1002, x247000, x247001, x247002, x247003, x247004, x247005 => if x4 > 0 then ((spec_l1Cur_pick.f x1000 x1001 x1002 10001).bind fun bt248 => ((spec_l1Cur_among.f x1000 bt248.2.1 bt248.2.2 (([0, 100, 100, 200, 500, 1000, bt248.1] : List Int))).bind fun bt254 => (if x247003.length < 17592186044416 then ((spec_l1Cur_pick.f x1000 bt254.2.1 bt254.2.2 1001).bind fun bt260 => ((spec_l1Cur_among.f x1000 bt260.2.1 bt260.2.2 (([0, 0, 5, 10, 20, 50, bt260.1] : List Int))).bind fun bt266 => (if x247004.length < 17592186044416 then ((spec_l1Cur_pick.f x1000 bt266.2.1 bt266.2.2 5).bind fun bt272 => (if x247005.length < 17592186044416 then (spec_l1Cur_model.l0 k (wrap64 (x4 - 1)) x1000 bt272.2.1 bt272.2.2 x247000 x247001 x247002 (x247003 ++ [bt254.1]) (x247004 ++ [bt266.1]) (x247005 ++ [bt272.1])) else (none))) else (none)))) else (none)))) else (some (x247000, x247001, x247002, x247003, x247004, x247005, x1001, x1002))
def spec_l1Cur_model.f (k : Nat) (s0_0 : List Int) (s0_1 : Int) (s0_2 : Int) : Option (Int × Int × Int × List Int × List Int × List Int × Int × Int) := (spec_l1Cur_grid.f s0_0 s0_1 s0_2).bind fun bt241 => ((spec_grCount.f bt241.1 bt241.2.1 bt241.2.2.1).bind fun t247 => (spec_l1Cur_model.l0 k t247 s0_0 bt241.2.2.2.1 bt241.2.2.2.2 bt241.1 bt241.2.1 bt241.2.2.1 ([] : List Int) ([] : List Int) ([] : List Int)))
def spec_l1Cur_model.T5 : Bool × List (List Nat × List Nat) := (true, [([], []), ([0], [0]), ([], []), ([], []), ([3], [3]), ([4], [4]), ([2, 5, 4], [2, 5]), ([6], [6]), ([1, 7, 6], [1, 7]), ([0, 1, 2, 3, 4, 5, 6, 7, 8], []), ([9, 8, 8, 0, 1, 2, 3, 4, 5, 6, 7, 8], [8, 9])])
def spec_l1Cur_model.B5 : List Nat := [0, 1, 0, 0, 8, 24, 60, 124, 255, 511, 1023]
theorem spec_l1Cur_model.tab5 : rtab .any (opsOf Try.f71 5) = spec_l1Cur_model.T5 := by kernel_rfl
theorem spec_l1Cur_model.bits5 : waitsOk spec_l1Cur_model.T5.2 spec_l1Cur_model.B5 = true := by kernel_rfl
def spec_l1Cur_model.T6 : Bool × List (List Nat × List Nat) := (true, [([], []), ([0], [0]), ([], []), ([], []), ([3], [3]), ([4], [4]), ([2, 5, 4], [2, 5]), ([6], [6]), ([1, 7, 6], [1, 7]), ([0, 1, 2, 3, 4, 5, 6, 7, 8], []), ([9, 8, 8, 0, 1, 2, 3, 4, 5, 6, 7, 8], [8, 9])])
def spec_l1Cur_model.B6 : List Nat := [0, 1, 0, 0, 8, 24, 60, 124, 255, 511, 1023]
theorem spec_l1Cur_model.tab6 : rtab .any (opsOf Try.f71 6) = spec_l1Cur_model.T6 := by kernel_rfl
theorem spec_l1Cur_model.bits6 : waitsOk spec_l1Cur_model.T6.2 spec_l1Cur_model.B6 = true := by kernel_rfl
def spec_l1Cur_model.T7 : Bool × List (List Nat × List Nat) := (true, [([], []), ([0], [0]), ([], []), ([2], [2]), ([3], [3]), ([1, 4, 3], [1, 4]), ([0, 1, 2, 3, 4, 5], []), ([6, 5, 5, 0, 1, 2, 3, 4, 5], [5, 6])])
def spec_l1Cur_model.B7 : List Nat := [0, 1, 0, 4, 12, 31, 63, 127]
theorem spec_l1Cur_model.tab7 : rtab .any (opsOf Try.f71 7) = spec_l1Cur_model.T7 := by kernel_rfl
theorem spec_l1Cur_model.bits7 : waitsOk spec_l1Cur_model.T7.2 spec_l1Cur_model.B7 = true := by kernel_rfl
set_option maxHeartbeats 8000000 in
set_option maxRecDepth 100000 in
theorem spec_l1Cur_model.calls (k : Nat) (g : Nat) (s0_0 : List Int) (s0_1 : Int) (s0_2 : Int) (r1 : Int) (r2 : Int) (r3 : Int) (r4 : List Int) (r5 : List Int) (r6 : List Int) (r7 : Int) (r8 : Int) (w0 w : World) (hI : IsS76 w0 w g s0_0 s0_1 s0_2) (hB : Below w0.heap.size w0 w) (h : spec_l1Cur_model.f k s0_0 s0_1 s0_2 = some (r1, r2, r3, r4, r5, r6, r7, r8)) :
  Calls Try.prog 71 #[.pointer (some ⟨g, 0, none⟩)] w fun e w' => ∃ v3_ v4_ v5_ : Value, e = .returned (.agg #[.int .i64 r1, .int .i64 r2, .int .i64 r3, v3_, v4_, v5_]) ∧ Kd.R (Kd.int .i64) 3 w' w.heap.size (fun k_ => some k_ ≠ (v4_ : Value).ownBlock ∧ some k_ ≠ (v5_ : Value).ownBlock) v3_ r4 ∧ Kd.R (Kd.int .i64) 3 w' w.heap.size (fun k_ => some k_ ≠ (v3_ : Value).ownBlock ∧ some k_ ≠ (v5_ : Value).ownBlock) v4_ r5 ∧ Kd.R (Kd.int .i64) 3 w' w.heap.size (fun k_ => some k_ ≠ (v3_ : Value).ownBlock ∧ some k_ ≠ (v4_ : Value).ownBlock) v5_ r6 ∧ IsS76 w0 w' g s0_0 r7 r8 ∧ Below w0.heap.size w0 w' ∧ KeepBut w w' g none := by
 have hu30 := Try.underlying30
 have hu28 := Try.underlying28
 have HI0 := Aside0.mk hI
 have HK := Aside0.mk (KeepBut.refl w g none)
 have HL := Aside0.mk hB.size
 clear hI
 have HW0 := Aside0.mk hB.size
 have HB := Aside0.mk hB
 clear hB
 have H : ((spec_l1Cur_grid.f s0_0 s0_1 s0_2).bind fun bt241 => ((spec_grCount.f bt241.1 bt241.2.1 bt241.2.2.1).bind fun t247 => (spec_l1Cur_model.l0 k t247 s0_0 bt241.2.2.2.1 bt241.2.2.2.2 bt241.1 bt241.2.1 bt241.2.2.1 ([] : List Int) ([] : List Int) ([] : List Int)))) = some (r1, r2, r3, r4, r5, r6, r7, r8) := h
 clear h
 replace H := Option.bind_eq_some_iff.mp H
 obtain ⟨⟨t241, t242, t243, t244, t245⟩, A20, H⟩ := H
 replace H : ((spec_grCount.f t241 t242 t243).bind fun t247 => (spec_l1Cur_model.l0 k t247 s0_0 t244 t245 t241 t242 t243 ([] : List Int) ([] : List Int) ([] : List Int))) = some (r1, r2, r3, r4, r5, r6, r7, r8) := H
 have A2 := Aside0.mk A20
 clear A20
 replace H := Option.bind_eq_some_iff.mp H
 obtain ⟨t247, A30, H⟩ := H
 replace H : (spec_l1Cur_model.l0 k t247 s0_0 t244 t245 t241 t242 t243 ([] : List Int) ([] : List Int) ([] : List Int)) = some (r1, r2, r3, r4, r5, r6, r7, r8) := H
 have A3 := Aside0.mk A30
 clear A30
 have H' := Aside0.mk H
 clear H
 go_enter Try.func71, Try.ntmps71
 go_wp2_with (first | ((with_reducible refine gate_dst (N := 2) rfl ?_); refine box_event ?hg (N := 2) ?hd (cs := #[.int .i64 0, .int .i64 0, .int .i64 0, .slice none 0 0, .slice none 0 0, .slice none 0 0]) (t := 30) ?hr ?_; (case hd => rfl); (case hg => rfl); (case hr => first | (go_simp; done) | (go_simp; rfl)); intro gb240 hg w4 hbox hb; have BK240 := Aside0.mk (hbox); have GW240 := Aside0.mk ((by rw [hg]; exact (keep_size (hk_ HK)) : w.heap.size ≤ gb240)); have GE240 := Aside0.mk ((Nat.le_trans HW0.out (by rw [hg]; exact (keep_size (hk_ HK)) : w.heap.size ≤ gb240) : w0.heap.size ≤ gb240)); have NB0_240 := Aside0.mk ((by rw [hg]; exact Nat.ne_of_lt (IsS76.lt (show IsS76 w0 _ g s0_0 s0_1 s0_2 from IsS76.q HI0)) : g ≠ gb240)); have NB240_0 := Aside0.mk ((by rw [hg]; exact Nat.ne_of_gt (IsS76.lt (show IsS76 w0 _ g s0_0 s0_1 s0_2 from IsS76.q HI0)) : gb240 ≠ g)); replace HK := hkb_ HK hb; replace HB := Aside0.mk (below_step (hbI_ HB (IsS76.ge HI0.out)) hb); replace HI0 := IsS76.b HI0 hb; clear hb hbox hg) | ((with_reducible refine gate_callee (f := 75) rfl ?_); refine gl_ (some 6) Try.func75 #[.pointer (some ⟨g, 0, none⟩)] rfl rfl rfl ?_; (with_reducible refine (spec_l1Cur_grid.calls g s0_0 s0_1 s0_2 t241 t242 t243 t244 t245 w0 _ ?side1 ?side2 A2.out).mono ?_); (case side1 => exact IsS76.q HI0); (case side2 => exact hbI_ HB (IsS76.ge HI0.out)); rintro e w5 ⟨rfl, hi, hb, hk⟩; refine ⟨_, rfl, ?_⟩; replace BK240 := kk_ BK240 hk NB240_0; replace HK := Aside0.mk (KeepBut.trans (hk_ HK) hk (.inl rfl)); replace HB := Aside0.mk (hb); replace HI0 := Aside0.mk (hi); (try clear hb); (try clear hb2); (try clear hk); (try clear hi)) | ((with_reducible refine gate_dst (N := 3) rfl ?_); refine box_event ?hg (N := 3) ?hd (cs := #[.int .i64 0, .int .i64 0, .int .i64 0, .slice none 0 0, .slice none 0 0, .slice none 0 0]) (t := 30) ?hr ?_; (case hd => rfl); (case hg => rfl); (case hr => first | (go_simp; done) | (go_simp; rfl)); intro gb246 hg w6 hbox hb; have BK246 := Aside0.mk (hbox); have GW246 := Aside0.mk ((by rw [hg]; exact (keep_size (hk_ HK)) : w.heap.size ≤ gb246)); have GE246 := Aside0.mk ((Nat.le_trans HW0.out (by rw [hg]; exact (keep_size (hk_ HK)) : w.heap.size ≤ gb246) : w0.heap.size ≤ gb246)); have NB240_246 := nl_ hg BK240; have NB246_240 := ng_ hg BK240; have NB0_246 := Aside0.mk ((by rw [hg]; exact Nat.ne_of_lt (IsS76.lt (show IsS76 w0 _ g s0_0 t244 t245 from IsS76.q HI0)) : g ≠ gb246)); have NB246_0 := Aside0.mk ((by rw [hg]; exact Nat.ne_of_gt (IsS76.lt (show IsS76 w0 _ g s0_0 t244 t245 from IsS76.q HI0)) : gb246 ≠ g)); replace BK240 := kb_ BK240 hb; replace HK := hkb_ HK hb; replace HB := Aside0.mk (below_step (hbI_ HB (IsS76.ge HI0.out)) hb); replace HI0 := IsS76.b HI0 hb; clear hb hbox hg; have hnb7 := NB246_240.out; have hnc7 := NB240_246.out; have hnb8 := NB246_0.out; have hnc8 := NB0_246.out; obtain ⟨hcz9_0, hcz9_1, hcz9_2, hcz9_3, hcz9_4, hcz9_5, hfz9_0, hfz9_1, hfz9_2, hfz9_3, hfz9_4, hfz9_5⟩ := bx6 BK246) | ((with_reducible refine gate_callee (f := 64) rfl ?_); refine gl_ (some 10) Try.func64 #[.agg #[.int .i64 t241, .int .i64 t242, .int .i64 t243]] rfl rfl rfl ?_; (with_reducible refine (spec_grCount.calls t241 t242 t243 t247 _ A3.out).mono ?_); rintro e w10 ⟨rfl, hb⟩; refine ⟨_, rfl, ?_⟩; replace BK240 := kfb_ BK240 NB240_246 hb; replace BK246 := Aside0.mk (blk_below (g := gb246) (o := .cells #[.int .i64 t241, .int .i64 t242, .int .i64 t243, .slice none 0 0, .slice none 0 0, .slice none 0 0] 30 (0, 0)) (kpq_ (kputs BK246 [(0, _), (1, _), (2, _), (3, _), (4, _), (5, _)])) hb); replace HK := hkb_ HK hb; replace HB := Aside0.mk (below_step (hbI_ HB (IsS76.ge HI0.out)) hb); replace HI0 := Aside0.mk (IsS76.below (show IsS76 w0 ((((((w6.setCell ⟨gb246, 0, none⟩ (.int .i64 t241)).setCell ⟨gb246, 1, none⟩ (.int .i64 t242)).setCell ⟨gb246, 2, none⟩ (.int .i64 t243)).setCell ⟨gb246, 3, none⟩ (.slice none 0 0)).setCell ⟨gb246, 4, none⟩ (.slice none 0 0)).setCell ⟨gb246, 5, none⟩ (.slice none 0 0)) g s0_0 t244 t245 from IsS76.q HI0) hb); (try clear hb); (try clear hb2); (try clear hk); (try clear hi)))
 go_loopg [4] k (fun kq v4 w' => ∃ (x4_1 : Int) (x1001_1 : Int) (x1002_1 : Int) (x247003_1 : List Int) (x247004_1 : List Int) (x247005_1 : List Int) (u247003 : Value) (u247004 : Value) (u247005 : Value), v4 = .int .i64 x4_1 ∧ Aside0 (spec_l1Cur_model.l0 kq x4_1 s0_0 x1001_1 x1002_1 t241 t242 t243 x247003_1 x247004_1 x247005_1 = some (r1, r2, r3, r4, r5, r6, r7, r8)) ∧ Aside0 (kq ≤ k) ∧ Aside0 (Kd.R (Kd.int .i64) 3 w' w.heap.size (fun k_ => some k_ ≠ (u247004 : Value).ownBlock ∧ some k_ ≠ (u247005 : Value).ownBlock) u247003 x247003_1) ∧ Aside0 (Kd.R (Kd.int .i64) 3 w' w.heap.size (fun k_ => some k_ ≠ (u247003 : Value).ownBlock ∧ some k_ ≠ (u247005 : Value).ownBlock) u247004 x247004_1) ∧ Aside0 (Kd.R (Kd.int .i64) 3 w' w.heap.size (fun k_ => some k_ ≠ (u247003 : Value).ownBlock ∧ some k_ ≠ (u247004 : Value).ownBlock) u247005 x247005_1) ∧ Aside0 (w'.heap[gb240]? = some (.cells #[.int .i64 0, .int .i64 0, .int .i64 0, (.slice none 0 0), (.slice none 0 0), (.slice none 0 0)] 30 (0, 0))) ∧ Aside0 (w'.heap[gb246]? = some (.cells #[.int .i64 t241, .int .i64 t242, .int .i64 t243, u247003, u247004, u247005] 30 (0, 0))) ∧ Aside0 (IsS76 w0 w' g s0_0 x1001_1 x1002_1) ∧ Aside0 (KeepBut w w' g none) ∧ Aside0 (Below w0.heap.size w0 w'))
 case atStart => exact ⟨(t247), (t244), (t245), (([] : List Int)), (([] : List Int)), (([] : List Int)), (.slice none 0 0), (.slice none 0 0), (.slice none 0 0), (by first | rfl | (simp; done) | (simp [*]; done)), H', ⟨Nat.le_refl _⟩, ⟨by first | exact Kd.R_nil _ _ _ _ _ | exact Kd.N_nil _ _ _ _ _ | exact Kd.V_nil _ _ _ _ _ | exact Kd.Q_nil _ _ _ _ _ | exact Kd.S_nil _ _ _ _ _⟩, ⟨by first | exact Kd.R_nil _ _ _ _ _ | exact Kd.N_nil _ _ _ _ _ | exact Kd.V_nil _ _ _ _ _ | exact Kd.Q_nil _ _ _ _ _ | exact Kd.S_nil _ _ _ _ _⟩, ⟨by first | exact Kd.R_nil _ _ _ _ _ | exact Kd.N_nil _ _ _ _ _ | exact Kd.V_nil _ _ _ _ _ | exact Kd.Q_nil _ _ _ _ _ | exact Kd.S_nil _ _ _ _ _⟩, ⟨kp_ BK240⟩, ⟨kp_ BK246⟩, ⟨IsS76.q HI0⟩, ⟨hk_ HK⟩, ⟨hbI_ HB (IsS76.ge HI0.out)⟩⟩
 case round =>
  clear H'
  (try clear p2); (try clear c6); (try clear c7); (try clear c8); (try clear hcz9_0); (try clear hcz9_1); (try clear hcz9_2); (try clear hcz9_3); (try clear hcz9_4); (try clear hcz9_5); (try clear hfz9_0); (try clear hfz9_1); (try clear hfz9_2); (try clear hfz9_3); (try clear hfz9_4); (try clear hfz9_5)
  obtain ⟨x4_1, x1001_1, x1002_1, x247003_1, x247004_1, x247005_1, u247003, u247004, u247005, rfl, HA, HK1, HO_247003, HO_247004, HO_247005, BK240, BK246, HI0, HK, HB⟩ := hrel
  cases gk with
  | zero => exact absurd HA.out (by simp [spec_l1Cur_model.l0])
  | succ k1 =>
   have H := HA.out
   clear HA
   simp only [spec_l1Cur_model.l0] at H
   by_cases c11 : x4_1 > 0
   ·rw [if_pos c11] at H
    have c11b0 : decide (0 < x4_1) = true := decide_eq_true c11
    clear c11
    replace H := Option.bind_eq_some_iff.mp H
    obtain ⟨⟨t248, t249, t250⟩, A120, H⟩ := H
    replace H : ((spec_l1Cur_among.f s0_0 t249 t250 (([0, 100, 100, 200, 500, 1000, t248] : List Int))).bind fun bt254 => (if x247003_1.length < 17592186044416 then ((spec_l1Cur_pick.f s0_0 bt254.2.1 bt254.2.2 1001).bind fun bt260 => ((spec_l1Cur_among.f s0_0 bt260.2.1 bt260.2.2 (([0, 0, 5, 10, 20, 50, bt260.1] : List Int))).bind fun bt266 => (if x247004_1.length < 17592186044416 then ((spec_l1Cur_pick.f s0_0 bt266.2.1 bt266.2.2 5).bind fun bt272 => (if x247005_1.length < 17592186044416 then (spec_l1Cur_model.l0 k1 (wrap64 (x4_1 - 1)) s0_0 bt272.2.1 bt272.2.2 t241 t242 t243 (x247003_1 ++ [bt254.1]) (x247004_1 ++ [bt266.1]) (x247005_1 ++ [bt272.1])) else (none))) else (none)))) else (none))) = some (r1, r2, r3, r4, r5, r6, r7, r8) := H
    have A12 := Aside0.mk A120
    clear A120
    obtain ⟨y251, hy251⟩ : ∃ y_ : List Int, y_ = (([0, 100, 100, 200, 500, 1000, t248] : List Int)) := ⟨_, rfl⟩
    replace H : ((spec_l1Cur_among.f s0_0 t249 t250 y251).bind fun bt254 => (if x247003_1.length < 17592186044416 then ((spec_l1Cur_pick.f s0_0 bt254.2.1 bt254.2.2 1001).bind fun bt260 => ((spec_l1Cur_among.f s0_0 bt260.2.1 bt260.2.2 (([0, 0, 5, 10, 20, 50, bt260.1] : List Int))).bind fun bt266 => (if x247004_1.length < 17592186044416 then ((spec_l1Cur_pick.f s0_0 bt266.2.1 bt266.2.2 5).bind fun bt272 => (if x247005_1.length < 17592186044416 then (spec_l1Cur_model.l0 k1 (wrap64 (x4_1 - 1)) s0_0 bt272.2.1 bt272.2.2 t241 t242 t243 (x247003_1 ++ [bt254.1]) (x247004_1 ++ [bt266.1]) (x247005_1 ++ [bt272.1])) else (none))) else (none)))) else (none))) = some (r1, r2, r3, r4, r5, r6, r7, r8) := by first | (rw [hy251]; with_reducible exact H) | (have H2_ := (Option.bind_some _ _).symm.trans H; rw [hy251]; with_reducible exact H2_) | (have H2_ := (Option.bind_some _ _).symm.trans H; with_reducible exact H2_) | with_reducible exact H | (rw [hy251]; exact H) | exact H
    have Ny251 := Aside0.mk hy251
    clear hy251
    replace H := Option.bind_eq_some_iff.mp H
    obtain ⟨⟨t254, t255, t256⟩, A130, H⟩ := H
    replace H : (if x247003_1.length < 17592186044416 then ((spec_l1Cur_pick.f s0_0 t255 t256 1001).bind fun bt260 => ((spec_l1Cur_among.f s0_0 bt260.2.1 bt260.2.2 (([0, 0, 5, 10, 20, 50, bt260.1] : List Int))).bind fun bt266 => (if x247004_1.length < 17592186044416 then ((spec_l1Cur_pick.f s0_0 bt266.2.1 bt266.2.2 5).bind fun bt272 => (if x247005_1.length < 17592186044416 then (spec_l1Cur_model.l0 k1 (wrap64 (x4_1 - 1)) s0_0 bt272.2.1 bt272.2.2 t241 t242 t243 (x247003_1 ++ [t254]) (x247004_1 ++ [bt266.1]) (x247005_1 ++ [bt272.1])) else (none))) else (none)))) else (none)) = some (r1, r2, r3, r4, r5, r6, r7, r8) := H
    have A13 := Aside0.mk A130
    clear A130
    by_cases c14 : x247003_1.length < 17592186044416
    ·rw [if_pos c14] at H
     have LMc14 := Aside0.mk c14
     clear c14
     obtain ⟨y257, hy257⟩ : ∃ y_ : List Int, y_ = (x247003_1 ++ [t254]) := ⟨_, rfl⟩
     replace H : ((spec_l1Cur_pick.f s0_0 t255 t256 1001).bind fun bt260 => ((spec_l1Cur_among.f s0_0 bt260.2.1 bt260.2.2 (([0, 0, 5, 10, 20, 50, bt260.1] : List Int))).bind fun bt266 => (if x247004_1.length < 17592186044416 then ((spec_l1Cur_pick.f s0_0 bt266.2.1 bt266.2.2 5).bind fun bt272 => (if x247005_1.length < 17592186044416 then (spec_l1Cur_model.l0 k1 (wrap64 (x4_1 - 1)) s0_0 bt272.2.1 bt272.2.2 t241 t242 t243 y257 (x247004_1 ++ [bt266.1]) (x247005_1 ++ [bt272.1])) else (none))) else (none)))) = some (r1, r2, r3, r4, r5, r6, r7, r8) := by first | (rw [hy257]; with_reducible exact H) | (have H2_ := (Option.bind_some _ _).symm.trans H; rw [hy257]; with_reducible exact H2_) | (have H2_ := (Option.bind_some _ _).symm.trans H; with_reducible exact H2_) | with_reducible exact H | (rw [hy257]; exact H) | exact H
     have Ny257 := Aside0.mk hy257
     clear hy257
     replace H := Option.bind_eq_some_iff.mp H
     obtain ⟨⟨t260, t261, t262⟩, A150, H⟩ := H
     replace H : ((spec_l1Cur_among.f s0_0 t261 t262 (([0, 0, 5, 10, 20, 50, t260] : List Int))).bind fun bt266 => (if x247004_1.length < 17592186044416 then ((spec_l1Cur_pick.f s0_0 bt266.2.1 bt266.2.2 5).bind fun bt272 => (if x247005_1.length < 17592186044416 then (spec_l1Cur_model.l0 k1 (wrap64 (x4_1 - 1)) s0_0 bt272.2.1 bt272.2.2 t241 t242 t243 y257 (x247004_1 ++ [bt266.1]) (x247005_1 ++ [bt272.1])) else (none))) else (none))) = some (r1, r2, r3, r4, r5, r6, r7, r8) := H
     have A15 := Aside0.mk A150
     clear A150
     obtain ⟨y263, hy263⟩ : ∃ y_ : List Int, y_ = (([0, 0, 5, 10, 20, 50, t260] : List Int)) := ⟨_, rfl⟩
     replace H : ((spec_l1Cur_among.f s0_0 t261 t262 y263).bind fun bt266 => (if x247004_1.length < 17592186044416 then ((spec_l1Cur_pick.f s0_0 bt266.2.1 bt266.2.2 5).bind fun bt272 => (if x247005_1.length < 17592186044416 then (spec_l1Cur_model.l0 k1 (wrap64 (x4_1 - 1)) s0_0 bt272.2.1 bt272.2.2 t241 t242 t243 y257 (x247004_1 ++ [bt266.1]) (x247005_1 ++ [bt272.1])) else (none))) else (none))) = some (r1, r2, r3, r4, r5, r6, r7, r8) := by first | (rw [hy263]; with_reducible exact H) | (have H2_ := (Option.bind_some _ _).symm.trans H; rw [hy263]; with_reducible exact H2_) | (have H2_ := (Option.bind_some _ _).symm.trans H; with_reducible exact H2_) | with_reducible exact H | (rw [hy263]; exact H) | exact H
     have Ny263 := Aside0.mk hy263
     clear hy263
     replace H := Option.bind_eq_some_iff.mp H
     obtain ⟨⟨t266, t267, t268⟩, A160, H⟩ := H
     replace H : (if x247004_1.length < 17592186044416 then ((spec_l1Cur_pick.f s0_0 t267 t268 5).bind fun bt272 => (if x247005_1.length < 17592186044416 then (spec_l1Cur_model.l0 k1 (wrap64 (x4_1 - 1)) s0_0 bt272.2.1 bt272.2.2 t241 t242 t243 y257 (x247004_1 ++ [t266]) (x247005_1 ++ [bt272.1])) else (none))) else (none)) = some (r1, r2, r3, r4, r5, r6, r7, r8) := H
     have A16 := Aside0.mk A160
     clear A160
     by_cases c17 : x247004_1.length < 17592186044416
     ·rw [if_pos c17] at H
      have LMc17 := Aside0.mk c17
      clear c17
      obtain ⟨y269, hy269⟩ : ∃ y_ : List Int, y_ = (x247004_1 ++ [t266]) := ⟨_, rfl⟩
      replace H : ((spec_l1Cur_pick.f s0_0 t267 t268 5).bind fun bt272 => (if x247005_1.length < 17592186044416 then (spec_l1Cur_model.l0 k1 (wrap64 (x4_1 - 1)) s0_0 bt272.2.1 bt272.2.2 t241 t242 t243 y257 y269 (x247005_1 ++ [bt272.1])) else (none))) = some (r1, r2, r3, r4, r5, r6, r7, r8) := by first | (rw [hy269]; with_reducible exact H) | (have H2_ := (Option.bind_some _ _).symm.trans H; rw [hy269]; with_reducible exact H2_) | (have H2_ := (Option.bind_some _ _).symm.trans H; with_reducible exact H2_) | with_reducible exact H | (rw [hy269]; exact H) | exact H
      have Ny269 := Aside0.mk hy269
      clear hy269
      replace H := Option.bind_eq_some_iff.mp H
      obtain ⟨⟨t272, t273, t274⟩, A180, H⟩ := H
      replace H : (if x247005_1.length < 17592186044416 then (spec_l1Cur_model.l0 k1 (wrap64 (x4_1 - 1)) s0_0 t273 t274 t241 t242 t243 y257 y269 (x247005_1 ++ [t272])) else (none)) = some (r1, r2, r3, r4, r5, r6, r7, r8) := H
      have A18 := Aside0.mk A180
      clear A180
      by_cases c19 : x247005_1.length < 17592186044416
      ·rw [if_pos c19] at H
       have LMc19 := Aside0.mk c19
       clear c19
       obtain ⟨y275, hy275⟩ : ∃ y_ : List Int, y_ = (x247005_1 ++ [t272]) := ⟨_, rfl⟩
       replace H : (spec_l1Cur_model.l0 k1 (wrap64 (x4_1 - 1)) s0_0 t273 t274 t241 t242 t243 y257 y269 y275) = some (r1, r2, r3, r4, r5, r6, r7, r8) := by first | (rw [hy275]; with_reducible exact H) | (have H2_ := (Option.bind_some _ _).symm.trans H; rw [hy275]; with_reducible exact H2_) | (have H2_ := (Option.bind_some _ _).symm.trans H; with_reducible exact H2_) | with_reducible exact H | (rw [hy275]; exact H) | exact H
       have Ny275 := Aside0.mk hy275
       clear hy275
       have H' := Aside0.mk H
       clear H
       try go_wp2
       have n0_ := Aside0.mk (Kd.R_drew HO_247003.out)
       have n1_ := Aside0.mk (Kd.R_drew HO_247004.out)
       have n2_ := Aside0.mk (Kd.R_drew HO_247005.out)
       have n3_ := Aside0.mk (blk_drew BK240.out)
       have n4_ := Aside0.mk (blk_drew BK246.out)
       have n5_ := Aside0.mk (IsS76.drew HI0.out)
       have n6_ := Aside0.mk (keep_drew HK.out)
       have n7_ := Aside0.mk (below_drew1 HB.out)
       clear HO_247003
       clear HO_247004
       clear HO_247005
       clear BK240
       clear BK246
       clear HI0
       clear HK
       clear HB
       have HO_247003 := n0_
       have HO_247004 := n1_
       have HO_247005 := n2_
       have BK240 := n3_
       have BK246 := n4_
       have HI0 := n5_
       have HK := n6_
       have HB := n7_
       clear n0_ n1_ n2_ n3_ n4_ n5_ n6_ n7_
       refine start_ (n := 11) (S := fun w' => w'.cell? ⟨gb246, 0, none⟩ = some (.int .i64 t241) ∧ w'.cell? ⟨gb246, 1, none⟩ = some (.int .i64 t242) ∧ w'.cell? ⟨gb246, 2, none⟩ = some (.int .i64 t243) ∧ w'.cell? ⟨gb246, 3, none⟩ = some (u247003) ∧ w'.cell? ⟨gb246, 4, none⟩ = some (u247004) ∧ w'.cell? ⟨gb246, 5, none⟩ = some (u247005)) (ds := [10]) #[false, false, false, false, false, false, false, false, false, false, false] (by kernel_rfl) rfl rfl ⟨(blk_cell BK246.out 0).trans rfl, (blk_cell BK246.out 1).trans rfl, (blk_cell BK246.out 2).trans rfl, (blk_cell BK246.out 3).trans rfl, (blk_cell BK246.out 4).trans rfl, (blk_cell BK246.out 5).trans rfl⟩ (fun hHeld => ?_); refine with_tabW spec_l1Cur_model.tab5 spec_l1Cur_model.bits5 (fun HT_ HW_ => ?_)
       generalize wr.drew = w20 at HO_247003 HO_247004 HO_247005 BK240 BK246 HI0 HK HB hHeld ⊢
       refine pure_ (i := 0) (N := some 15) (v := ?_) (a' := ?_) #[true, false, false, false, false, false, false, false, false, false, false] rfl rfl (any_of HT_.out (by kernel_rfl)) (fun _ _ _ h => h) (Or.inl ⟨by rfl, ?_⟩) ?_ ?_
       rotate_left
       ·intro w'
        go_simp
        with_reducible rfl
       rotate_left
       ·simp only [Act.put, List.setIfInBounds_toArray, List.set_cons_zero, List.set_cons_succ, i64_w, i32_w]
        rfl
       refine pure_ (i := 2) (N := some 17) (v := ?_) (a' := ?_) #[true, false, true, false, false, false, false, false, false, false, false] rfl rfl (any_of HT_.out (by kernel_rfl)) (fun _ _ _ h => h) (Or.inl ⟨by rfl, ?_⟩) ?_ ?_
       rotate_left
       ·intro w'
        go_simp
        with_reducible rfl
       rotate_left
       ·simp only [Act.put, List.setIfInBounds_toArray, List.set_cons_zero, List.set_cons_succ, i64_w, i32_w]
        rfl
       refine pure_ (i := 3) (N := some 18) (v := ?_) (a' := ?_) #[true, false, true, true, false, false, false, false, false, false, false] rfl rfl (any_of HT_.out (by kernel_rfl)) (fun _ _ _ h => h) (Or.inl ⟨by rfl, ?_⟩) ?_ ?_
       rotate_left
       ·intro w'
        go_simp
        with_reducible rfl
       rotate_left
       ·simp only [Act.put, List.setIfInBounds_toArray, List.set_cons_zero, List.set_cons_succ, i64_w, i32_w]
        rfl
       refine take_ (i := 1) (N := some 16) (v := ?_) (a' := ?_) #[true, true, true, true, false, false, false, false, false, false, false] rfl rfl (take_ofW HT_.out HW_.out (by kernel_rfl)) (fun _ _ _ h => h) (Or.inl ⟨by rfl, ?_⟩) hHeld ?_ ?_
       rotate_left
       ·rintro w' ⟨s0, s1, s2, s3, s4, s5⟩
        go_simp
        with_reducible rfl
       rotate_left
       ·simp only [Act.put, List.setIfInBounds_toArray, List.set_cons_zero, List.set_cons_succ, i64_w, i32_w]
        rfl
       refine one_ (i := 4) (N := some 19) #[true, true, true, true, true, false, false, false, false, false, false] rfl rfl (one_of HT_.out (by kernel_rfl)) (by decide) (fun K hK => ?_)
       refine goes_ Try.func60 (by kernel_rfl) rfl #[.pointer (some ⟨g, 0, none⟩), .int .i64 10001] (by rfl) rfl rfl (by (try simp only [List.map_toArray, List.map_cons, List.map_nil]); first | done | rfl | (simp only [List.length_drop, List.length_take]; rfl)) ?_
       with_reducible refine (spec_l1Cur_pick.calls g s0_0 x1001_1 x1002_1 10001 t248 t249 t250 w0 _ ?side1 ?side2 A12.out).mono ?_
       (case side1 => exact IsS76.q HI0)
       (case side2 => exact hbI_ HB (IsS76.ge HI0.out))
       rintro e w21 ⟨rfl, hi, hb, hk⟩
       refine ⟨_, rfl, ?_⟩
       have n0_ := IsS76.rk HI0 HO_247003 hk
       have n1_ := IsS76.rk HI0 HO_247004 hk
       have n2_ := IsS76.rk HI0 HO_247005 hk
       have n3_ := Aside0.mk (KeepBut.blk hk (kp_ BK240) NB240_0.out (by simp))
       have n4_ := Aside0.mk (KeepBut.blk hk (kp_ BK246) NB246_0.out (by simp))
       have n5_ := Aside0.mk (KeepBut.trans (hk_ HK) hk (.inl rfl))
       have n6_ := Aside0.mk (hb)
       have n7_ := Aside0.mk (hi)
       clear HO_247003
       clear HO_247004
       clear HO_247005
       clear BK240
       clear BK246
       clear HK
       clear HB
       clear HI0
       have HO_247003 := n0_
       have HO_247004 := n1_
       have HO_247005 := n2_
       have BK240 := n3_
       have BK246 := n4_
       have HK := n5_
       have HB := n6_
       have HI0 := n7_
       clear n0_ n1_ n2_ n3_ n4_ n5_ n6_ n7_
       (try clear hb)
       (try clear hb2)
       (try clear hk)
       (try clear hi)
       refine hK.out _ _ ⟨(blk_cell BK246.out 0).trans rfl, (blk_cell BK246.out 1).trans rfl, (blk_cell BK246.out 2).trans rfl, (blk_cell BK246.out 3).trans rfl, (blk_cell BK246.out 4).trans rfl, (blk_cell BK246.out 5).trans rfl⟩ (fun hHeld => ?_)
       clear hK K
       refine norm_ (a' := ?_) ?_ ?_
       rotate_left
       ·show Act.put _ (some 19) _ = _
        simp only [Act.put, List.setIfInBounds_toArray, List.set_cons_zero, List.set_cons_succ, i64_w, i32_w]
        rfl
       refine one_ (i := 5) (N := some 20) #[true, true, true, true, true, true, false, false, false, false, false] rfl rfl (one_of HT_.out (by kernel_rfl)) (by decide) (fun K hK => ?_)
       refine Kd.R_lit_step (Kd.int .i64) _ 3 ?hg (N := 20) ?hd (xs := ([0, 100, 100, 200, 500, 1000, t248] : List Int)) (inner := [.int .i64 0, .int .i64 100, .int .i64 100, .int .i64 200, .int .i64 500, .int .i64 1000, .int .i64 t248]) (ok := fun _ => True) (okp := fun _ => True) ?hr ?hp (fun _ hk => hk) trivial (Below.refl _ _) (Nat.le_refl _) (by simp) ?_; (case hd => rfl); (case hg => rfl); (case hr => first | (go_simp; done) | (go_simp; rfl)); (case hp => exact (Reps.one (show Kd.M (Kd.int .i64) _ _ _ 0 [.int .i64 0] from rfl) (Reps.one (show Kd.M (Kd.int .i64) _ _ _ 100 [.int .i64 100] from rfl) (Reps.one (show Kd.M (Kd.int .i64) _ _ _ 100 [.int .i64 100] from rfl) (Reps.one (show Kd.M (Kd.int .i64) _ _ _ 200 [.int .i64 200] from rfl) (Reps.one (show Kd.M (Kd.int .i64) _ _ _ 500 [.int .i64 500] from rfl) (Reps.one (show Kd.M (Kd.int .i64) _ _ _ 1000 [.int .i64 1000] from rfl) (Reps.one (show Kd.M (Kd.int .i64) _ _ _ t248 [.int .i64 t248] from rfl) (Reps.none _ _)))))))))
       intro v252 w22 ho23 hb hg_ hnew_
       clear hg_ hnew_
       (first | rw [← Ny251.out] at ho23 | (simp only [Int.reduceToNat] at ho23; rw [← Ny251.out] at ho23))
       have n0_ := Aside0.mk (Kd.R_elder' (Kd.R_p HO_247003) (Kd.R_base ho23) hb)
       have n1_ := Aside0.mk (Kd.R_elder' (Kd.R_p HO_247004) (Kd.R_base ho23) hb)
       have n2_ := Aside0.mk (Kd.R_elder' (Kd.R_p HO_247005) (Kd.R_base ho23) hb)
       have n3_ := Aside0.mk (Kd.R_lower (Kd.R_nw (Kd.R_nw (Kd.R_nw ho23 HO_247003) HO_247004) HO_247005) (keep_size (hk_ HK)))
       have n4_ := Aside0.mk (blk_below (kp_ BK240) hb)
       have n5_ := Aside0.mk (blk_below (kp_ BK246) hb)
       have n6_ := Aside0.mk (IsS76.below (IsS76.q HI0) hb)
       have n7_ := Aside0.mk (KeepBut.trans (hk_ HK) (KeepBut.of_below hb g none) (.inl rfl))
       have n8_ := Aside0.mk (below_step (hbI_ HB (IsS76.ge HI0.out)) hb)
       clear HO_247003
       clear HO_247004
       clear HO_247005
       clear BK240
       clear BK246
       clear HI0
       clear HK
       clear HB
       have HO_247003 := n0_
       have HO_247004 := n1_
       have HO_247005 := n2_
       have HO253 := n3_
       have BK240 := n4_
       have BK246 := n5_
       have HI0 := n6_
       have HK := n7_
       have HB := n8_
       clear n0_ n1_ n2_ n3_ n4_ n5_ n6_ n7_ n8_
       clear hb ho23
       obtain ⟨Ao24, co24, eo24⟩ := Kd.R_slice HO253.out
       (first | subst eo24 | (injection eo24 with f1_ f2_ f3_; have f4_ := f1_.symm; have f5_ := f3_.symm; clear f1_ f2_ f3_; subst f4_; subst f5_))
       refine hK.out _ _ ⟨(blk_cell BK246.out 0).trans rfl, (blk_cell BK246.out 1).trans rfl, (blk_cell BK246.out 2).trans rfl, (blk_cell BK246.out 3).trans rfl, (blk_cell BK246.out 4).trans rfl, (blk_cell BK246.out 5).trans rfl⟩ (fun hHeld => ?_)
       clear hK K
       refine norm_ (a' := ?_) ?_ ?_
       rotate_left
       ·show Act.put _ (some 20) _ = _
        simp only [Act.put, List.setIfInBounds_toArray, List.set_cons_zero, List.set_cons_succ, i64_w, i32_w]
        rfl
       refine one_ (i := 6) (N := some 21) #[true, true, true, true, true, true, true, false, false, false, false] rfl rfl (one_of HT_.out (by kernel_rfl)) (by decide) (fun K hK => ?_)
       refine goes_ Try.func57 (by kernel_rfl) rfl #[.pointer (some ⟨g, 0, none⟩), .slice Ao24 y251.length co24] (by rfl) rfl rfl (by (try simp only [List.map_toArray, List.map_cons, List.map_nil]); first | done | rfl | (simp only [List.length_drop, List.length_take]; rfl)) ?_
       with_reducible refine (spec_l1Cur_among.calls g s0_0 t249 t250 _ _ y251 t254 t255 t256 w0 _ ?side1 ?side2 ?side3 ?side4 ?side5 A13.out).mono ?_
       (case side1 => exact IsS76.q HI0)
       (case side2 => exact hbI_ HB (IsS76.ge HI0.out))
       (case side3 => exact Kd.C_o HO253)
       (case side4 => exact (Kd.R_reads' HO253.out).2.1)
       (case side5 => exact far_slice (IsS76.own_ne HI0.out HO253.out (by decide)))
       rintro e w25 ⟨rfl, hi, hb, hk⟩
       refine ⟨_, rfl, ?_⟩
       have n0_ := IsS76.rk HI0 HO_247003 hk
       have n1_ := IsS76.rk HI0 HO_247004 hk
       have n2_ := IsS76.rk HI0 HO_247005 hk
       have n3_ := Aside0.mk (KeepBut.blk hk (kp_ BK240) NB240_0.out (by simp))
       have n4_ := Aside0.mk (KeepBut.blk hk (kp_ BK246) NB246_0.out (by simp))
       have n5_ := IsS76.rk HI0 HO253 hk
       have n6_ := Aside0.mk (KeepBut.trans (hk_ HK) hk (.inl rfl))
       have n7_ := Aside0.mk (hb)
       have n8_ := Aside0.mk (hi)
       clear HO_247003
       clear HO_247004
       clear HO_247005
       clear BK240
       clear BK246
       clear HO253
       clear HK
       clear HB
       clear HI0
       have HO_247003 := n0_
       have HO_247004 := n1_
       have HO_247005 := n2_
       have BK240 := n3_
       have BK246 := n4_
       have HO253 := n5_
       have HK := n6_
       have HB := n7_
       have HI0 := n8_
       clear n0_ n1_ n2_ n3_ n4_ n5_ n6_ n7_ n8_
       (try clear hb)
       (try clear hb2)
       (try clear hk)
       (try clear hi)
       refine hK.out _ _ ⟨(blk_cell BK246.out 0).trans rfl, (blk_cell BK246.out 1).trans rfl, (blk_cell BK246.out 2).trans rfl, (blk_cell BK246.out 3).trans rfl, (blk_cell BK246.out 4).trans rfl, (blk_cell BK246.out 5).trans rfl⟩ (fun hHeld => ?_)
       clear hK K
       refine norm_ (a' := ?_) ?_ ?_
       rotate_left
       ·show Act.put _ (some 21) _ = _
        simp only [Act.put, List.setIfInBounds_toArray, List.set_cons_zero, List.set_cons_succ, i64_w, i32_w]
        rfl
       refine one_ (i := 7) (N := some 22) #[true, true, true, true, true, true, true, true, false, false, false] rfl rfl (one_of HT_.out (by kernel_rfl)) (by decide) (fun K hK => ?_)
       refine value_ (w1 := ?_) (v := ?_) (by rfl) rfl ?_ ?_
       rotate_left 2
       ·go_simp
        constructor
        ·rfl
        ·rfl
       refine hK.out _ _ ⟨(blk_cell (blk_alloc BK246.out _) 0).trans rfl, (blk_cell (blk_alloc BK246.out _) 1).trans rfl, (blk_cell (blk_alloc BK246.out _) 2).trans rfl, (blk_cell (blk_alloc BK246.out _) 3).trans rfl, (blk_cell (blk_alloc BK246.out _) 4).trans rfl, (blk_cell (blk_alloc BK246.out _) 5).trans rfl⟩ (fun hHeld => ?_)
       clear hK K
       refine norm_ (a' := ?_) ?_ ?_
       rotate_left
       ·show Act.put _ (some 22) _ = _
        simp only [Act.put, List.setIfInBounds_toArray, List.set_cons_zero, List.set_cons_succ, i64_w, i32_w]
        rfl
       refine one_ (i := 8) (N := some 23) #[true, true, true, true, true, true, true, true, true, false, false] rfl rfl (one_of HT_.out (by kernel_rfl)) (by decide) (fun K hK => ?_)
       refine Kd.R_append_step (Kd.int .i64) w.heap.size (by rfl) (.tmp 16) (.tmp 22) 24 3 (.int .i64 0) 8 rfl Try.underlying24 info3 rfl (by decide) (by omega) u247003 x247003_1 t254 [.int .i64 t254] (fun k_ => some k_ ≠ (u247004 : Value).ownBlock ∧ some k_ ≠ (u247005 : Value).ownBlock ∧ some k_ ≠ (.slice Ao24 y251.length co24 : Value).ownBlock) (fun _ => False) rfl rfl ?aP (fun _ hk => hk.elim) ?aF ?aO (Below.refl _ _) ?aS ?aL ?_
       (case aP => exact rfl)
       (case aF => exact (fun k_ hk => ⟨Kd.fresh' (Kd.R_lt (Kd.R_p HO_247004)) k_ hk, Kd.fresh' (Kd.R_lt (Kd.R_p HO_247005)) k_ hk, Kd.fresh' (Kd.R_lt (Kd.R_p HO253)) k_ hk⟩))
       (case aO => exact (Kd.R_pp (Kd.R_mono HO_247003.out (fun _ hk => ⟨hk.1.1, ⟨hk.1.2, hk.2⟩⟩))))
       (case aS => exact (keep_size (hk_ HK)))
       (case aL => have := LMc14.out; omega)
       intro v258 w26 ho hb hg hat
       rw [← Ny257.out] at ho
       have n0_ := Aside0.mk (Kd.R_after (ok := (fun k_ => some k_ ≠ (u247005 : Value).ownBlock ∧ some k_ ≠ (.slice Ao24 y251.length co24 : Value).ownBlock)) (Kd.R_pp (Kd.R_mono HO_247004.out (fun _ hk => ⟨⟨hk.1.2, hk.2⟩, hk.1.1⟩))) hg hat)
       have n1_ := Aside0.mk (Kd.R_after (ok := (fun k_ => some k_ ≠ (u247004 : Value).ownBlock ∧ some k_ ≠ (.slice Ao24 y251.length co24 : Value).ownBlock)) (Kd.R_pp (Kd.R_mono HO_247005.out (fun _ hk => ⟨⟨hk.1.2, hk.2⟩, hk.1.1⟩))) hg hat)
       have n2_ := Aside0.mk (blk_grown (kp_ BK240) hg (Kd.R_ne HO_247003.out BK240.out (by decide)))
       have n3_ := Aside0.mk (blk_grown (kp_ BK246) hg (Kd.R_ne HO_247003.out BK246.out (by decide)))
       have n4_ := Aside0.mk (IsS76.grown (IsS76.q HI0) hg (IsS76.own_ne HI0.out HO_247003.out (by decide)))
       have n5_ := Aside0.mk (Kd.R_after (ok := (fun k_ => some k_ ≠ (u247004 : Value).ownBlock ∧ some k_ ≠ (u247005 : Value).ownBlock)) (Kd.R_pp (Kd.R_mono HO253.out (fun _ hk => ⟨⟨hk.1.2, hk.2⟩, hk.1.1.2⟩))) hg hat)
       have n6_ := Aside0.mk (below_weaken (hbI_ HB (IsS76.ge HI0.out)) HL.out hb)
       have n7_ := Aside0.mk (KeepBut.trans (hk_ HK) (KeepBut.of_grown hg g) (Kd.R_base2 HO_247003.out))
       have n8_ := Aside0.mk (ho)
       clear HO_247004
       clear HO_247005
       clear BK240
       clear BK246
       clear HI0
       clear HO253
       clear HB
       clear HK
       clear HO_247003
       have HO_247004 := n0_
       have HO_247005 := n1_
       have BK240 := n2_
       have BK246 := n3_
       have HI0 := n4_
       have HO253 := n5_
       have HB := n6_
       have HK := n7_
       have HO259 := n8_
       clear n0_ n1_ n2_ n3_ n4_ n5_ n6_ n7_ n8_
       clear ho hb hg hat
       obtain ⟨Ao27, co27, eo27⟩ := Kd.R_slice HO259.out
       (first | subst eo27 | (injection eo27 with f1_ f2_ f3_; have f4_ := f1_.symm; have f5_ := f3_.symm; clear f1_ f2_ f3_; subst f4_; subst f5_))
       refine hK.out _ _ ⟨(blk_cell BK246.out 0).trans rfl, (blk_cell BK246.out 1).trans rfl, (blk_cell BK246.out 2).trans rfl, (blk_cell BK246.out 3).trans rfl, (blk_cell BK246.out 4).trans rfl, (blk_cell BK246.out 5).trans rfl⟩ (fun hHeld => ?_)
       clear hK K
       refine norm_ (a' := ?_) ?_ ?_
       rotate_left
       ·show Act.put _ (some 23) _ = _
        simp only [Act.put, List.setIfInBounds_toArray, List.set_cons_zero, List.set_cons_succ, i64_w, i32_w]
        rfl
       refine pure_ (i := 9) (N := some 24) (v := ?_) (a' := ?_) #[true, true, true, true, true, true, true, true, true, true, false] rfl rfl (any_of HT_.out (by kernel_rfl)) (fun _ _ _ h => h) (Or.inl ⟨by rfl, ?_⟩) ?_ ?_
       rotate_left
       ·intro w'
        go_simp
        with_reducible rfl
       rotate_left
       ·simp only [Act.put, List.setIfInBounds_toArray, List.set_cons_zero, List.set_cons_succ, i64_w, i32_w]
        rfl
       refine last_ (i := 10) (N := none) #[true, true, true, true, true, true, true, true, true, true, true] rfl rfl (one_of HT_.out (by kernel_rfl)) (by decide) (fun K hK => ?_)
       have hs28 : w26.cell? ⟨gb246, 3, none⟩ = some (u247003) := (blk_cell BK246.out 3).trans rfl
       have hfs28 := blk_frozen BK246.out 3
       have hns28_0 := NB240_246.out
       have hms28_0 := NB246_240.out
       refine skip_ (w1 := ?_) (by rfl) rfl ?_ ?_
       rotate_left
       ·go_simp
        rfl
       refine hK.out _ _ ?_
       clear hK K
       refine done_ (done_of HT_.out (by kernel_rfl)) ?_
       (try clear HO253)
       try go_wp2
       have n0_ : Aside0 (Kd.R (Kd.int .i64) 3 (w26.setCell ⟨gb246, 3, none⟩ (.slice Ao27 y257.length co27)) w.heap.size (fun k_ => some k_ ≠ (u247005 : Value).ownBlock ∧ some k_ ≠ (.slice Ao27 y257.length co27 : Value).ownBlock) u247004 x247004_1) := ⟨Kd.R_mono (Kd.R_s HO_247004 BK246) (fun _ hk => ⟨hk.1.1, hk.2⟩)⟩
       have n1_ : Aside0 (Kd.R (Kd.int .i64) 3 (w26.setCell ⟨gb246, 3, none⟩ (.slice Ao27 y257.length co27)) w.heap.size (fun k_ => some k_ ≠ (u247004 : Value).ownBlock ∧ some k_ ≠ (.slice Ao27 y257.length co27 : Value).ownBlock) u247005 x247005_1) := ⟨Kd.R_mono (Kd.R_s HO_247005 BK246) (fun _ hk => ⟨hk.1.1, hk.2⟩)⟩
       have n2_ : Aside0 (Kd.R (Kd.int .i64) 3 (w26.setCell ⟨gb246, 3, none⟩ (.slice Ao27 y257.length co27)) w.heap.size (fun k_ => some k_ ≠ (u247004 : Value).ownBlock ∧ some k_ ≠ (u247005 : Value).ownBlock) (.slice Ao27 y257.length co27) y257) := ⟨Kd.R_mono (Kd.R_s HO259 BK246) (fun _ hk => ⟨hk.1, hk.2.1⟩)⟩
       have n3_ : Aside0 ((w26.setCell ⟨gb246, 3, none⟩ (.slice Ao27 y257.length co27)).heap[gb240]? = some (.cells #[.int .i64 0, .int .i64 0, .int .i64 0, .slice none 0 0, .slice none 0 0, .slice none 0 0] 30 (0, 0))) := ⟨kf_ BK240 NB240_246⟩
       have n4_ : Aside0 ((w26.setCell ⟨gb246, 3, none⟩ (.slice Ao27 y257.length co27)).heap[gb246]? = some (.cells #[.int .i64 t241, .int .i64 t242, .int .i64 t243, .slice Ao27 y257.length co27, u247004, u247005] 30 (0, 0))) := ⟨kpq_ (kputs BK246 [(3, _)])⟩
       have n5_ : Aside0 (IsS76 w0 (w26.setCell ⟨gb246, 3, none⟩ (.slice Ao27 y257.length co27)) g s0_0 t255 t256) := ⟨IsS76.q HI0⟩
       have n6_ : Aside0 (KeepBut w (w26.setCell ⟨gb246, 3, none⟩ (.slice Ao27 y257.length co27)) g none) := ⟨hk_ HK⟩
       have n7_ : Aside0 (Below w0.heap.size w0 (w26.setCell ⟨gb246, 3, none⟩ (.slice Ao27 y257.length co27))) := ⟨hbI_ HB (IsS76.ge HI0.out)⟩
       (try clear HO_247004)
       (try clear HO_247005)
       (try clear HO259)
       (try clear BK240)
       (try clear BK246)
       (try clear HI0)
       (try clear HK)
       (try clear HB)
       generalize (w26.setCell ⟨gb246, 3, none⟩ (.slice Ao27 y257.length co27)) = w29 at n0_ n1_ n2_ n3_ n4_ n5_ n6_ n7_ ⊢
       have HO_247004 := n0_
       have HO_247005 := n1_
       have HO259 := n2_
       have BK240 := n3_
       have BK246 := n4_
       have HI0 := n5_
       have HK := n6_
       have HB := n7_
       clear n0_ n1_ n2_ n3_ n4_ n5_ n6_ n7_
       have n0_ := Aside0.mk (Kd.R_drew HO_247004.out)
       have n1_ := Aside0.mk (Kd.R_drew HO_247005.out)
       have n2_ := Aside0.mk (Kd.R_drew HO259.out)
       have n3_ := Aside0.mk (blk_drew BK240.out)
       have n4_ := Aside0.mk (blk_drew BK246.out)
       have n5_ := Aside0.mk (IsS76.drew HI0.out)
       have n6_ := Aside0.mk (keep_drew HK.out)
       have n7_ := Aside0.mk (below_drew1 HB.out)
       clear HO_247004
       clear HO_247005
       clear HO259
       clear BK240
       clear BK246
       clear HI0
       clear HK
       clear HB
       have HO_247004 := n0_
       have HO_247005 := n1_
       have HO259 := n2_
       have BK240 := n3_
       have BK246 := n4_
       have HI0 := n5_
       have HK := n6_
       have HB := n7_
       clear n0_ n1_ n2_ n3_ n4_ n5_ n6_ n7_
       refine start_ (n := 11) (S := fun w' => w'.cell? ⟨gb246, 0, none⟩ = some (.int .i64 t241) ∧ w'.cell? ⟨gb246, 1, none⟩ = some (.int .i64 t242) ∧ w'.cell? ⟨gb246, 2, none⟩ = some (.int .i64 t243) ∧ w'.cell? ⟨gb246, 3, none⟩ = some (.slice Ao27 y257.length co27) ∧ w'.cell? ⟨gb246, 4, none⟩ = some (u247004) ∧ w'.cell? ⟨gb246, 5, none⟩ = some (u247005)) (ds := [10]) #[false, false, false, false, false, false, false, false, false, false, false] (by kernel_rfl) rfl rfl ⟨(blk_cell BK246.out 0).trans rfl, (blk_cell BK246.out 1).trans rfl, (blk_cell BK246.out 2).trans rfl, (blk_cell BK246.out 3).trans rfl, (blk_cell BK246.out 4).trans rfl, (blk_cell BK246.out 5).trans rfl⟩ (fun hHeld => ?_); refine with_tabW spec_l1Cur_model.tab6 spec_l1Cur_model.bits6 (fun HT_ HW_ => ?_)
       generalize w29.drew = w30 at HO_247004 HO_247005 HO259 BK240 BK246 HI0 HK HB hHeld ⊢
       refine pure_ (i := 0) (N := some 25) (v := ?_) (a' := ?_) #[true, false, false, false, false, false, false, false, false, false, false] rfl rfl (any_of HT_.out (by kernel_rfl)) (fun _ _ _ h => h) (Or.inl ⟨by rfl, ?_⟩) ?_ ?_
       rotate_left
       ·intro w'
        go_simp
        with_reducible rfl
       rotate_left
       ·simp only [Act.put, List.setIfInBounds_toArray, List.set_cons_zero, List.set_cons_succ, i64_w, i32_w]
        rfl
       refine pure_ (i := 2) (N := some 27) (v := ?_) (a' := ?_) #[true, false, true, false, false, false, false, false, false, false, false] rfl rfl (any_of HT_.out (by kernel_rfl)) (fun _ _ _ h => h) (Or.inl ⟨by rfl, ?_⟩) ?_ ?_
       rotate_left
       ·intro w'
        go_simp
        with_reducible rfl
       rotate_left
       ·simp only [Act.put, List.setIfInBounds_toArray, List.set_cons_zero, List.set_cons_succ, i64_w, i32_w]
        rfl
       refine pure_ (i := 3) (N := some 28) (v := ?_) (a' := ?_) #[true, false, true, true, false, false, false, false, false, false, false] rfl rfl (any_of HT_.out (by kernel_rfl)) (fun _ _ _ h => h) (Or.inl ⟨by rfl, ?_⟩) ?_ ?_
       rotate_left
       ·intro w'
        go_simp
        with_reducible rfl
       rotate_left
       ·simp only [Act.put, List.setIfInBounds_toArray, List.set_cons_zero, List.set_cons_succ, i64_w, i32_w]
        rfl
       refine take_ (i := 1) (N := some 26) (v := ?_) (a' := ?_) #[true, true, true, true, false, false, false, false, false, false, false] rfl rfl (take_ofW HT_.out HW_.out (by kernel_rfl)) (fun _ _ _ h => h) (Or.inl ⟨by rfl, ?_⟩) hHeld ?_ ?_
       rotate_left
       ·rintro w' ⟨s0, s1, s2, s3, s4, s5⟩
        go_simp
        with_reducible rfl
       rotate_left
       ·simp only [Act.put, List.setIfInBounds_toArray, List.set_cons_zero, List.set_cons_succ, i64_w, i32_w]
        rfl
       refine one_ (i := 4) (N := some 29) #[true, true, true, true, true, false, false, false, false, false, false] rfl rfl (one_of HT_.out (by kernel_rfl)) (by decide) (fun K hK => ?_)
       refine goes_ Try.func60 (by kernel_rfl) rfl #[.pointer (some ⟨g, 0, none⟩), .int .i64 1001] (by rfl) rfl rfl (by (try simp only [List.map_toArray, List.map_cons, List.map_nil]); first | done | rfl | (simp only [List.length_drop, List.length_take]; rfl)) ?_
       with_reducible refine (spec_l1Cur_pick.calls g s0_0 t255 t256 1001 t260 t261 t262 w0 _ ?side1 ?side2 A15.out).mono ?_
       (case side1 => exact IsS76.q HI0)
       (case side2 => exact hbI_ HB (IsS76.ge HI0.out))
       rintro e w31 ⟨rfl, hi, hb, hk⟩
       refine ⟨_, rfl, ?_⟩
       have n0_ := IsS76.rk HI0 HO_247004 hk
       have n1_ := IsS76.rk HI0 HO_247005 hk
       have n2_ := Aside0.mk (KeepBut.blk hk (kp_ BK240) NB240_0.out (by simp))
       have n3_ := Aside0.mk (KeepBut.blk hk (kp_ BK246) NB246_0.out (by simp))
       have n4_ := IsS76.rk HI0 HO259 hk
       have n5_ := Aside0.mk (KeepBut.trans (hk_ HK) hk (.inl rfl))
       have n6_ := Aside0.mk (hb)
       have n7_ := Aside0.mk (hi)
       clear HO_247004
       clear HO_247005
       clear BK240
       clear BK246
       clear HO259
       clear HK
       clear HB
       clear HI0
       have HO_247004 := n0_
       have HO_247005 := n1_
       have BK240 := n2_
       have BK246 := n3_
       have HO259 := n4_
       have HK := n5_
       have HB := n6_
       have HI0 := n7_
       clear n0_ n1_ n2_ n3_ n4_ n5_ n6_ n7_
       (try clear hb)
       (try clear hb2)
       (try clear hk)
       (try clear hi)
       refine hK.out _ _ ⟨(blk_cell BK246.out 0).trans rfl, (blk_cell BK246.out 1).trans rfl, (blk_cell BK246.out 2).trans rfl, (blk_cell BK246.out 3).trans rfl, (blk_cell BK246.out 4).trans rfl, (blk_cell BK246.out 5).trans rfl⟩ (fun hHeld => ?_)
       clear hK K
       refine norm_ (a' := ?_) ?_ ?_
       rotate_left
       ·show Act.put _ (some 29) _ = _
        simp only [Act.put, List.setIfInBounds_toArray, List.set_cons_zero, List.set_cons_succ, i64_w, i32_w]
        rfl
       refine one_ (i := 5) (N := some 30) #[true, true, true, true, true, true, false, false, false, false, false] rfl rfl (one_of HT_.out (by kernel_rfl)) (by decide) (fun K hK => ?_)
       refine Kd.R_lit_step (Kd.int .i64) _ 3 ?hg (N := 30) ?hd (xs := ([0, 0, 5, 10, 20, 50, t260] : List Int)) (inner := [.int .i64 0, .int .i64 0, .int .i64 5, .int .i64 10, .int .i64 20, .int .i64 50, .int .i64 t260]) (ok := fun _ => True) (okp := fun _ => True) ?hr ?hp (fun _ hk => hk) trivial (Below.refl _ _) (Nat.le_refl _) (by simp) ?_; (case hd => rfl); (case hg => rfl); (case hr => first | (go_simp; done) | (go_simp; rfl)); (case hp => exact (Reps.one (show Kd.M (Kd.int .i64) _ _ _ 0 [.int .i64 0] from rfl) (Reps.one (show Kd.M (Kd.int .i64) _ _ _ 0 [.int .i64 0] from rfl) (Reps.one (show Kd.M (Kd.int .i64) _ _ _ 5 [.int .i64 5] from rfl) (Reps.one (show Kd.M (Kd.int .i64) _ _ _ 10 [.int .i64 10] from rfl) (Reps.one (show Kd.M (Kd.int .i64) _ _ _ 20 [.int .i64 20] from rfl) (Reps.one (show Kd.M (Kd.int .i64) _ _ _ 50 [.int .i64 50] from rfl) (Reps.one (show Kd.M (Kd.int .i64) _ _ _ t260 [.int .i64 t260] from rfl) (Reps.none _ _)))))))))
       intro v264 w32 ho33 hb hg_ hnew_
       clear hg_ hnew_
       (first | rw [← Ny263.out] at ho33 | (simp only [Int.reduceToNat] at ho33; rw [← Ny263.out] at ho33))
       have n0_ := Aside0.mk (Kd.R_elder' (Kd.R_p HO_247004) (Kd.R_base ho33) hb)
       have n1_ := Aside0.mk (Kd.R_elder' (Kd.R_p HO_247005) (Kd.R_base ho33) hb)
       have n2_ := Aside0.mk (Kd.R_elder' (Kd.R_p HO259) (Kd.R_base ho33) hb)
       have n3_ := Aside0.mk (Kd.R_lower (Kd.R_nw (Kd.R_nw (Kd.R_nw ho33 HO_247004) HO_247005) HO259) (keep_size (hk_ HK)))
       have n4_ := Aside0.mk (blk_below (kp_ BK240) hb)
       have n5_ := Aside0.mk (blk_below (kp_ BK246) hb)
       have n6_ := Aside0.mk (IsS76.below (IsS76.q HI0) hb)
       have n7_ := Aside0.mk (KeepBut.trans (hk_ HK) (KeepBut.of_below hb g none) (.inl rfl))
       have n8_ := Aside0.mk (below_step (hbI_ HB (IsS76.ge HI0.out)) hb)
       clear HO_247004
       clear HO_247005
       clear HO259
       clear BK240
       clear BK246
       clear HI0
       clear HK
       clear HB
       have HO_247004 := n0_
       have HO_247005 := n1_
       have HO259 := n2_
       have HO265 := n3_
       have BK240 := n4_
       have BK246 := n5_
       have HI0 := n6_
       have HK := n7_
       have HB := n8_
       clear n0_ n1_ n2_ n3_ n4_ n5_ n6_ n7_ n8_
       clear hb ho33
       obtain ⟨Ao34, co34, eo34⟩ := Kd.R_slice HO265.out
       (first | subst eo34 | (injection eo34 with f1_ f2_ f3_; have f4_ := f1_.symm; have f5_ := f3_.symm; clear f1_ f2_ f3_; subst f4_; subst f5_))
       refine hK.out _ _ ⟨(blk_cell BK246.out 0).trans rfl, (blk_cell BK246.out 1).trans rfl, (blk_cell BK246.out 2).trans rfl, (blk_cell BK246.out 3).trans rfl, (blk_cell BK246.out 4).trans rfl, (blk_cell BK246.out 5).trans rfl⟩ (fun hHeld => ?_)
       clear hK K
       refine norm_ (a' := ?_) ?_ ?_
       rotate_left
       ·show Act.put _ (some 30) _ = _
        simp only [Act.put, List.setIfInBounds_toArray, List.set_cons_zero, List.set_cons_succ, i64_w, i32_w]
        rfl
       refine one_ (i := 6) (N := some 31) #[true, true, true, true, true, true, true, false, false, false, false] rfl rfl (one_of HT_.out (by kernel_rfl)) (by decide) (fun K hK => ?_)
       refine goes_ Try.func57 (by kernel_rfl) rfl #[.pointer (some ⟨g, 0, none⟩), .slice Ao34 y263.length co34] (by rfl) rfl rfl (by (try simp only [List.map_toArray, List.map_cons, List.map_nil]); first | done | rfl | (simp only [List.length_drop, List.length_take]; rfl)) ?_
       with_reducible refine (spec_l1Cur_among.calls g s0_0 t261 t262 _ _ y263 t266 t267 t268 w0 _ ?side1 ?side2 ?side3 ?side4 ?side5 A16.out).mono ?_
       (case side1 => exact IsS76.q HI0)
       (case side2 => exact hbI_ HB (IsS76.ge HI0.out))
       (case side3 => exact Kd.C_o HO265)
       (case side4 => exact (Kd.R_reads' HO265.out).2.1)
       (case side5 => exact far_slice (IsS76.own_ne HI0.out HO265.out (by decide)))
       rintro e w35 ⟨rfl, hi, hb, hk⟩
       refine ⟨_, rfl, ?_⟩
       have n0_ := IsS76.rk HI0 HO_247004 hk
       have n1_ := IsS76.rk HI0 HO_247005 hk
       have n2_ := Aside0.mk (KeepBut.blk hk (kp_ BK240) NB240_0.out (by simp))
       have n3_ := Aside0.mk (KeepBut.blk hk (kp_ BK246) NB246_0.out (by simp))
       have n4_ := IsS76.rk HI0 HO259 hk
       have n5_ := IsS76.rk HI0 HO265 hk
       have n6_ := Aside0.mk (KeepBut.trans (hk_ HK) hk (.inl rfl))
       have n7_ := Aside0.mk (hb)
       have n8_ := Aside0.mk (hi)
       clear HO_247004
       clear HO_247005
       clear BK240
       clear BK246
       clear HO259
       clear HO265
       clear HK
       clear HB
       clear HI0
       have HO_247004 := n0_
       have HO_247005 := n1_
       have BK240 := n2_
       have BK246 := n3_
       have HO259 := n4_
       have HO265 := n5_
       have HK := n6_
       have HB := n7_
       have HI0 := n8_
       clear n0_ n1_ n2_ n3_ n4_ n5_ n6_ n7_ n8_
       (try clear hb)
       (try clear hb2)
       (try clear hk)
       (try clear hi)
       refine hK.out _ _ ⟨(blk_cell BK246.out 0).trans rfl, (blk_cell BK246.out 1).trans rfl, (blk_cell BK246.out 2).trans rfl, (blk_cell BK246.out 3).trans rfl, (blk_cell BK246.out 4).trans rfl, (blk_cell BK246.out 5).trans rfl⟩ (fun hHeld => ?_)
       clear hK K
       refine norm_ (a' := ?_) ?_ ?_
       rotate_left
       ·show Act.put _ (some 31) _ = _
        simp only [Act.put, List.setIfInBounds_toArray, List.set_cons_zero, List.set_cons_succ, i64_w, i32_w]
        rfl
       refine one_ (i := 7) (N := some 32) #[true, true, true, true, true, true, true, true, false, false, false] rfl rfl (one_of HT_.out (by kernel_rfl)) (by decide) (fun K hK => ?_)
       refine value_ (w1 := ?_) (v := ?_) (by rfl) rfl ?_ ?_
       rotate_left 2
       ·go_simp
        constructor
        ·rfl
        ·rfl
       refine hK.out _ _ ⟨(blk_cell (blk_alloc BK246.out _) 0).trans rfl, (blk_cell (blk_alloc BK246.out _) 1).trans rfl, (blk_cell (blk_alloc BK246.out _) 2).trans rfl, (blk_cell (blk_alloc BK246.out _) 3).trans rfl, (blk_cell (blk_alloc BK246.out _) 4).trans rfl, (blk_cell (blk_alloc BK246.out _) 5).trans rfl⟩ (fun hHeld => ?_)
       clear hK K
       refine norm_ (a' := ?_) ?_ ?_
       rotate_left
       ·show Act.put _ (some 32) _ = _
        simp only [Act.put, List.setIfInBounds_toArray, List.set_cons_zero, List.set_cons_succ, i64_w, i32_w]
        rfl
       refine one_ (i := 8) (N := some 33) #[true, true, true, true, true, true, true, true, true, false, false] rfl rfl (one_of HT_.out (by kernel_rfl)) (by decide) (fun K hK => ?_)
       refine Kd.R_append_step (Kd.int .i64) w.heap.size (by rfl) (.tmp 26) (.tmp 32) 24 3 (.int .i64 0) 8 rfl Try.underlying24 info3 rfl (by decide) (by omega) u247004 x247004_1 t266 [.int .i64 t266] (fun k_ => some k_ ≠ (u247005 : Value).ownBlock ∧ some k_ ≠ (.slice Ao27 y257.length co27 : Value).ownBlock ∧ some k_ ≠ (.slice Ao34 y263.length co34 : Value).ownBlock) (fun _ => False) rfl rfl ?aP (fun _ hk => hk.elim) ?aF ?aO (Below.refl _ _) ?aS ?aL ?_
       (case aP => exact rfl)
       (case aF => exact (fun k_ hk => ⟨Kd.fresh' (Kd.R_lt (Kd.R_p HO_247005)) k_ hk, Kd.fresh' (Kd.R_lt (Kd.R_p HO259)) k_ hk, Kd.fresh' (Kd.R_lt (Kd.R_p HO265)) k_ hk⟩))
       (case aO => exact (Kd.R_pp (Kd.R_mono HO_247004.out (fun _ hk => ⟨hk.1.1, ⟨hk.1.2, hk.2⟩⟩))))
       (case aS => exact (keep_size (hk_ HK)))
       (case aL => have := LMc17.out; omega)
       intro v270 w36 ho hb hg hat
       rw [← Ny269.out] at ho
       have n0_ := Aside0.mk (Kd.R_after (ok := (fun k_ => some k_ ≠ (.slice Ao27 y257.length co27 : Value).ownBlock ∧ some k_ ≠ (.slice Ao34 y263.length co34 : Value).ownBlock)) (Kd.R_pp (Kd.R_mono HO_247005.out (fun _ hk => ⟨⟨hk.1.2, hk.2⟩, hk.1.1⟩))) hg hat)
       have n1_ := Aside0.mk (blk_grown (kp_ BK240) hg (Kd.R_ne HO_247004.out BK240.out (by decide)))
       have n2_ := Aside0.mk (blk_grown (kp_ BK246) hg (Kd.R_ne HO_247004.out BK246.out (by decide)))
       have n3_ := Aside0.mk (IsS76.grown (IsS76.q HI0) hg (IsS76.own_ne HI0.out HO_247004.out (by decide)))
       have n4_ := Aside0.mk (Kd.R_after (ok := (fun k_ => some k_ ≠ (u247005 : Value).ownBlock ∧ some k_ ≠ (.slice Ao34 y263.length co34 : Value).ownBlock)) (Kd.R_pp (Kd.R_mono HO259.out (fun _ hk => ⟨⟨hk.1.2, hk.2⟩, hk.1.1⟩))) hg hat)
       have n5_ := Aside0.mk (Kd.R_after (ok := (fun k_ => some k_ ≠ (u247005 : Value).ownBlock ∧ some k_ ≠ (.slice Ao27 y257.length co27 : Value).ownBlock)) (Kd.R_pp (Kd.R_mono HO265.out (fun _ hk => ⟨⟨hk.1.2, hk.2⟩, hk.1.1.2⟩))) hg hat)
       have n6_ := Aside0.mk (below_weaken (hbI_ HB (IsS76.ge HI0.out)) HL.out hb)
       have n7_ := Aside0.mk (KeepBut.trans (hk_ HK) (KeepBut.of_grown hg g) (Kd.R_base2 HO_247004.out))
       have n8_ := Aside0.mk (ho)
       clear HO_247005
       clear BK240
       clear BK246
       clear HI0
       clear HO259
       clear HO265
       clear HB
       clear HK
       clear HO_247004
       have HO_247005 := n0_
       have BK240 := n1_
       have BK246 := n2_
       have HI0 := n3_
       have HO259 := n4_
       have HO265 := n5_
       have HB := n6_
       have HK := n7_
       have HO271 := n8_
       clear n0_ n1_ n2_ n3_ n4_ n5_ n6_ n7_ n8_
       clear ho hb hg hat
       obtain ⟨Ao37, co37, eo37⟩ := Kd.R_slice HO271.out
       (first | subst eo37 | (injection eo37 with f1_ f2_ f3_; have f4_ := f1_.symm; have f5_ := f3_.symm; clear f1_ f2_ f3_; subst f4_; subst f5_))
       refine hK.out _ _ ⟨(blk_cell BK246.out 0).trans rfl, (blk_cell BK246.out 1).trans rfl, (blk_cell BK246.out 2).trans rfl, (blk_cell BK246.out 3).trans rfl, (blk_cell BK246.out 4).trans rfl, (blk_cell BK246.out 5).trans rfl⟩ (fun hHeld => ?_)
       clear hK K
       refine norm_ (a' := ?_) ?_ ?_
       rotate_left
       ·show Act.put _ (some 33) _ = _
        simp only [Act.put, List.setIfInBounds_toArray, List.set_cons_zero, List.set_cons_succ, i64_w, i32_w]
        rfl
       refine pure_ (i := 9) (N := some 34) (v := ?_) (a' := ?_) #[true, true, true, true, true, true, true, true, true, true, false] rfl rfl (any_of HT_.out (by kernel_rfl)) (fun _ _ _ h => h) (Or.inl ⟨by rfl, ?_⟩) ?_ ?_
       rotate_left
       ·intro w'
        go_simp
        with_reducible rfl
       rotate_left
       ·simp only [Act.put, List.setIfInBounds_toArray, List.set_cons_zero, List.set_cons_succ, i64_w, i32_w]
        rfl
       refine last_ (i := 10) (N := none) #[true, true, true, true, true, true, true, true, true, true, true] rfl rfl (one_of HT_.out (by kernel_rfl)) (by decide) (fun K hK => ?_)
       have hs38 : w36.cell? ⟨gb246, 4, none⟩ = some (u247004) := (blk_cell BK246.out 4).trans rfl
       have hfs38 := blk_frozen BK246.out 4
       have hns38_0 := NB240_246.out
       have hms38_0 := NB246_240.out
       refine skip_ (w1 := ?_) (by rfl) rfl ?_ ?_
       rotate_left
       ·go_simp
        rfl
       refine hK.out _ _ ?_
       clear hK K
       refine done_ (done_of HT_.out (by kernel_rfl)) ?_
       (try clear HO265)
       try go_wp2
       have n0_ : Aside0 (Kd.R (Kd.int .i64) 3 (w36.setCell ⟨gb246, 4, none⟩ (.slice Ao37 y269.length co37)) w.heap.size (fun k_ => some k_ ≠ (.slice Ao27 y257.length co27 : Value).ownBlock ∧ some k_ ≠ (.slice Ao37 y269.length co37 : Value).ownBlock) u247005 x247005_1) := ⟨Kd.R_mono (Kd.R_s HO_247005 BK246) (fun _ hk => ⟨hk.1.1, hk.2⟩)⟩
       have n1_ : Aside0 (Kd.R (Kd.int .i64) 3 (w36.setCell ⟨gb246, 4, none⟩ (.slice Ao37 y269.length co37)) w.heap.size (fun k_ => some k_ ≠ (u247005 : Value).ownBlock ∧ some k_ ≠ (.slice Ao37 y269.length co37 : Value).ownBlock) (.slice Ao27 y257.length co27) y257) := ⟨Kd.R_mono (Kd.R_s HO259 BK246) (fun _ hk => ⟨hk.1.1, hk.2⟩)⟩
       have n2_ : Aside0 (Kd.R (Kd.int .i64) 3 (w36.setCell ⟨gb246, 4, none⟩ (.slice Ao37 y269.length co37)) w.heap.size (fun k_ => some k_ ≠ (u247005 : Value).ownBlock ∧ some k_ ≠ (.slice Ao27 y257.length co27 : Value).ownBlock) (.slice Ao37 y269.length co37) y269) := ⟨Kd.R_mono (Kd.R_s HO271 BK246) (fun _ hk => ⟨hk.1, hk.2.1⟩)⟩
       have n3_ : Aside0 ((w36.setCell ⟨gb246, 4, none⟩ (.slice Ao37 y269.length co37)).heap[gb240]? = some (.cells #[.int .i64 0, .int .i64 0, .int .i64 0, .slice none 0 0, .slice none 0 0, .slice none 0 0] 30 (0, 0))) := ⟨kf_ BK240 NB240_246⟩
       have n4_ : Aside0 ((w36.setCell ⟨gb246, 4, none⟩ (.slice Ao37 y269.length co37)).heap[gb246]? = some (.cells #[.int .i64 t241, .int .i64 t242, .int .i64 t243, .slice Ao27 y257.length co27, .slice Ao37 y269.length co37, u247005] 30 (0, 0))) := ⟨kpq_ (kputs BK246 [(4, _)])⟩
       have n5_ : Aside0 (IsS76 w0 (w36.setCell ⟨gb246, 4, none⟩ (.slice Ao37 y269.length co37)) g s0_0 t267 t268) := ⟨IsS76.q HI0⟩
       have n6_ : Aside0 (KeepBut w (w36.setCell ⟨gb246, 4, none⟩ (.slice Ao37 y269.length co37)) g none) := ⟨hk_ HK⟩
       have n7_ : Aside0 (Below w0.heap.size w0 (w36.setCell ⟨gb246, 4, none⟩ (.slice Ao37 y269.length co37))) := ⟨hbI_ HB (IsS76.ge HI0.out)⟩
       (try clear HO_247005)
       (try clear HO259)
       (try clear HO271)
       (try clear BK240)
       (try clear BK246)
       (try clear HI0)
       (try clear HK)
       (try clear HB)
       generalize (w36.setCell ⟨gb246, 4, none⟩ (.slice Ao37 y269.length co37)) = w39 at n0_ n1_ n2_ n3_ n4_ n5_ n6_ n7_ ⊢
       have HO_247005 := n0_
       have HO259 := n1_
       have HO271 := n2_
       have BK240 := n3_
       have BK246 := n4_
       have HI0 := n5_
       have HK := n6_
       have HB := n7_
       clear n0_ n1_ n2_ n3_ n4_ n5_ n6_ n7_
       have n0_ := Aside0.mk (Kd.R_drew HO_247005.out)
       have n1_ := Aside0.mk (Kd.R_drew HO259.out)
       have n2_ := Aside0.mk (Kd.R_drew HO271.out)
       have n3_ := Aside0.mk (blk_drew BK240.out)
       have n4_ := Aside0.mk (blk_drew BK246.out)
       have n5_ := Aside0.mk (IsS76.drew HI0.out)
       have n6_ := Aside0.mk (keep_drew HK.out)
       have n7_ := Aside0.mk (below_drew1 HB.out)
       clear HO_247005
       clear HO259
       clear HO271
       clear BK240
       clear BK246
       clear HI0
       clear HK
       clear HB
       have HO_247005 := n0_
       have HO259 := n1_
       have HO271 := n2_
       have BK240 := n3_
       have BK246 := n4_
       have HI0 := n5_
       have HK := n6_
       have HB := n7_
       clear n0_ n1_ n2_ n3_ n4_ n5_ n6_ n7_
       refine start_ (n := 8) (S := fun w' => w'.cell? ⟨gb246, 0, none⟩ = some (.int .i64 t241) ∧ w'.cell? ⟨gb246, 1, none⟩ = some (.int .i64 t242) ∧ w'.cell? ⟨gb246, 2, none⟩ = some (.int .i64 t243) ∧ w'.cell? ⟨gb246, 3, none⟩ = some (.slice Ao27 y257.length co27) ∧ w'.cell? ⟨gb246, 4, none⟩ = some (.slice Ao37 y269.length co37) ∧ w'.cell? ⟨gb246, 5, none⟩ = some (u247005)) (ds := [7]) #[false, false, false, false, false, false, false, false] (by kernel_rfl) rfl rfl ⟨(blk_cell BK246.out 0).trans rfl, (blk_cell BK246.out 1).trans rfl, (blk_cell BK246.out 2).trans rfl, (blk_cell BK246.out 3).trans rfl, (blk_cell BK246.out 4).trans rfl, (blk_cell BK246.out 5).trans rfl⟩ (fun hHeld => ?_); refine with_tabW spec_l1Cur_model.tab7 spec_l1Cur_model.bits7 (fun HT_ HW_ => ?_)
       generalize w39.drew = w40 at HO_247005 HO259 HO271 BK240 BK246 HI0 HK HB hHeld ⊢
       refine pure_ (i := 0) (N := some 35) (v := ?_) (a' := ?_) #[true, false, false, false, false, false, false, false] rfl rfl (any_of HT_.out (by kernel_rfl)) (fun _ _ _ h => h) (Or.inl ⟨by rfl, ?_⟩) ?_ ?_
       rotate_left
       ·intro w'
        go_simp
        with_reducible rfl
       rotate_left
       ·simp only [Act.put, List.setIfInBounds_toArray, List.set_cons_zero, List.set_cons_succ, i64_w, i32_w]
        rfl
       refine pure_ (i := 2) (N := some 37) (v := ?_) (a' := ?_) #[true, false, true, false, false, false, false, false] rfl rfl (any_of HT_.out (by kernel_rfl)) (fun _ _ _ h => h) (Or.inl ⟨by rfl, ?_⟩) ?_ ?_
       rotate_left
       ·intro w'
        go_simp
        with_reducible rfl
       rotate_left
       ·simp only [Act.put, List.setIfInBounds_toArray, List.set_cons_zero, List.set_cons_succ, i64_w, i32_w]
        rfl
       refine take_ (i := 1) (N := some 36) (v := ?_) (a' := ?_) #[true, true, true, false, false, false, false, false] rfl rfl (take_ofW HT_.out HW_.out (by kernel_rfl)) (fun _ _ _ h => h) (Or.inl ⟨by rfl, ?_⟩) hHeld ?_ ?_
       rotate_left
       ·rintro w' ⟨s0, s1, s2, s3, s4, s5⟩
        go_simp
        with_reducible rfl
       rotate_left
       ·simp only [Act.put, List.setIfInBounds_toArray, List.set_cons_zero, List.set_cons_succ, i64_w, i32_w]
        rfl
       refine one_ (i := 3) (N := some 38) #[true, true, true, true, false, false, false, false] rfl rfl (one_of HT_.out (by kernel_rfl)) (by decide) (fun K hK => ?_)
       refine goes_ Try.func60 (by kernel_rfl) rfl #[.pointer (some ⟨g, 0, none⟩), .int .i64 5] (by rfl) rfl rfl (by (try simp only [List.map_toArray, List.map_cons, List.map_nil]); first | done | rfl | (simp only [List.length_drop, List.length_take]; rfl)) ?_
       with_reducible refine (spec_l1Cur_pick.calls g s0_0 t267 t268 5 t272 t273 t274 w0 _ ?side1 ?side2 A18.out).mono ?_
       (case side1 => exact IsS76.q HI0)
       (case side2 => exact hbI_ HB (IsS76.ge HI0.out))
       rintro e w41 ⟨rfl, hi, hb, hk⟩
       refine ⟨_, rfl, ?_⟩
       have n0_ := IsS76.rk HI0 HO_247005 hk
       have n1_ := Aside0.mk (KeepBut.blk hk (kp_ BK240) NB240_0.out (by simp))
       have n2_ := Aside0.mk (KeepBut.blk hk (kp_ BK246) NB246_0.out (by simp))
       have n3_ := IsS76.rk HI0 HO259 hk
       have n4_ := IsS76.rk HI0 HO271 hk
       have n5_ := Aside0.mk (KeepBut.trans (hk_ HK) hk (.inl rfl))
       have n6_ := Aside0.mk (hb)
       have n7_ := Aside0.mk (hi)
       clear HO_247005
       clear BK240
       clear BK246
       clear HO259
       clear HO271
       clear HK
       clear HB
       clear HI0
       have HO_247005 := n0_
       have BK240 := n1_
       have BK246 := n2_
       have HO259 := n3_
       have HO271 := n4_
       have HK := n5_
       have HB := n6_
       have HI0 := n7_
       clear n0_ n1_ n2_ n3_ n4_ n5_ n6_ n7_
       (try clear hb)
       (try clear hb2)
       (try clear hk)
       (try clear hi)
       refine hK.out _ _ ⟨(blk_cell BK246.out 0).trans rfl, (blk_cell BK246.out 1).trans rfl, (blk_cell BK246.out 2).trans rfl, (blk_cell BK246.out 3).trans rfl, (blk_cell BK246.out 4).trans rfl, (blk_cell BK246.out 5).trans rfl⟩ (fun hHeld => ?_)
       clear hK K
       refine norm_ (a' := ?_) ?_ ?_
       rotate_left
       ·show Act.put _ (some 38) _ = _
        simp only [Act.put, List.setIfInBounds_toArray, List.set_cons_zero, List.set_cons_succ, i64_w, i32_w]
        rfl
       refine one_ (i := 4) (N := some 39) #[true, true, true, true, true, false, false, false] rfl rfl (one_of HT_.out (by kernel_rfl)) (by decide) (fun K hK => ?_)
       refine value_ (w1 := ?_) (v := ?_) (by rfl) rfl ?_ ?_
       rotate_left 2
       ·go_simp
        constructor
        ·rfl
        ·rfl
       refine hK.out _ _ ⟨(blk_cell (blk_alloc BK246.out _) 0).trans rfl, (blk_cell (blk_alloc BK246.out _) 1).trans rfl, (blk_cell (blk_alloc BK246.out _) 2).trans rfl, (blk_cell (blk_alloc BK246.out _) 3).trans rfl, (blk_cell (blk_alloc BK246.out _) 4).trans rfl, (blk_cell (blk_alloc BK246.out _) 5).trans rfl⟩ (fun hHeld => ?_)
       clear hK K
       refine norm_ (a' := ?_) ?_ ?_
       rotate_left
       ·show Act.put _ (some 39) _ = _
        simp only [Act.put, List.setIfInBounds_toArray, List.set_cons_zero, List.set_cons_succ, i64_w, i32_w]
        rfl
       refine one_ (i := 5) (N := some 40) #[true, true, true, true, true, true, false, false] rfl rfl (one_of HT_.out (by kernel_rfl)) (by decide) (fun K hK => ?_)
       refine Kd.R_append_step (Kd.int .i64) w.heap.size (by rfl) (.tmp 36) (.tmp 39) 24 3 (.int .i64 0) 8 rfl Try.underlying24 info3 rfl (by decide) (by omega) u247005 x247005_1 t272 [.int .i64 t272] (fun k_ => some k_ ≠ (.slice Ao27 y257.length co27 : Value).ownBlock ∧ some k_ ≠ (.slice Ao37 y269.length co37 : Value).ownBlock) (fun _ => False) rfl rfl ?aP (fun _ hk => hk.elim) ?aF ?aO (Below.refl _ _) ?aS ?aL ?_
       (case aP => exact rfl)
       (case aF => exact (fun k_ hk => ⟨Kd.fresh' (Kd.R_lt (Kd.R_p HO259)) k_ hk, Kd.fresh' (Kd.R_lt (Kd.R_p HO271)) k_ hk⟩))
       (case aO => exact (Kd.R_p HO_247005))
       (case aS => exact (keep_size (hk_ HK)))
       (case aL => have := LMc19.out; omega)
       intro v276 w42 ho hb hg hat
       rw [← Ny275.out] at ho
       have n0_ := Aside0.mk (blk_grown (kp_ BK240) hg (Kd.R_ne HO_247005.out BK240.out (by decide)))
       have n1_ := Aside0.mk (blk_grown (kp_ BK246) hg (Kd.R_ne HO_247005.out BK246.out (by decide)))
       have n2_ := Aside0.mk (IsS76.grown (IsS76.q HI0) hg (IsS76.own_ne HI0.out HO_247005.out (by decide)))
       have n3_ := Aside0.mk (Kd.R_after (ok := (fun k_ => some k_ ≠ (.slice Ao37 y269.length co37 : Value).ownBlock)) (Kd.R_pp (Kd.R_mono HO259.out (fun _ hk => ⟨hk.2, hk.1⟩))) hg hat)
       have n4_ := Aside0.mk (Kd.R_after (ok := (fun k_ => some k_ ≠ (.slice Ao27 y257.length co27 : Value).ownBlock)) (Kd.R_pp (Kd.R_mono HO271.out (fun _ hk => ⟨hk.2, hk.1⟩))) hg hat)
       have n5_ := Aside0.mk (below_weaken (hbI_ HB (IsS76.ge HI0.out)) HL.out hb)
       have n6_ := Aside0.mk (KeepBut.trans (hk_ HK) (KeepBut.of_grown hg g) (Kd.R_base2 HO_247005.out))
       have n7_ := Aside0.mk (ho)
       clear BK240
       clear BK246
       clear HI0
       clear HO259
       clear HO271
       clear HB
       clear HK
       clear HO_247005
       have BK240 := n0_
       have BK246 := n1_
       have HI0 := n2_
       have HO259 := n3_
       have HO271 := n4_
       have HB := n5_
       have HK := n6_
       have HO277 := n7_
       clear n0_ n1_ n2_ n3_ n4_ n5_ n6_ n7_
       clear ho hb hg hat
       obtain ⟨Ao43, co43, eo43⟩ := Kd.R_slice HO277.out
       (first | subst eo43 | (injection eo43 with f1_ f2_ f3_; have f4_ := f1_.symm; have f5_ := f3_.symm; clear f1_ f2_ f3_; subst f4_; subst f5_))
       refine hK.out _ _ ⟨(blk_cell BK246.out 0).trans rfl, (blk_cell BK246.out 1).trans rfl, (blk_cell BK246.out 2).trans rfl, (blk_cell BK246.out 3).trans rfl, (blk_cell BK246.out 4).trans rfl, (blk_cell BK246.out 5).trans rfl⟩ (fun hHeld => ?_)
       clear hK K
       refine norm_ (a' := ?_) ?_ ?_
       rotate_left
       ·show Act.put _ (some 40) _ = _
        simp only [Act.put, List.setIfInBounds_toArray, List.set_cons_zero, List.set_cons_succ, i64_w, i32_w]
        rfl
       refine pure_ (i := 6) (N := some 41) (v := ?_) (a' := ?_) #[true, true, true, true, true, true, true, false] rfl rfl (any_of HT_.out (by kernel_rfl)) (fun _ _ _ h => h) (Or.inl ⟨by rfl, ?_⟩) ?_ ?_
       rotate_left
       ·intro w'
        go_simp
        with_reducible rfl
       rotate_left
       ·simp only [Act.put, List.setIfInBounds_toArray, List.set_cons_zero, List.set_cons_succ, i64_w, i32_w]
        rfl
       refine last_ (i := 7) (N := none) #[true, true, true, true, true, true, true, true] rfl rfl (one_of HT_.out (by kernel_rfl)) (by decide) (fun K hK => ?_)
       have hs44 : w42.cell? ⟨gb246, 5, none⟩ = some (u247005) := (blk_cell BK246.out 5).trans rfl
       have hfs44 := blk_frozen BK246.out 5
       have hns44_0 := NB240_246.out
       have hms44_0 := NB246_240.out
       refine skip_ (w1 := ?_) (by rfl) rfl ?_ ?_
       rotate_left
       ·go_simp
        rfl
       refine hK.out _ _ ?_
       clear hK K
       refine done_ (done_of HT_.out (by kernel_rfl)) ?_
       try go_wp2
       go_roundg k1
       case measure => have := HK1.out; omega
       case rel => exact ⟨(wrap64 (x4_1 - 1)), (t273), (t274), (y257), (y269), (y275), (.slice Ao27 y257.length co27), (.slice Ao37 y269.length co37), (.slice Ao43 y275.length co43), (by first | rfl | (simp; done) | (simp [*]; done)), H', ⟨by have := HK1.out; omega⟩, ⟨Kd.R_mono (Kd.R_s HO259 BK246) (fun _ hk => ⟨hk.1, hk.2⟩)⟩, ⟨Kd.R_mono (Kd.R_s HO271 BK246) (fun _ hk => ⟨hk.1, hk.2⟩)⟩, ⟨Kd.R_mono (Kd.R_s HO277 BK246) (fun _ hk => ⟨hk.1, hk.2⟩)⟩, ⟨kf_ BK240 NB240_246⟩, ⟨kpq_ (kputs BK246 [(5, _)])⟩, ⟨IsS76.q HI0⟩, ⟨hk_ HK⟩, ⟨hbI_ HB (IsS76.ge HI0.out)⟩⟩
      ·rw [if_neg c19] at H
       exact absurd H (by simp)
     ·rw [if_neg c17] at H
      exact absurd H (by simp)
    ·rw [if_neg c14] at H
     exact absurd H (by simp)
   ·rw [if_neg c11] at H
    have c11b0 : decide (0 < x4_1) = false := decide_eq_false c11
    clear c11
    simp only [Option.some.injEq, Prod.mk.injEq] at H
    obtain ⟨rfl, rfl, rfl, rfl, rfl, rfl, rfl, rfl⟩ := H
    have hnb45 := NB246_240.out
    have hnc45 := NB240_246.out
    have hnb46 := NB246_0.out
    have hnc46 := NB0_246.out
    have hcz47_0 : wr.cell? ⟨gb246, 0, none⟩ = some (.int .i64 t241) := (blk_cell BK246.out 0).trans rfl
    have hcz47_1 : wr.cell? ⟨gb246, 1, none⟩ = some (.int .i64 t242) := (blk_cell BK246.out 1).trans rfl
    have hcz47_2 : wr.cell? ⟨gb246, 2, none⟩ = some (.int .i64 t243) := (blk_cell BK246.out 2).trans rfl
    have hcz47_3 : wr.cell? ⟨gb246, 3, none⟩ = some (u247003) := (blk_cell BK246.out 3).trans rfl
    have hcz47_4 : wr.cell? ⟨gb246, 4, none⟩ = some (u247004) := (blk_cell BK246.out 4).trans rfl
    have hcz47_5 : wr.cell? ⟨gb246, 5, none⟩ = some (u247005) := (blk_cell BK246.out 5).trans rfl
    have hfz47_0 := blk_frozen BK246.out 0
    have hfz47_1 := blk_frozen BK246.out 1
    have hfz47_2 := blk_frozen BK246.out 2
    have hfz47_3 := blk_frozen BK246.out 3
    have hfz47_4 := blk_frozen BK246.out 4
    have hfz47_5 := blk_frozen BK246.out 5
    have hnb48 := NB240_0.out
    have hnc48 := NB0_240.out
    have hcz49_0 : wr.cell? ⟨gb240, 0, none⟩ = some (.int .i64 0) := (blk_cell BK240.out 0).trans rfl
    have hcz49_1 : wr.cell? ⟨gb240, 1, none⟩ = some (.int .i64 0) := (blk_cell BK240.out 1).trans rfl
    have hcz49_2 : wr.cell? ⟨gb240, 2, none⟩ = some (.int .i64 0) := (blk_cell BK240.out 2).trans rfl
    have hcz49_3 : wr.cell? ⟨gb240, 3, none⟩ = some (.slice none 0 0) := (blk_cell BK240.out 3).trans rfl
    have hcz49_4 : wr.cell? ⟨gb240, 4, none⟩ = some (.slice none 0 0) := (blk_cell BK240.out 4).trans rfl
    have hcz49_5 : wr.cell? ⟨gb240, 5, none⟩ = some (.slice none 0 0) := (blk_cell BK240.out 5).trans rfl
    have hfz49_0 := blk_frozen BK240.out 0
    have hfz49_1 := blk_frozen BK240.out 1
    have hfz49_2 := blk_frozen BK240.out 2
    have hfz49_3 := blk_frozen BK240.out 3
    have hfz49_4 := blk_frozen BK240.out 4
    have hfz49_5 := blk_frozen BK240.out 5
    obtain ⟨Ao50, co50, eo50⟩ := Kd.R_slice HO_247003.out
    subst eo50
    obtain ⟨Ao51, co51, eo51⟩ := Kd.R_slice HO_247004.out
    subst eo51
    obtain ⟨Ao52, co52, eo52⟩ := Kd.R_slice HO_247005.out
    subst eo52
    go_wp2
    refine bodyPost_ret (results_cell_row rfl _ _ gb240 30 #[.int .i64 t241, .int .i64 t242, .int .i64 t243, .slice Ao50 x247003_1.length co50, .slice Ao51 x247004_1.length co51, .slice Ao52 x247005_1.length co52] (0, 0) _ rfl (kpq_ (kputs BK240 [(0, _), (1, _), (2, _), (3, _), (4, _), (5, _)])) Try.underlying30 rfl (by kernel_rfl)) rfl ?_
    exact ⟨_, _, _, by first | rfl | (simp [errW_none, errW_some] <;> rfl) | (simp [*, errW_none, errW_some] <;> rfl), Kd.R_mono (Kd.R_s HO_247003 BK240) (fun _ hk => ⟨hk.1, hk.2⟩), Kd.R_mono (Kd.R_s HO_247004 BK240) (fun _ hk => ⟨hk.1, hk.2⟩), Kd.R_mono (Kd.R_s HO_247005 BK240) (fun _ hk => ⟨hk.1, hk.2⟩), IsS76.q HI0, hbI_ HB (IsS76.ge HI0.out), hk_ HK⟩

end Go.Proofs.Ytdfjlelbkkaloaa.PFnGrades
