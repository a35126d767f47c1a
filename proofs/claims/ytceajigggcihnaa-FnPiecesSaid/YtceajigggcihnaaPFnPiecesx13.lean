-- Laid for this claim by wip/tools/print2.sh, a changed copy of the kit's print (wip/tools/patch_print.py): not by print.sh.
import Derived.Test.YtceajigggcihnaaPFnPiecesx0
import Derived.Test.YtceajigggcihnaaPFnPiecesx2
import Derived.Test.YtceajigggcihnaaPFnPiecesx10
import Derived.Test.YtceajigggcihnaaPFnPiecesx12
import Derived.Test.YtceajigggcihnaaVFnPieces
namespace Go.Proofs.Ytceajigggcihnaa.PFnPieces
open Go.RowKit Go.Proofs.YtceajigggcihnaaW.PrintWords Go.Proofs.YtceajigggcihnaaW.PrintLast Go.Proofs.YtceajigggcihnaaW.PrintMore
attribute [local go_sem] max2_int min2_int max_two min_two max_three min_three max_four min_four   -- for this text's walks alone
set_option linter.unusedVariables false
set_option linter.unusedSimpArgs false

/-! ### spec_l1Cur_model: function 120 -/
def spec_l1Cur_model.l0 : Nat → Int → List Int → Int → Int → Int → Int → Int → List Int → List Int → List Int → Option (Int × Int × Int × List Int × List Int × List Int × Int × Int)
 | 0, _, _, _, _, _, _, _, _, _, _ => none
 | k + 1, x4, x1000, x1001, x1002, x432000, x432001, x432002, x432003, x432004, x432005 => if x4 > 0 then ((spec_l1Cur_pick.f x1000 x1001 x1002 10001).bind fun bt433 => ((spec_l1Cur_among.f x1000 bt433.2.1 bt433.2.2 (([0, 100, 100, 200, 500, 1000, bt433.1] : List Int))).bind fun bt439 => (if x432003.length < 17592186044416 then ((spec_l1Cur_pick.f x1000 bt439.2.1 bt439.2.2 1001).bind fun bt445 => ((spec_l1Cur_among.f x1000 bt445.2.1 bt445.2.2 (([0, 0, 5, 10, 20, 50, bt445.1] : List Int))).bind fun bt451 => (if x432004.length < 17592186044416 then ((spec_l1Cur_pick.f x1000 bt451.2.1 bt451.2.2 5).bind fun bt457 => (if x432005.length < 17592186044416 then (spec_l1Cur_model.l0 k (wrap64 (x4 - 1)) x1000 bt457.2.1 bt457.2.2 x432000 x432001 x432002 (x432003 ++ [bt439.1]) (x432004 ++ [bt451.1]) (x432005 ++ [bt457.1])) else (none))) else (none)))) else (none)))) else (some (x432000, x432001, x432002, x432003, x432004, x432005, x1001, x1002))
def spec_l1Cur_model.f (k : Nat) (s0_0 : List Int) (s0_1 : Int) (s0_2 : Int) : Option (Int × Int × Int × List Int × List Int × List Int × Int × Int) := (spec_l1Cur_grid.f s0_0 s0_1 s0_2).bind fun bt426 => ((spec_grCount.f bt426.1 bt426.2.1 bt426.2.2.1).bind fun t432 => (spec_l1Cur_model.l0 k t432 s0_0 bt426.2.2.2.1 bt426.2.2.2.2 bt426.1 bt426.2.1 bt426.2.2.1 ([] : List Int) ([] : List Int) ([] : List Int)))
def spec_l1Cur_model.T5 : Bool × List (List Nat × List Nat) := (true, [([], []), ([0], [0]), ([], []), ([], []), ([3], [3]), ([4], [4]), ([2, 5, 4], [2, 5]), ([6], [6]), ([1, 7, 6], [1, 7]), ([0, 1, 2, 3, 4, 5, 6, 7, 8], []), ([9, 8, 8, 0, 1, 2, 3, 4, 5, 6, 7, 8], [8, 9])])
def spec_l1Cur_model.B5 : List Nat := [0, 1, 0, 0, 8, 24, 60, 124, 255, 511, 1023]
theorem spec_l1Cur_model.tab5 : rtab .any (opsOf Try.f120 5) = spec_l1Cur_model.T5 := by kernel_rfl
theorem spec_l1Cur_model.bits5 : waitsOk spec_l1Cur_model.T5.2 spec_l1Cur_model.B5 = true := by kernel_rfl
def spec_l1Cur_model.T6 : Bool × List (List Nat × List Nat) := (true, [([], []), ([0], [0]), ([], []), ([], []), ([3], [3]), ([4], [4]), ([2, 5, 4], [2, 5]), ([6], [6]), ([1, 7, 6], [1, 7]), ([0, 1, 2, 3, 4, 5, 6, 7, 8], []), ([9, 8, 8, 0, 1, 2, 3, 4, 5, 6, 7, 8], [8, 9])])
def spec_l1Cur_model.B6 : List Nat := [0, 1, 0, 0, 8, 24, 60, 124, 255, 511, 1023]
theorem spec_l1Cur_model.tab6 : rtab .any (opsOf Try.f120 6) = spec_l1Cur_model.T6 := by kernel_rfl
theorem spec_l1Cur_model.bits6 : waitsOk spec_l1Cur_model.T6.2 spec_l1Cur_model.B6 = true := by kernel_rfl
def spec_l1Cur_model.T7 : Bool × List (List Nat × List Nat) := (true, [([], []), ([0], [0]), ([], []), ([2], [2]), ([3], [3]), ([1, 4, 3], [1, 4]), ([0, 1, 2, 3, 4, 5], []), ([6, 5, 5, 0, 1, 2, 3, 4, 5], [5, 6])])
def spec_l1Cur_model.B7 : List Nat := [0, 1, 0, 4, 12, 31, 63, 127]
theorem spec_l1Cur_model.tab7 : rtab .any (opsOf Try.f120 7) = spec_l1Cur_model.T7 := by kernel_rfl
theorem spec_l1Cur_model.bits7 : waitsOk spec_l1Cur_model.T7.2 spec_l1Cur_model.B7 = true := by kernel_rfl
set_option maxHeartbeats 8000000 in
set_option maxRecDepth 100000 in
theorem spec_l1Cur_model.calls (k : Nat) (g : Nat) (s0_0 : List Int) (s0_1 : Int) (s0_2 : Int) (r1 : Int) (r2 : Int) (r3 : Int) (r4 : List Int) (r5 : List Int) (r6 : List Int) (r7 : Int) (r8 : Int) (w0 w : World) (hI : IsS106 w0 w g s0_0 s0_1 s0_2) (hB : Below w0.heap.size w0 w) (h : spec_l1Cur_model.f k s0_0 s0_1 s0_2 = some (r1, r2, r3, r4, r5, r6, r7, r8)) :
  Calls Try.prog 120 #[.pointer (some ⟨g, 0, none⟩)] w fun e w' => ∃ v3_ v4_ v5_ : Value, e = .returned (.agg #[.int .i64 r1, .int .i64 r2, .int .i64 r3, v3_, v4_, v5_]) ∧ Kd.R (Kd.int .i64) 3 w' w.heap.size (fun k_ => some k_ ≠ (v4_ : Value).ownBlock ∧ some k_ ≠ (v5_ : Value).ownBlock) v3_ r4 ∧ Kd.R (Kd.int .i64) 3 w' w.heap.size (fun k_ => some k_ ≠ (v3_ : Value).ownBlock ∧ some k_ ≠ (v5_ : Value).ownBlock) v4_ r5 ∧ Kd.R (Kd.int .i64) 3 w' w.heap.size (fun k_ => some k_ ≠ (v3_ : Value).ownBlock ∧ some k_ ≠ (v4_ : Value).ownBlock) v5_ r6 ∧ IsS106 w0 w' g s0_0 r7 r8 ∧ Below w0.heap.size w0 w' ∧ KeepBut w w' g none := by
 have hu34 := Try.underlying34
 have hu32 := Try.underlying32
 have HI0 := Aside0.mk hI
 have HK := Aside0.mk (KeepBut.refl w g none)
 have HL := Aside0.mk hB.size
 clear hI
 have HW0 := Aside0.mk hB.size
 have HB := Aside0.mk hB
 clear hB
 have H : ((spec_l1Cur_grid.f s0_0 s0_1 s0_2).bind fun bt426 => ((spec_grCount.f bt426.1 bt426.2.1 bt426.2.2.1).bind fun t432 => (spec_l1Cur_model.l0 k t432 s0_0 bt426.2.2.2.1 bt426.2.2.2.2 bt426.1 bt426.2.1 bt426.2.2.1 ([] : List Int) ([] : List Int) ([] : List Int)))) = some (r1, r2, r3, r4, r5, r6, r7, r8) := h
 clear h
 replace H := Option.bind_eq_some_iff.mp H
 obtain ⟨⟨t426, t427, t428, t429, t430⟩, A20, H⟩ := H
 try dsimp only at H
 have A2 := Aside0.mk A20
 clear A20
 replace H := Option.bind_eq_some_iff.mp H
 obtain ⟨t432, A30, H⟩ := H
 try dsimp only at H
 have A3 := Aside0.mk A30
 clear A30
 have H' := Aside0.mk H
 clear H
 go_enter Try.func120, Try.ntmps120
 go_wp2_with (first | ((with_reducible refine gate_dst (N := 2) rfl ?_); refine box_event ?hg (N := 2) ?hd (cs := #[.int .i64 0, .int .i64 0, .int .i64 0, .slice none 0 0, .slice none 0 0, .slice none 0 0]) (t := 34) ?hr ?_; (case hd => rfl); (case hg => rfl); (case hr => first | (go_simp; done) | (go_simp; rfl)); intro gb425 hg w4 hbox hb; have BK425 := Aside0.mk (hbox); have GW425 := Aside0.mk ((by rw [hg]; exact (keep_size (hk_ HK)) : w.heap.size ≤ gb425)); have GE425 := Aside0.mk ((Nat.le_trans HW0.out (by rw [hg]; exact (keep_size (hk_ HK)) : w.heap.size ≤ gb425) : w0.heap.size ≤ gb425)); have NB0_425 := Aside0.mk ((by rw [hg]; exact Nat.ne_of_lt (IsS106.lt (show IsS106 w0 _ g s0_0 s0_1 s0_2 from IsS106.q HI0)) : g ≠ gb425)); have NB425_0 := Aside0.mk ((by rw [hg]; exact Nat.ne_of_gt (IsS106.lt (show IsS106 w0 _ g s0_0 s0_1 s0_2 from IsS106.q HI0)) : gb425 ≠ g)); replace HK := hkb_ HK hb; replace HB := Aside0.mk (below_step (hbI_ HB (IsS106.ge HI0.out)) hb); replace HI0 := IsS106.b HI0 hb; clear hb hbox hg) | ((with_reducible refine gate_callee (f := 121) rfl ?_); refine gl_ (some 6) Try.func121 #[.pointer (some ⟨g, 0, none⟩)] rfl rfl rfl ?_; (with_reducible refine (spec_l1Cur_grid.calls g s0_0 s0_1 s0_2 t426 t427 t428 t429 t430 w0 _ ?side1 ?side2 A2.out).mono ?_); (case side1 => exact IsS106.q HI0); (case side2 => exact hbI_ HB (IsS106.ge HI0.out)); rintro e w5 ⟨rfl, hi, hb, hk⟩; refine ⟨_, rfl, ?_⟩; replace BK425 := kk_ BK425 hk NB425_0; replace HK := Aside0.mk (KeepBut.trans (hk_ HK) hk (.inl rfl)); replace HB := Aside0.mk (hb); replace HI0 := Aside0.mk (hi); (try clear hb); (try clear hb2); (try clear hk); (try clear hi)) | ((with_reducible refine gate_dst (N := 3) rfl ?_); refine box_event ?hg (N := 3) ?hd (cs := #[.int .i64 0, .int .i64 0, .int .i64 0, .slice none 0 0, .slice none 0 0, .slice none 0 0]) (t := 34) ?hr ?_; (case hd => rfl); (case hg => rfl); (case hr => first | (go_simp; done) | (go_simp; rfl)); intro gb431 hg w6 hbox hb; have BK431 := Aside0.mk (hbox); have GW431 := Aside0.mk ((by rw [hg]; exact (keep_size (hk_ HK)) : w.heap.size ≤ gb431)); have GE431 := Aside0.mk ((Nat.le_trans HW0.out (by rw [hg]; exact (keep_size (hk_ HK)) : w.heap.size ≤ gb431) : w0.heap.size ≤ gb431)); have NB425_431 := nl_ hg BK425; have NB431_425 := ng_ hg BK425; have NB0_431 := Aside0.mk ((by rw [hg]; exact Nat.ne_of_lt (IsS106.lt (show IsS106 w0 _ g s0_0 t429 t430 from IsS106.q HI0)) : g ≠ gb431)); have NB431_0 := Aside0.mk ((by rw [hg]; exact Nat.ne_of_gt (IsS106.lt (show IsS106 w0 _ g s0_0 t429 t430 from IsS106.q HI0)) : gb431 ≠ g)); replace BK425 := kb_ BK425 hb; replace HK := hkb_ HK hb; replace HB := Aside0.mk (below_step (hbI_ HB (IsS106.ge HI0.out)) hb); replace HI0 := IsS106.b HI0 hb; clear hb hbox hg; have hnb7 := NB431_425.out; have hnc7 := NB425_431.out; have hnb8 := NB431_0.out; have hnc8 := NB0_431.out; obtain ⟨hcz9_0, hcz9_1, hcz9_2, hcz9_3, hcz9_4, hcz9_5, hfz9_0, hfz9_1, hfz9_2, hfz9_3, hfz9_4, hfz9_5⟩ := bx6 BK431) | ((with_reducible refine gate_callee (f := 79) rfl ?_); refine gl_ (some 10) Try.func79 #[.agg #[.int .i64 t426, .int .i64 t427, .int .i64 t428]] rfl rfl rfl ?_; (with_reducible refine (spec_grCount.calls t426 t427 t428 t432 _ A3.out).mono ?_); rintro e w10 ⟨rfl, hb⟩; refine ⟨_, rfl, ?_⟩; replace BK425 := kfb_ BK425 NB425_431 hb; replace BK431 := Aside0.mk (blk_below (g := gb431) (o := .cells #[.int .i64 t426, .int .i64 t427, .int .i64 t428, .slice none 0 0, .slice none 0 0, .slice none 0 0] 34 (0, 0)) (kpq_ (kputs BK431 [(0, _), (1, _), (2, _), (3, _), (4, _), (5, _)])) hb); replace HK := hkb_ HK hb; replace HB := Aside0.mk (below_step (hbI_ HB (IsS106.ge HI0.out)) hb); replace HI0 := Aside0.mk (IsS106.below (show IsS106 w0 ((((((w6.setCell ⟨gb431, 0, none⟩ (.int .i64 t426)).setCell ⟨gb431, 1, none⟩ (.int .i64 t427)).setCell ⟨gb431, 2, none⟩ (.int .i64 t428)).setCell ⟨gb431, 3, none⟩ (.slice none 0 0)).setCell ⟨gb431, 4, none⟩ (.slice none 0 0)).setCell ⟨gb431, 5, none⟩ (.slice none 0 0)) g s0_0 t429 t430 from IsS106.q HI0) hb); (try clear hb); (try clear hb2); (try clear hk); (try clear hi)))
 go_loopg [4] k (fun kq v4 w' => ∃ (x4_1 : Int) (x1001_1 : Int) (x1002_1 : Int) (x432003_1 : List Int) (x432004_1 : List Int) (x432005_1 : List Int) (u432003 : Value) (u432004 : Value) (u432005 : Value), v4 = .int .i64 x4_1 ∧ Aside0 (spec_l1Cur_model.l0 kq x4_1 s0_0 x1001_1 x1002_1 t426 t427 t428 x432003_1 x432004_1 x432005_1 = some (r1, r2, r3, r4, r5, r6, r7, r8)) ∧ Aside0 (kq ≤ k) ∧ Aside0 (Kd.R (Kd.int .i64) 3 w' w.heap.size (fun k_ => some k_ ≠ (u432004 : Value).ownBlock ∧ some k_ ≠ (u432005 : Value).ownBlock) u432003 x432003_1) ∧ Aside0 (Kd.R (Kd.int .i64) 3 w' w.heap.size (fun k_ => some k_ ≠ (u432003 : Value).ownBlock ∧ some k_ ≠ (u432005 : Value).ownBlock) u432004 x432004_1) ∧ Aside0 (Kd.R (Kd.int .i64) 3 w' w.heap.size (fun k_ => some k_ ≠ (u432003 : Value).ownBlock ∧ some k_ ≠ (u432004 : Value).ownBlock) u432005 x432005_1) ∧ Aside0 (w'.heap[gb425]? = some (.cells #[.int .i64 0, .int .i64 0, .int .i64 0, (.slice none 0 0), (.slice none 0 0), (.slice none 0 0)] 34 (0, 0))) ∧ Aside0 (w'.heap[gb431]? = some (.cells #[.int .i64 t426, .int .i64 t427, .int .i64 t428, u432003, u432004, u432005] 34 (0, 0))) ∧ Aside0 (IsS106 w0 w' g s0_0 x1001_1 x1002_1) ∧ Aside0 (KeepBut w w' g none) ∧ Aside0 (Below w0.heap.size w0 w'))
 case atStart => exact ⟨(t432), (t429), (t430), (([] : List Int)), (([] : List Int)), (([] : List Int)), (.slice none 0 0), (.slice none 0 0), (.slice none 0 0), (by first | rfl | (simp; done) | (simp [*]; done)), H', ⟨Nat.le_refl _⟩, ⟨by first | exact Kd.R_nil _ _ _ _ _ | exact Kd.N_nil _ _ _ _ _ | exact Kd.V_nil _ _ _ _ _ | exact Kd.Q_nil _ _ _ _ _ | exact Kd.S_nil _ _ _ _ _⟩, ⟨by first | exact Kd.R_nil _ _ _ _ _ | exact Kd.N_nil _ _ _ _ _ | exact Kd.V_nil _ _ _ _ _ | exact Kd.Q_nil _ _ _ _ _ | exact Kd.S_nil _ _ _ _ _⟩, ⟨by first | exact Kd.R_nil _ _ _ _ _ | exact Kd.N_nil _ _ _ _ _ | exact Kd.V_nil _ _ _ _ _ | exact Kd.Q_nil _ _ _ _ _ | exact Kd.S_nil _ _ _ _ _⟩, ⟨kp_ BK425⟩, ⟨kp_ BK431⟩, ⟨IsS106.q HI0⟩, ⟨hk_ HK⟩, ⟨hbI_ HB (IsS106.ge HI0.out)⟩⟩
 case round =>
  clear H'
  (try clear c1); (try clear p2); (try clear c7); (try clear c8); (try clear hcz9_0); (try clear hcz9_1); (try clear hcz9_2); (try clear hcz9_3); (try clear hcz9_4); (try clear hcz9_5); (try clear hfz9_0); (try clear hfz9_1); (try clear hfz9_2); (try clear hfz9_3); (try clear hfz9_4); (try clear hfz9_5)
  obtain ⟨x4_1, x1001_1, x1002_1, x432003_1, x432004_1, x432005_1, u432003, u432004, u432005, rfl, HA, HK1, HO_432003, HO_432004, HO_432005, BK425, BK431, HI0, HK, HB⟩ := hrel
  cases gk with
  | zero => exact absurd HA.out (by simp [spec_l1Cur_model.l0])
  | succ k1 =>
   have H := HA.out
   clear HA
   simp only [spec_l1Cur_model.l0] at H
   by_cases c11 : x4_1 > 0
   ·rw [if_pos c11] at H
    have c11b0 : decide (0 < x4_1) = true := decide_eq_true c11
    clear c11
    replace H := Option.bind_eq_some_iff.mp H
    obtain ⟨⟨t433, t434, t435⟩, A120, H⟩ := H
    try dsimp only at H
    have A12 := Aside0.mk A120
    clear A120
    obtain ⟨y436, hy436⟩ : ∃ y_ : List Int, y_ = (([0, 100, 100, 200, 500, 1000, t433] : List Int)) := ⟨_, rfl⟩
    replace H : ((spec_l1Cur_among.f s0_0 t434 t435 y436).bind fun bt439 => (if x432003_1.length < 17592186044416 then ((spec_l1Cur_pick.f s0_0 bt439.2.1 bt439.2.2 1001).bind fun bt445 => ((spec_l1Cur_among.f s0_0 bt445.2.1 bt445.2.2 (([0, 0, 5, 10, 20, 50, bt445.1] : List Int))).bind fun bt451 => (if x432004_1.length < 17592186044416 then ((spec_l1Cur_pick.f s0_0 bt451.2.1 bt451.2.2 5).bind fun bt457 => (if x432005_1.length < 17592186044416 then (spec_l1Cur_model.l0 k1 (wrap64 (x4_1 - 1)) s0_0 bt457.2.1 bt457.2.2 t426 t427 t428 (x432003_1 ++ [bt439.1]) (x432004_1 ++ [bt451.1]) (x432005_1 ++ [bt457.1])) else (none))) else (none)))) else (none))) = some (r1, r2, r3, r4, r5, r6, r7, r8) := by first | (rw [hy436]; with_reducible exact H) | (have H2_ := (Option.bind_some _ _).symm.trans H; rw [hy436]; with_reducible exact H2_) | (have H2_ := (Option.bind_some _ _).symm.trans H; with_reducible exact H2_) | with_reducible exact H | (rw [hy436]; exact H) | exact H
    have Ny436 := Aside0.mk hy436
    clear hy436
    replace H := Option.bind_eq_some_iff.mp H
    obtain ⟨⟨t439, t440, t441⟩, A130, H⟩ := H
    try dsimp only at H
    have A13 := Aside0.mk A130
    clear A130
    by_cases c14 : x432003_1.length < 17592186044416
    ·rw [if_pos c14] at H
     have LMc14 := Aside0.mk c14
     clear c14
     obtain ⟨y442, hy442⟩ : ∃ y_ : List Int, y_ = (x432003_1 ++ [t439]) := ⟨_, rfl⟩
     replace H : ((spec_l1Cur_pick.f s0_0 t440 t441 1001).bind fun bt445 => ((spec_l1Cur_among.f s0_0 bt445.2.1 bt445.2.2 (([0, 0, 5, 10, 20, 50, bt445.1] : List Int))).bind fun bt451 => (if x432004_1.length < 17592186044416 then ((spec_l1Cur_pick.f s0_0 bt451.2.1 bt451.2.2 5).bind fun bt457 => (if x432005_1.length < 17592186044416 then (spec_l1Cur_model.l0 k1 (wrap64 (x4_1 - 1)) s0_0 bt457.2.1 bt457.2.2 t426 t427 t428 y442 (x432004_1 ++ [bt451.1]) (x432005_1 ++ [bt457.1])) else (none))) else (none)))) = some (r1, r2, r3, r4, r5, r6, r7, r8) := by first | (rw [hy442]; with_reducible exact H) | (have H2_ := (Option.bind_some _ _).symm.trans H; rw [hy442]; with_reducible exact H2_) | (have H2_ := (Option.bind_some _ _).symm.trans H; with_reducible exact H2_) | with_reducible exact H | (rw [hy442]; exact H) | exact H
     have Ny442 := Aside0.mk hy442
     clear hy442
     replace H := Option.bind_eq_some_iff.mp H
     obtain ⟨⟨t445, t446, t447⟩, A150, H⟩ := H
     try dsimp only at H
     have A15 := Aside0.mk A150
     clear A150
     obtain ⟨y448, hy448⟩ : ∃ y_ : List Int, y_ = (([0, 0, 5, 10, 20, 50, t445] : List Int)) := ⟨_, rfl⟩
     replace H : ((spec_l1Cur_among.f s0_0 t446 t447 y448).bind fun bt451 => (if x432004_1.length < 17592186044416 then ((spec_l1Cur_pick.f s0_0 bt451.2.1 bt451.2.2 5).bind fun bt457 => (if x432005_1.length < 17592186044416 then (spec_l1Cur_model.l0 k1 (wrap64 (x4_1 - 1)) s0_0 bt457.2.1 bt457.2.2 t426 t427 t428 y442 (x432004_1 ++ [bt451.1]) (x432005_1 ++ [bt457.1])) else (none))) else (none))) = some (r1, r2, r3, r4, r5, r6, r7, r8) := by first | (rw [hy448]; with_reducible exact H) | (have H2_ := (Option.bind_some _ _).symm.trans H; rw [hy448]; with_reducible exact H2_) | (have H2_ := (Option.bind_some _ _).symm.trans H; with_reducible exact H2_) | with_reducible exact H | (rw [hy448]; exact H) | exact H
     have Ny448 := Aside0.mk hy448
     clear hy448
     replace H := Option.bind_eq_some_iff.mp H
     obtain ⟨⟨t451, t452, t453⟩, A160, H⟩ := H
     try dsimp only at H
     have A16 := Aside0.mk A160
     clear A160
     by_cases c17 : x432004_1.length < 17592186044416
     ·rw [if_pos c17] at H
      have LMc17 := Aside0.mk c17
      clear c17
      obtain ⟨y454, hy454⟩ : ∃ y_ : List Int, y_ = (x432004_1 ++ [t451]) := ⟨_, rfl⟩
      replace H : ((spec_l1Cur_pick.f s0_0 t452 t453 5).bind fun bt457 => (if x432005_1.length < 17592186044416 then (spec_l1Cur_model.l0 k1 (wrap64 (x4_1 - 1)) s0_0 bt457.2.1 bt457.2.2 t426 t427 t428 y442 y454 (x432005_1 ++ [bt457.1])) else (none))) = some (r1, r2, r3, r4, r5, r6, r7, r8) := by first | (rw [hy454]; with_reducible exact H) | (have H2_ := (Option.bind_some _ _).symm.trans H; rw [hy454]; with_reducible exact H2_) | (have H2_ := (Option.bind_some _ _).symm.trans H; with_reducible exact H2_) | with_reducible exact H | (rw [hy454]; exact H) | exact H
      have Ny454 := Aside0.mk hy454
      clear hy454
      replace H := Option.bind_eq_some_iff.mp H
      obtain ⟨⟨t457, t458, t459⟩, A180, H⟩ := H
      try dsimp only at H
      have A18 := Aside0.mk A180
      clear A180
      by_cases c19 : x432005_1.length < 17592186044416
      ·rw [if_pos c19] at H
       have LMc19 := Aside0.mk c19
       clear c19
       obtain ⟨y460, hy460⟩ : ∃ y_ : List Int, y_ = (x432005_1 ++ [t457]) := ⟨_, rfl⟩
       replace H : (spec_l1Cur_model.l0 k1 (wrap64 (x4_1 - 1)) s0_0 t458 t459 t426 t427 t428 y442 y454 y460) = some (r1, r2, r3, r4, r5, r6, r7, r8) := by first | (rw [hy460]; with_reducible exact H) | (have H2_ := (Option.bind_some _ _).symm.trans H; rw [hy460]; with_reducible exact H2_) | (have H2_ := (Option.bind_some _ _).symm.trans H; with_reducible exact H2_) | with_reducible exact H | (rw [hy460]; exact H) | exact H
       have Ny460 := Aside0.mk hy460
       clear hy460
       have H' := Aside0.mk H
       clear H
       try go_wp2
       have n0_ := Aside0.mk (Kd.R_drew HO_432003.out)
       have n1_ := Aside0.mk (Kd.R_drew HO_432004.out)
       have n2_ := Aside0.mk (Kd.R_drew HO_432005.out)
       have n3_ := Aside0.mk (blk_drew BK425.out)
       have n4_ := Aside0.mk (blk_drew BK431.out)
       have n5_ := Aside0.mk (IsS106.drew HI0.out)
       have n6_ := Aside0.mk (keep_drew HK.out)
       have n7_ := Aside0.mk (below_drew1 HB.out)
       clear HO_432003
       clear HO_432004
       clear HO_432005
       clear BK425
       clear BK431
       clear HI0
       clear HK
       clear HB
       have HO_432003 := n0_
       have HO_432004 := n1_
       have HO_432005 := n2_
       have BK425 := n3_
       have BK431 := n4_
       have HI0 := n5_
       have HK := n6_
       have HB := n7_
       clear n0_ n1_ n2_ n3_ n4_ n5_ n6_ n7_
       refine start_ (n := 11) (S := fun w' => w'.cell? ⟨gb431, 0, none⟩ = some (.int .i64 t426) ∧ w'.cell? ⟨gb431, 1, none⟩ = some (.int .i64 t427) ∧ w'.cell? ⟨gb431, 2, none⟩ = some (.int .i64 t428) ∧ w'.cell? ⟨gb431, 3, none⟩ = some (u432003) ∧ w'.cell? ⟨gb431, 4, none⟩ = some (u432004) ∧ w'.cell? ⟨gb431, 5, none⟩ = some (u432005)) (ds := [10]) (bb 11 0) (by kernel_rfl) rfl rfl ⟨(blk_cell BK431.out 0).trans rfl, (blk_cell BK431.out 1).trans rfl, (blk_cell BK431.out 2).trans rfl, (blk_cell BK431.out 3).trans rfl, (blk_cell BK431.out 4).trans rfl, (blk_cell BK431.out 5).trans rfl⟩ (fun hHeld => ?_); refine with_tabW spec_l1Cur_model.tab5 spec_l1Cur_model.bits5 (fun HT_ HW_ => ?_)
       generalize wr.drew = w20 at HO_432003 HO_432004 HO_432005 BK425 BK431 HI0 HK HB hHeld ⊢
       refine pl_ HT_ 0 (some 15) (bb 11 1) (h := ?_)
       refine pl_ HT_ 2 (some 17) (bb 11 5) (h := ?_)
       refine pl_ HT_ 3 (some 18) (bb 11 13) (h := ?_)
       refine take_ (i := 1) (N := some 16) (v := ?_) (a' := ?_) (bb 11 15) rfl rfl (take_ofW HT_.out HW_.out (by kernel_rfl)) (fun _ _ _ h => h) (Or.inl ⟨by rfl, ?_⟩) hHeld ?_ ?_
       rotate_left
       ·rintro w' ⟨s0, s1, s2, s3, s4, s5⟩
        go_simp
        with_reducible rfl
       rotate_left
       ·simp only [Act.put, List.setIfInBounds_toArray, List.set_cons_zero, List.set_cons_succ, i64_w, i32_w]
        rfl
       refine one_ (i := 4) (N := some 19) (bb 11 31) rfl rfl (one_of HT_.out (by kernel_rfl)) (by decide) (fun K hK => ?_)
       refine goes_ Try.func87 (by kernel_rfl) rfl #[.pointer (some ⟨g, 0, none⟩), .int .i64 10001] (by rfl) rfl rfl (by (try simp only [List.map_toArray, List.map_cons, List.map_nil]); first | done | rfl | (simp only [List.length_drop, List.length_take]; rfl)) ?_
       with_reducible refine (spec_l1Cur_pick.calls g s0_0 x1001_1 x1002_1 10001 t433 t434 t435 w0 _ ?side1 ?side2 A12.out).mono ?_
       (case side1 => exact IsS106.q HI0)
       (case side2 => exact hbI_ HB (IsS106.ge HI0.out))
       rintro e w21 ⟨rfl, hi, hb, hk⟩
       refine ⟨_, rfl, ?_⟩
       have n0_ := IsS106.rk HI0 HO_432003 hk
       have n1_ := IsS106.rk HI0 HO_432004 hk
       have n2_ := IsS106.rk HI0 HO_432005 hk
       have n3_ := Aside0.mk (KeepBut.blk hk (kp_ BK425) NB425_0.out (by simp))
       have n4_ := Aside0.mk (KeepBut.blk hk (kp_ BK431) NB431_0.out (by simp))
       have n5_ := Aside0.mk (KeepBut.trans (hk_ HK) hk (.inl rfl))
       have n6_ := Aside0.mk (hb)
       have n7_ := Aside0.mk (hi)
       clear HO_432003
       clear HO_432004
       clear HO_432005
       clear BK425
       clear BK431
       clear HK
       clear HB
       clear HI0
       have HO_432003 := n0_
       have HO_432004 := n1_
       have HO_432005 := n2_
       have BK425 := n3_
       have BK431 := n4_
       have HK := n5_
       have HB := n6_
       have HI0 := n7_
       clear n0_ n1_ n2_ n3_ n4_ n5_ n6_ n7_
       (try clear hb)
       (try clear hb2)
       (try clear hk)
       (try clear hi)
       refine hK.out _ _ ⟨(blk_cell BK431.out 0).trans rfl, (blk_cell BK431.out 1).trans rfl, (blk_cell BK431.out 2).trans rfl, (blk_cell BK431.out 3).trans rfl, (blk_cell BK431.out 4).trans rfl, (blk_cell BK431.out 5).trans rfl⟩ (fun hHeld => ?_)
       clear hK K
       refine norm_ (a' := ?_) ?_ ?_
       rotate_left
       ·show Act.put _ (some 19) _ = _
        simp only [Act.put, List.setIfInBounds_toArray, List.set_cons_zero, List.set_cons_succ, i64_w, i32_w]
        rfl
       refine one_ (i := 5) (N := some 20) (bb 11 63) rfl rfl (one_of HT_.out (by kernel_rfl)) (by decide) (fun K hK => ?_)
       refine Kd.R_lit_step (Kd.int .i64) _ 3 ?hg (N := 20) ?hd (xs := ([0, 100, 100, 200, 500, 1000, t433] : List Int)) (inner := [.int .i64 0, .int .i64 100, .int .i64 100, .int .i64 200, .int .i64 500, .int .i64 1000, .int .i64 t433]) (ok := fun _ => True) (okp := fun _ => True) ?hr ?hp (fun _ hk => hk) trivial (Below.refl _ _) (Nat.le_refl _) (by simp) ?_; (case hd => rfl); (case hg => rfl); (case hr => first | (go_simp; done) | (go_simp; rfl)); (case hp => exact (Reps.one (show Kd.M (Kd.int .i64) _ _ _ 0 [.int .i64 0] from rfl) (Reps.one (show Kd.M (Kd.int .i64) _ _ _ 100 [.int .i64 100] from rfl) (Reps.one (show Kd.M (Kd.int .i64) _ _ _ 100 [.int .i64 100] from rfl) (Reps.one (show Kd.M (Kd.int .i64) _ _ _ 200 [.int .i64 200] from rfl) (Reps.one (show Kd.M (Kd.int .i64) _ _ _ 500 [.int .i64 500] from rfl) (Reps.one (show Kd.M (Kd.int .i64) _ _ _ 1000 [.int .i64 1000] from rfl) (Reps.one (show Kd.M (Kd.int .i64) _ _ _ t433 [.int .i64 t433] from rfl) (Reps.none _ _)))))))))
       intro v437 w22 ho23 hb hg_ hnew_
       clear hg_ hnew_
       (first | rw [← Ny436.out] at ho23 | (simp only [Int.reduceToNat] at ho23; rw [← Ny436.out] at ho23))
       have n0_ := Aside0.mk (Kd.R_elder' (Kd.R_p HO_432003) (Kd.R_base ho23) hb)
       have n1_ := Aside0.mk (Kd.R_elder' (Kd.R_p HO_432004) (Kd.R_base ho23) hb)
       have n2_ := Aside0.mk (Kd.R_elder' (Kd.R_p HO_432005) (Kd.R_base ho23) hb)
       have n3_ := Aside0.mk (Kd.R_lower (Kd.R_nw (Kd.R_nw (Kd.R_nw ho23 HO_432003) HO_432004) HO_432005) (keep_size (hk_ HK)))
       have n4_ := Aside0.mk (blk_below (kp_ BK425) hb)
       have n5_ := Aside0.mk (blk_below (kp_ BK431) hb)
       have n6_ := Aside0.mk (IsS106.below (IsS106.q HI0) hb)
       have n7_ := Aside0.mk (KeepBut.trans (hk_ HK) (KeepBut.of_below hb g none) (.inl rfl))
       have n8_ := Aside0.mk (below_step (hbI_ HB (IsS106.ge HI0.out)) hb)
       clear HO_432003
       clear HO_432004
       clear HO_432005
       clear BK425
       clear BK431
       clear HI0
       clear HK
       clear HB
       have HO_432003 := n0_
       have HO_432004 := n1_
       have HO_432005 := n2_
       have HO438 := n3_
       have BK425 := n4_
       have BK431 := n5_
       have HI0 := n6_
       have HK := n7_
       have HB := n8_
       clear n0_ n1_ n2_ n3_ n4_ n5_ n6_ n7_ n8_
       clear hb ho23
       obtain ⟨Ao24, co24, eo24⟩ := Kd.R_slice HO438.out
       (first | subst eo24 | (injection eo24 with f1_ f2_ f3_; have f4_ := f1_.symm; have f5_ := f3_.symm; clear f1_ f2_ f3_; subst f4_; subst f5_))
       refine hK.out _ _ ⟨(blk_cell BK431.out 0).trans rfl, (blk_cell BK431.out 1).trans rfl, (blk_cell BK431.out 2).trans rfl, (blk_cell BK431.out 3).trans rfl, (blk_cell BK431.out 4).trans rfl, (blk_cell BK431.out 5).trans rfl⟩ (fun hHeld => ?_)
       clear hK K
       refine norm_ (a' := ?_) ?_ ?_
       rotate_left
       ·show Act.put _ (some 20) _ = _
        simp only [Act.put, List.setIfInBounds_toArray, List.set_cons_zero, List.set_cons_succ, i64_w, i32_w]
        rfl
       refine one_ (i := 6) (N := some 21) (bb 11 127) rfl rfl (one_of HT_.out (by kernel_rfl)) (by decide) (fun K hK => ?_)
       refine goes_ Try.func89 (by kernel_rfl) rfl #[.pointer (some ⟨g, 0, none⟩), .slice Ao24 y436.length co24] (by rfl) rfl rfl (by (try simp only [List.map_toArray, List.map_cons, List.map_nil]); first | done | rfl | (simp only [List.length_drop, List.length_take]; rfl)) ?_
       with_reducible refine (spec_l1Cur_among.calls g s0_0 t434 t435 _ _ y436 t439 t440 t441 w0 _ ?side1 ?side2 ?side3 ?side4 ?side5 A13.out).mono ?_
       (case side1 => exact IsS106.q HI0)
       (case side2 => exact hbI_ HB (IsS106.ge HI0.out))
       (case side3 => exact Kd.C_o HO438)
       (case side4 => exact (Kd.R_reads' HO438.out).2.1)
       (case side5 => exact far_slice (IsS106.own_ne HI0.out HO438.out (by decide)))
       rintro e w25 ⟨rfl, hi, hb, hk⟩
       refine ⟨_, rfl, ?_⟩
       have n0_ := IsS106.rk HI0 HO_432003 hk
       have n1_ := IsS106.rk HI0 HO_432004 hk
       have n2_ := IsS106.rk HI0 HO_432005 hk
       have n3_ := Aside0.mk (KeepBut.blk hk (kp_ BK425) NB425_0.out (by simp))
       have n4_ := Aside0.mk (KeepBut.blk hk (kp_ BK431) NB431_0.out (by simp))
       have n5_ := IsS106.rk HI0 HO438 hk
       have n6_ := Aside0.mk (KeepBut.trans (hk_ HK) hk (.inl rfl))
       have n7_ := Aside0.mk (hb)
       have n8_ := Aside0.mk (hi)
       clear HO_432003
       clear HO_432004
       clear HO_432005
       clear BK425
       clear BK431
       clear HO438
       clear HK
       clear HB
       clear HI0
       have HO_432003 := n0_
       have HO_432004 := n1_
       have HO_432005 := n2_
       have BK425 := n3_
       have BK431 := n4_
       have HO438 := n5_
       have HK := n6_
       have HB := n7_
       have HI0 := n8_
       clear n0_ n1_ n2_ n3_ n4_ n5_ n6_ n7_ n8_
       (try clear hb)
       (try clear hb2)
       (try clear hk)
       (try clear hi)
       refine hK.out _ _ ⟨(blk_cell BK431.out 0).trans rfl, (blk_cell BK431.out 1).trans rfl, (blk_cell BK431.out 2).trans rfl, (blk_cell BK431.out 3).trans rfl, (blk_cell BK431.out 4).trans rfl, (blk_cell BK431.out 5).trans rfl⟩ (fun hHeld => ?_)
       clear hK K
       refine norm_ (a' := ?_) ?_ ?_
       rotate_left
       ·show Act.put _ (some 21) _ = _
        simp only [Act.put, List.setIfInBounds_toArray, List.set_cons_zero, List.set_cons_succ, i64_w, i32_w]
        rfl
       refine one_ (i := 7) (N := some 22) (bb 11 255) rfl rfl (one_of HT_.out (by kernel_rfl)) (by decide) (fun K hK => ?_)
       refine value_ (w1 := ?_) (v := ?_) (by rfl) rfl ?_ ?_
       rotate_left 2
       ·go_simp
        constructor
        ·rfl
        ·rfl
       refine hK.out _ _ ⟨(blk_cell (blk_alloc BK431.out _) 0).trans rfl, (blk_cell (blk_alloc BK431.out _) 1).trans rfl, (blk_cell (blk_alloc BK431.out _) 2).trans rfl, (blk_cell (blk_alloc BK431.out _) 3).trans rfl, (blk_cell (blk_alloc BK431.out _) 4).trans rfl, (blk_cell (blk_alloc BK431.out _) 5).trans rfl⟩ (fun hHeld => ?_)
       clear hK K
       refine norm_ (a' := ?_) ?_ ?_
       rotate_left
       ·show Act.put _ (some 22) _ = _
        simp only [Act.put, List.setIfInBounds_toArray, List.set_cons_zero, List.set_cons_succ, i64_w, i32_w]
        rfl
       refine one_ (i := 8) (N := some 23) (bb 11 511) rfl rfl (one_of HT_.out (by kernel_rfl)) (by decide) (fun K hK => ?_)
       refine Kd.R_append_step (Kd.int .i64) w.heap.size (by rfl) (.tmp 16) (.tmp 22) 24 3 (.int .i64 0) 8 rfl Try.underlying24 info3 rfl (by decide) (by omega) u432003 x432003_1 t439 [.int .i64 t439] (fun k_ => some k_ ≠ (u432004 : Value).ownBlock ∧ some k_ ≠ (u432005 : Value).ownBlock ∧ some k_ ≠ (.slice Ao24 y436.length co24 : Value).ownBlock) (fun _ => False) rfl rfl ?aP (fun _ hk => hk.elim) ?aF ?aO (Below.refl _ _) ?aS ?aL ?_
       (case aP => exact rfl)
       (case aF => exact (fun k_ hk => ⟨Kd.fresh' (Kd.R_lt (Kd.R_p HO_432004)) k_ hk, Kd.fresh' (Kd.R_lt (Kd.R_p HO_432005)) k_ hk, Kd.fresh' (Kd.R_lt (Kd.R_p HO438)) k_ hk⟩))
       (case aO => exact (Kd.R_pp (Kd.R_mono HO_432003.out (fun _ hk => ⟨hk.1.1, ⟨hk.1.2, hk.2⟩⟩))))
       (case aS => exact (keep_size (hk_ HK)))
       (case aL => have := LMc14.out; omega)
       intro v443 w26 ho hb hg hat
       rw [← Ny442.out] at ho
       have n0_ := Aside0.mk (Kd.R_after (ok := (fun k_ => some k_ ≠ (u432005 : Value).ownBlock ∧ some k_ ≠ (.slice Ao24 y436.length co24 : Value).ownBlock)) (Kd.R_pp (Kd.R_mono HO_432004.out (fun _ hk => ⟨⟨hk.1.2, hk.2⟩, hk.1.1⟩))) hg hat)
       have n1_ := Aside0.mk (Kd.R_after (ok := (fun k_ => some k_ ≠ (u432004 : Value).ownBlock ∧ some k_ ≠ (.slice Ao24 y436.length co24 : Value).ownBlock)) (Kd.R_pp (Kd.R_mono HO_432005.out (fun _ hk => ⟨⟨hk.1.2, hk.2⟩, hk.1.1⟩))) hg hat)
       have n2_ := Aside0.mk (blk_grown (kp_ BK425) hg (Kd.R_ne HO_432003.out BK425.out (by decide)))
       have n3_ := Aside0.mk (blk_grown (kp_ BK431) hg (Kd.R_ne HO_432003.out BK431.out (by decide)))
       have n4_ := Aside0.mk (IsS106.grown (IsS106.q HI0) hg (IsS106.own_ne HI0.out HO_432003.out (by decide)))
       have n5_ := Aside0.mk (Kd.R_after (ok := (fun k_ => some k_ ≠ (u432004 : Value).ownBlock ∧ some k_ ≠ (u432005 : Value).ownBlock)) (Kd.R_pp (Kd.R_mono HO438.out (fun _ hk => ⟨⟨hk.1.2, hk.2⟩, hk.1.1.2⟩))) hg hat)
       have n6_ := Aside0.mk (below_weaken (hbI_ HB (IsS106.ge HI0.out)) HL.out hb)
       have n7_ := Aside0.mk (KeepBut.trans (hk_ HK) (KeepBut.of_grown hg g) (Kd.R_base2 HO_432003.out))
       have n8_ := Aside0.mk (ho)
       clear HO_432004
       clear HO_432005
       clear BK425
       clear BK431
       clear HI0
       clear HO438
       clear HB
       clear HK
       clear HO_432003
       have HO_432004 := n0_
       have HO_432005 := n1_
       have BK425 := n2_
       have BK431 := n3_
       have HI0 := n4_
       have HO438 := n5_
       have HB := n6_
       have HK := n7_
       have HO444 := n8_
       clear n0_ n1_ n2_ n3_ n4_ n5_ n6_ n7_ n8_
       clear ho hb hg hat
       obtain ⟨Ao27, co27, eo27⟩ := Kd.R_slice HO444.out
       (first | subst eo27 | (injection eo27 with f1_ f2_ f3_; have f4_ := f1_.symm; have f5_ := f3_.symm; clear f1_ f2_ f3_; subst f4_; subst f5_))
       refine hK.out _ _ ⟨(blk_cell BK431.out 0).trans rfl, (blk_cell BK431.out 1).trans rfl, (blk_cell BK431.out 2).trans rfl, (blk_cell BK431.out 3).trans rfl, (blk_cell BK431.out 4).trans rfl, (blk_cell BK431.out 5).trans rfl⟩ (fun hHeld => ?_)
       clear hK K
       refine norm_ (a' := ?_) ?_ ?_
       rotate_left
       ·show Act.put _ (some 23) _ = _
        simp only [Act.put, List.setIfInBounds_toArray, List.set_cons_zero, List.set_cons_succ, i64_w, i32_w]
        rfl
       refine pl_ HT_ 9 (some 24) (bb 11 1023) (h := ?_)
       refine last_ (i := 10) (N := none) (bb 11 2047) rfl rfl (one_of HT_.out (by kernel_rfl)) (by decide) (fun K hK => ?_)
       have hs28 : w26.cell? ⟨gb431, 3, none⟩ = some (u432003) := (blk_cell BK431.out 3).trans rfl
       have hfs28 := blk_frozen BK431.out 3
       have hns28_0 := NB425_431.out
       have hms28_0 := NB431_425.out
       refine skip_ (w1 := ?_) (by rfl) rfl ?_ ?_
       rotate_left
       ·go_simp
        rfl
       refine hK.out _ _ ?_
       clear hK K
       refine done_ (done_of HT_.out (by kernel_rfl)) ?_
       (try clear HO438)
       try go_wp2
       have n0_ : Aside0 (Kd.R (Kd.int .i64) 3 (w26.setCell ⟨gb431, 3, none⟩ (.slice Ao27 y442.length co27)) w.heap.size (fun k_ => some k_ ≠ (u432005 : Value).ownBlock ∧ some k_ ≠ (.slice Ao27 y442.length co27 : Value).ownBlock) u432004 x432004_1) := ⟨Kd.R_mono (Kd.R_s HO_432004 BK431) (fun _ hk => ⟨hk.1.1, hk.2⟩)⟩
       have n1_ : Aside0 (Kd.R (Kd.int .i64) 3 (w26.setCell ⟨gb431, 3, none⟩ (.slice Ao27 y442.length co27)) w.heap.size (fun k_ => some k_ ≠ (u432004 : Value).ownBlock ∧ some k_ ≠ (.slice Ao27 y442.length co27 : Value).ownBlock) u432005 x432005_1) := ⟨Kd.R_mono (Kd.R_s HO_432005 BK431) (fun _ hk => ⟨hk.1.1, hk.2⟩)⟩
       have n2_ : Aside0 (Kd.R (Kd.int .i64) 3 (w26.setCell ⟨gb431, 3, none⟩ (.slice Ao27 y442.length co27)) w.heap.size (fun k_ => some k_ ≠ (u432004 : Value).ownBlock ∧ some k_ ≠ (u432005 : Value).ownBlock) (.slice Ao27 y442.length co27) y442) := ⟨Kd.R_mono (Kd.R_s HO444 BK431) (fun _ hk => ⟨hk.1, hk.2.1⟩)⟩
       have n3_ : Aside0 ((w26.setCell ⟨gb431, 3, none⟩ (.slice Ao27 y442.length co27)).heap[gb425]? = some (.cells #[.int .i64 0, .int .i64 0, .int .i64 0, .slice none 0 0, .slice none 0 0, .slice none 0 0] 34 (0, 0))) := ⟨kf_ BK425 NB425_431⟩
       have n4_ : Aside0 ((w26.setCell ⟨gb431, 3, none⟩ (.slice Ao27 y442.length co27)).heap[gb431]? = some (.cells #[.int .i64 t426, .int .i64 t427, .int .i64 t428, .slice Ao27 y442.length co27, u432004, u432005] 34 (0, 0))) := ⟨kpq_ (kputs BK431 [(3, _)])⟩
       have n5_ : Aside0 (IsS106 w0 (w26.setCell ⟨gb431, 3, none⟩ (.slice Ao27 y442.length co27)) g s0_0 t440 t441) := ⟨IsS106.q HI0⟩
       have n6_ : Aside0 (KeepBut w (w26.setCell ⟨gb431, 3, none⟩ (.slice Ao27 y442.length co27)) g none) := ⟨hk_ HK⟩
       have n7_ : Aside0 (Below w0.heap.size w0 (w26.setCell ⟨gb431, 3, none⟩ (.slice Ao27 y442.length co27))) := ⟨hbI_ HB (IsS106.ge HI0.out)⟩
       (try clear HO_432004)
       (try clear HO_432005)
       (try clear HO444)
       (try clear BK425)
       (try clear BK431)
       (try clear HI0)
       (try clear HK)
       (try clear HB)
       generalize (w26.setCell ⟨gb431, 3, none⟩ (.slice Ao27 y442.length co27)) = w29 at n0_ n1_ n2_ n3_ n4_ n5_ n6_ n7_ ⊢
       have HO_432004 := n0_
       have HO_432005 := n1_
       have HO444 := n2_
       have BK425 := n3_
       have BK431 := n4_
       have HI0 := n5_
       have HK := n6_
       have HB := n7_
       clear n0_ n1_ n2_ n3_ n4_ n5_ n6_ n7_
       have n0_ := Aside0.mk (Kd.R_drew HO_432004.out)
       have n1_ := Aside0.mk (Kd.R_drew HO_432005.out)
       have n2_ := Aside0.mk (Kd.R_drew HO444.out)
       have n3_ := Aside0.mk (blk_drew BK425.out)
       have n4_ := Aside0.mk (blk_drew BK431.out)
       have n5_ := Aside0.mk (IsS106.drew HI0.out)
       have n6_ := Aside0.mk (keep_drew HK.out)
       have n7_ := Aside0.mk (below_drew1 HB.out)
       clear HO_432004
       clear HO_432005
       clear HO444
       clear BK425
       clear BK431
       clear HI0
       clear HK
       clear HB
       have HO_432004 := n0_
       have HO_432005 := n1_
       have HO444 := n2_
       have BK425 := n3_
       have BK431 := n4_
       have HI0 := n5_
       have HK := n6_
       have HB := n7_
       clear n0_ n1_ n2_ n3_ n4_ n5_ n6_ n7_
       refine start_ (n := 11) (S := fun w' => w'.cell? ⟨gb431, 0, none⟩ = some (.int .i64 t426) ∧ w'.cell? ⟨gb431, 1, none⟩ = some (.int .i64 t427) ∧ w'.cell? ⟨gb431, 2, none⟩ = some (.int .i64 t428) ∧ w'.cell? ⟨gb431, 3, none⟩ = some (.slice Ao27 y442.length co27) ∧ w'.cell? ⟨gb431, 4, none⟩ = some (u432004) ∧ w'.cell? ⟨gb431, 5, none⟩ = some (u432005)) (ds := [10]) (bb 11 0) (by kernel_rfl) rfl rfl ⟨(blk_cell BK431.out 0).trans rfl, (blk_cell BK431.out 1).trans rfl, (blk_cell BK431.out 2).trans rfl, (blk_cell BK431.out 3).trans rfl, (blk_cell BK431.out 4).trans rfl, (blk_cell BK431.out 5).trans rfl⟩ (fun hHeld => ?_); refine with_tabW spec_l1Cur_model.tab6 spec_l1Cur_model.bits6 (fun HT_ HW_ => ?_)
       generalize w29.drew = w30 at HO_432004 HO_432005 HO444 BK425 BK431 HI0 HK HB hHeld ⊢
       refine pl_ HT_ 0 (some 25) (bb 11 1) (h := ?_)
       refine pl_ HT_ 2 (some 27) (bb 11 5) (h := ?_)
       refine pl_ HT_ 3 (some 28) (bb 11 13) (h := ?_)
       refine take_ (i := 1) (N := some 26) (v := ?_) (a' := ?_) (bb 11 15) rfl rfl (take_ofW HT_.out HW_.out (by kernel_rfl)) (fun _ _ _ h => h) (Or.inl ⟨by rfl, ?_⟩) hHeld ?_ ?_
       rotate_left
       ·rintro w' ⟨s0, s1, s2, s3, s4, s5⟩
        go_simp
        with_reducible rfl
       rotate_left
       ·simp only [Act.put, List.setIfInBounds_toArray, List.set_cons_zero, List.set_cons_succ, i64_w, i32_w]
        rfl
       refine one_ (i := 4) (N := some 29) (bb 11 31) rfl rfl (one_of HT_.out (by kernel_rfl)) (by decide) (fun K hK => ?_)
       refine goes_ Try.func87 (by kernel_rfl) rfl #[.pointer (some ⟨g, 0, none⟩), .int .i64 1001] (by rfl) rfl rfl (by (try simp only [List.map_toArray, List.map_cons, List.map_nil]); first | done | rfl | (simp only [List.length_drop, List.length_take]; rfl)) ?_
       with_reducible refine (spec_l1Cur_pick.calls g s0_0 t440 t441 1001 t445 t446 t447 w0 _ ?side1 ?side2 A15.out).mono ?_
       (case side1 => exact IsS106.q HI0)
       (case side2 => exact hbI_ HB (IsS106.ge HI0.out))
       rintro e w31 ⟨rfl, hi, hb, hk⟩
       refine ⟨_, rfl, ?_⟩
       have n0_ := IsS106.rk HI0 HO_432004 hk
       have n1_ := IsS106.rk HI0 HO_432005 hk
       have n2_ := Aside0.mk (KeepBut.blk hk (kp_ BK425) NB425_0.out (by simp))
       have n3_ := Aside0.mk (KeepBut.blk hk (kp_ BK431) NB431_0.out (by simp))
       have n4_ := IsS106.rk HI0 HO444 hk
       have n5_ := Aside0.mk (KeepBut.trans (hk_ HK) hk (.inl rfl))
       have n6_ := Aside0.mk (hb)
       have n7_ := Aside0.mk (hi)
       clear HO_432004
       clear HO_432005
       clear BK425
       clear BK431
       clear HO444
       clear HK
       clear HB
       clear HI0
       have HO_432004 := n0_
       have HO_432005 := n1_
       have BK425 := n2_
       have BK431 := n3_
       have HO444 := n4_
       have HK := n5_
       have HB := n6_
       have HI0 := n7_
       clear n0_ n1_ n2_ n3_ n4_ n5_ n6_ n7_
       (try clear hb)
       (try clear hb2)
       (try clear hk)
       (try clear hi)
       refine hK.out _ _ ⟨(blk_cell BK431.out 0).trans rfl, (blk_cell BK431.out 1).trans rfl, (blk_cell BK431.out 2).trans rfl, (blk_cell BK431.out 3).trans rfl, (blk_cell BK431.out 4).trans rfl, (blk_cell BK431.out 5).trans rfl⟩ (fun hHeld => ?_)
       clear hK K
       refine norm_ (a' := ?_) ?_ ?_
       rotate_left
       ·show Act.put _ (some 29) _ = _
        simp only [Act.put, List.setIfInBounds_toArray, List.set_cons_zero, List.set_cons_succ, i64_w, i32_w]
        rfl
       refine one_ (i := 5) (N := some 30) (bb 11 63) rfl rfl (one_of HT_.out (by kernel_rfl)) (by decide) (fun K hK => ?_)
       refine Kd.R_lit_step (Kd.int .i64) _ 3 ?hg (N := 30) ?hd (xs := ([0, 0, 5, 10, 20, 50, t445] : List Int)) (inner := [.int .i64 0, .int .i64 0, .int .i64 5, .int .i64 10, .int .i64 20, .int .i64 50, .int .i64 t445]) (ok := fun _ => True) (okp := fun _ => True) ?hr ?hp (fun _ hk => hk) trivial (Below.refl _ _) (Nat.le_refl _) (by simp) ?_; (case hd => rfl); (case hg => rfl); (case hr => first | (go_simp; done) | (go_simp; rfl)); (case hp => exact (Reps.one (show Kd.M (Kd.int .i64) _ _ _ 0 [.int .i64 0] from rfl) (Reps.one (show Kd.M (Kd.int .i64) _ _ _ 0 [.int .i64 0] from rfl) (Reps.one (show Kd.M (Kd.int .i64) _ _ _ 5 [.int .i64 5] from rfl) (Reps.one (show Kd.M (Kd.int .i64) _ _ _ 10 [.int .i64 10] from rfl) (Reps.one (show Kd.M (Kd.int .i64) _ _ _ 20 [.int .i64 20] from rfl) (Reps.one (show Kd.M (Kd.int .i64) _ _ _ 50 [.int .i64 50] from rfl) (Reps.one (show Kd.M (Kd.int .i64) _ _ _ t445 [.int .i64 t445] from rfl) (Reps.none _ _)))))))))
       intro v449 w32 ho33 hb hg_ hnew_
       clear hg_ hnew_
       (first | rw [← Ny448.out] at ho33 | (simp only [Int.reduceToNat] at ho33; rw [← Ny448.out] at ho33))
       have n0_ := Aside0.mk (Kd.R_elder' (Kd.R_p HO_432004) (Kd.R_base ho33) hb)
       have n1_ := Aside0.mk (Kd.R_elder' (Kd.R_p HO_432005) (Kd.R_base ho33) hb)
       have n2_ := Aside0.mk (Kd.R_elder' (Kd.R_p HO444) (Kd.R_base ho33) hb)
       have n3_ := Aside0.mk (Kd.R_lower (Kd.R_nw (Kd.R_nw (Kd.R_nw ho33 HO_432004) HO_432005) HO444) (keep_size (hk_ HK)))
       have n4_ := Aside0.mk (blk_below (kp_ BK425) hb)
       have n5_ := Aside0.mk (blk_below (kp_ BK431) hb)
       have n6_ := Aside0.mk (IsS106.below (IsS106.q HI0) hb)
       have n7_ := Aside0.mk (KeepBut.trans (hk_ HK) (KeepBut.of_below hb g none) (.inl rfl))
       have n8_ := Aside0.mk (below_step (hbI_ HB (IsS106.ge HI0.out)) hb)
       clear HO_432004
       clear HO_432005
       clear HO444
       clear BK425
       clear BK431
       clear HI0
       clear HK
       clear HB
       have HO_432004 := n0_
       have HO_432005 := n1_
       have HO444 := n2_
       have HO450 := n3_
       have BK425 := n4_
       have BK431 := n5_
       have HI0 := n6_
       have HK := n7_
       have HB := n8_
       clear n0_ n1_ n2_ n3_ n4_ n5_ n6_ n7_ n8_
       clear hb ho33
       obtain ⟨Ao34, co34, eo34⟩ := Kd.R_slice HO450.out
       (first | subst eo34 | (injection eo34 with f1_ f2_ f3_; have f4_ := f1_.symm; have f5_ := f3_.symm; clear f1_ f2_ f3_; subst f4_; subst f5_))
       refine hK.out _ _ ⟨(blk_cell BK431.out 0).trans rfl, (blk_cell BK431.out 1).trans rfl, (blk_cell BK431.out 2).trans rfl, (blk_cell BK431.out 3).trans rfl, (blk_cell BK431.out 4).trans rfl, (blk_cell BK431.out 5).trans rfl⟩ (fun hHeld => ?_)
       clear hK K
       refine norm_ (a' := ?_) ?_ ?_
       rotate_left
       ·show Act.put _ (some 30) _ = _
        simp only [Act.put, List.setIfInBounds_toArray, List.set_cons_zero, List.set_cons_succ, i64_w, i32_w]
        rfl
       refine one_ (i := 6) (N := some 31) (bb 11 127) rfl rfl (one_of HT_.out (by kernel_rfl)) (by decide) (fun K hK => ?_)
       refine goes_ Try.func89 (by kernel_rfl) rfl #[.pointer (some ⟨g, 0, none⟩), .slice Ao34 y448.length co34] (by rfl) rfl rfl (by (try simp only [List.map_toArray, List.map_cons, List.map_nil]); first | done | rfl | (simp only [List.length_drop, List.length_take]; rfl)) ?_
       with_reducible refine (spec_l1Cur_among.calls g s0_0 t446 t447 _ _ y448 t451 t452 t453 w0 _ ?side1 ?side2 ?side3 ?side4 ?side5 A16.out).mono ?_
       (case side1 => exact IsS106.q HI0)
       (case side2 => exact hbI_ HB (IsS106.ge HI0.out))
       (case side3 => exact Kd.C_o HO450)
       (case side4 => exact (Kd.R_reads' HO450.out).2.1)
       (case side5 => exact far_slice (IsS106.own_ne HI0.out HO450.out (by decide)))
       rintro e w35 ⟨rfl, hi, hb, hk⟩
       refine ⟨_, rfl, ?_⟩
       have n0_ := IsS106.rk HI0 HO_432004 hk
       have n1_ := IsS106.rk HI0 HO_432005 hk
       have n2_ := Aside0.mk (KeepBut.blk hk (kp_ BK425) NB425_0.out (by simp))
       have n3_ := Aside0.mk (KeepBut.blk hk (kp_ BK431) NB431_0.out (by simp))
       have n4_ := IsS106.rk HI0 HO444 hk
       have n5_ := IsS106.rk HI0 HO450 hk
       have n6_ := Aside0.mk (KeepBut.trans (hk_ HK) hk (.inl rfl))
       have n7_ := Aside0.mk (hb)
       have n8_ := Aside0.mk (hi)
       clear HO_432004
       clear HO_432005
       clear BK425
       clear BK431
       clear HO444
       clear HO450
       clear HK
       clear HB
       clear HI0
       have HO_432004 := n0_
       have HO_432005 := n1_
       have BK425 := n2_
       have BK431 := n3_
       have HO444 := n4_
       have HO450 := n5_
       have HK := n6_
       have HB := n7_
       have HI0 := n8_
       clear n0_ n1_ n2_ n3_ n4_ n5_ n6_ n7_ n8_
       (try clear hb)
       (try clear hb2)
       (try clear hk)
       (try clear hi)
       refine hK.out _ _ ⟨(blk_cell BK431.out 0).trans rfl, (blk_cell BK431.out 1).trans rfl, (blk_cell BK431.out 2).trans rfl, (blk_cell BK431.out 3).trans rfl, (blk_cell BK431.out 4).trans rfl, (blk_cell BK431.out 5).trans rfl⟩ (fun hHeld => ?_)
       clear hK K
       refine norm_ (a' := ?_) ?_ ?_
       rotate_left
       ·show Act.put _ (some 31) _ = _
        simp only [Act.put, List.setIfInBounds_toArray, List.set_cons_zero, List.set_cons_succ, i64_w, i32_w]
        rfl
       refine one_ (i := 7) (N := some 32) (bb 11 255) rfl rfl (one_of HT_.out (by kernel_rfl)) (by decide) (fun K hK => ?_)
       refine value_ (w1 := ?_) (v := ?_) (by rfl) rfl ?_ ?_
       rotate_left 2
       ·go_simp
        constructor
        ·rfl
        ·rfl
       refine hK.out _ _ ⟨(blk_cell (blk_alloc BK431.out _) 0).trans rfl, (blk_cell (blk_alloc BK431.out _) 1).trans rfl, (blk_cell (blk_alloc BK431.out _) 2).trans rfl, (blk_cell (blk_alloc BK431.out _) 3).trans rfl, (blk_cell (blk_alloc BK431.out _) 4).trans rfl, (blk_cell (blk_alloc BK431.out _) 5).trans rfl⟩ (fun hHeld => ?_)
       clear hK K
       refine norm_ (a' := ?_) ?_ ?_
       rotate_left
       ·show Act.put _ (some 32) _ = _
        simp only [Act.put, List.setIfInBounds_toArray, List.set_cons_zero, List.set_cons_succ, i64_w, i32_w]
        rfl
       refine one_ (i := 8) (N := some 33) (bb 11 511) rfl rfl (one_of HT_.out (by kernel_rfl)) (by decide) (fun K hK => ?_)
       refine Kd.R_append_step (Kd.int .i64) w.heap.size (by rfl) (.tmp 26) (.tmp 32) 24 3 (.int .i64 0) 8 rfl Try.underlying24 info3 rfl (by decide) (by omega) u432004 x432004_1 t451 [.int .i64 t451] (fun k_ => some k_ ≠ (u432005 : Value).ownBlock ∧ some k_ ≠ (.slice Ao27 y442.length co27 : Value).ownBlock ∧ some k_ ≠ (.slice Ao34 y448.length co34 : Value).ownBlock) (fun _ => False) rfl rfl ?aP (fun _ hk => hk.elim) ?aF ?aO (Below.refl _ _) ?aS ?aL ?_
       (case aP => exact rfl)
       (case aF => exact (fun k_ hk => ⟨Kd.fresh' (Kd.R_lt (Kd.R_p HO_432005)) k_ hk, Kd.fresh' (Kd.R_lt (Kd.R_p HO444)) k_ hk, Kd.fresh' (Kd.R_lt (Kd.R_p HO450)) k_ hk⟩))
       (case aO => exact (Kd.R_pp (Kd.R_mono HO_432004.out (fun _ hk => ⟨hk.1.1, ⟨hk.1.2, hk.2⟩⟩))))
       (case aS => exact (keep_size (hk_ HK)))
       (case aL => have := LMc17.out; omega)
       intro v455 w36 ho hb hg hat
       rw [← Ny454.out] at ho
       have n0_ := Aside0.mk (Kd.R_after (ok := (fun k_ => some k_ ≠ (.slice Ao27 y442.length co27 : Value).ownBlock ∧ some k_ ≠ (.slice Ao34 y448.length co34 : Value).ownBlock)) (Kd.R_pp (Kd.R_mono HO_432005.out (fun _ hk => ⟨⟨hk.1.2, hk.2⟩, hk.1.1⟩))) hg hat)
       have n1_ := Aside0.mk (blk_grown (kp_ BK425) hg (Kd.R_ne HO_432004.out BK425.out (by decide)))
       have n2_ := Aside0.mk (blk_grown (kp_ BK431) hg (Kd.R_ne HO_432004.out BK431.out (by decide)))
       have n3_ := Aside0.mk (IsS106.grown (IsS106.q HI0) hg (IsS106.own_ne HI0.out HO_432004.out (by decide)))
       have n4_ := Aside0.mk (Kd.R_after (ok := (fun k_ => some k_ ≠ (u432005 : Value).ownBlock ∧ some k_ ≠ (.slice Ao34 y448.length co34 : Value).ownBlock)) (Kd.R_pp (Kd.R_mono HO444.out (fun _ hk => ⟨⟨hk.1.2, hk.2⟩, hk.1.1⟩))) hg hat)
       have n5_ := Aside0.mk (Kd.R_after (ok := (fun k_ => some k_ ≠ (u432005 : Value).ownBlock ∧ some k_ ≠ (.slice Ao27 y442.length co27 : Value).ownBlock)) (Kd.R_pp (Kd.R_mono HO450.out (fun _ hk => ⟨⟨hk.1.2, hk.2⟩, hk.1.1.2⟩))) hg hat)
       have n6_ := Aside0.mk (below_weaken (hbI_ HB (IsS106.ge HI0.out)) HL.out hb)
       have n7_ := Aside0.mk (KeepBut.trans (hk_ HK) (KeepBut.of_grown hg g) (Kd.R_base2 HO_432004.out))
       have n8_ := Aside0.mk (ho)
       clear HO_432005
       clear BK425
       clear BK431
       clear HI0
       clear HO444
       clear HO450
       clear HB
       clear HK
       clear HO_432004
       have HO_432005 := n0_
       have BK425 := n1_
       have BK431 := n2_
       have HI0 := n3_
       have HO444 := n4_
       have HO450 := n5_
       have HB := n6_
       have HK := n7_
       have HO456 := n8_
       clear n0_ n1_ n2_ n3_ n4_ n5_ n6_ n7_ n8_
       clear ho hb hg hat
       obtain ⟨Ao37, co37, eo37⟩ := Kd.R_slice HO456.out
       (first | subst eo37 | (injection eo37 with f1_ f2_ f3_; have f4_ := f1_.symm; have f5_ := f3_.symm; clear f1_ f2_ f3_; subst f4_; subst f5_))
       refine hK.out _ _ ⟨(blk_cell BK431.out 0).trans rfl, (blk_cell BK431.out 1).trans rfl, (blk_cell BK431.out 2).trans rfl, (blk_cell BK431.out 3).trans rfl, (blk_cell BK431.out 4).trans rfl, (blk_cell BK431.out 5).trans rfl⟩ (fun hHeld => ?_)
       clear hK K
       refine norm_ (a' := ?_) ?_ ?_
       rotate_left
       ·show Act.put _ (some 33) _ = _
        simp only [Act.put, List.setIfInBounds_toArray, List.set_cons_zero, List.set_cons_succ, i64_w, i32_w]
        rfl
       refine pl_ HT_ 9 (some 34) (bb 11 1023) (h := ?_)
       refine last_ (i := 10) (N := none) (bb 11 2047) rfl rfl (one_of HT_.out (by kernel_rfl)) (by decide) (fun K hK => ?_)
       have hs38 : w36.cell? ⟨gb431, 4, none⟩ = some (u432004) := (blk_cell BK431.out 4).trans rfl
       have hfs38 := blk_frozen BK431.out 4
       have hns38_0 := NB425_431.out
       have hms38_0 := NB431_425.out
       refine skip_ (w1 := ?_) (by rfl) rfl ?_ ?_
       rotate_left
       ·go_simp
        rfl
       refine hK.out _ _ ?_
       clear hK K
       refine done_ (done_of HT_.out (by kernel_rfl)) ?_
       (try clear HO450)
       try go_wp2
       have n0_ : Aside0 (Kd.R (Kd.int .i64) 3 (w36.setCell ⟨gb431, 4, none⟩ (.slice Ao37 y454.length co37)) w.heap.size (fun k_ => some k_ ≠ (.slice Ao27 y442.length co27 : Value).ownBlock ∧ some k_ ≠ (.slice Ao37 y454.length co37 : Value).ownBlock) u432005 x432005_1) := ⟨Kd.R_mono (Kd.R_s HO_432005 BK431) (fun _ hk => ⟨hk.1.1, hk.2⟩)⟩
       have n1_ : Aside0 (Kd.R (Kd.int .i64) 3 (w36.setCell ⟨gb431, 4, none⟩ (.slice Ao37 y454.length co37)) w.heap.size (fun k_ => some k_ ≠ (u432005 : Value).ownBlock ∧ some k_ ≠ (.slice Ao37 y454.length co37 : Value).ownBlock) (.slice Ao27 y442.length co27) y442) := ⟨Kd.R_mono (Kd.R_s HO444 BK431) (fun _ hk => ⟨hk.1.1, hk.2⟩)⟩
       have n2_ : Aside0 (Kd.R (Kd.int .i64) 3 (w36.setCell ⟨gb431, 4, none⟩ (.slice Ao37 y454.length co37)) w.heap.size (fun k_ => some k_ ≠ (u432005 : Value).ownBlock ∧ some k_ ≠ (.slice Ao27 y442.length co27 : Value).ownBlock) (.slice Ao37 y454.length co37) y454) := ⟨Kd.R_mono (Kd.R_s HO456 BK431) (fun _ hk => ⟨hk.1, hk.2.1⟩)⟩
       have n3_ : Aside0 ((w36.setCell ⟨gb431, 4, none⟩ (.slice Ao37 y454.length co37)).heap[gb425]? = some (.cells #[.int .i64 0, .int .i64 0, .int .i64 0, .slice none 0 0, .slice none 0 0, .slice none 0 0] 34 (0, 0))) := ⟨kf_ BK425 NB425_431⟩
       have n4_ : Aside0 ((w36.setCell ⟨gb431, 4, none⟩ (.slice Ao37 y454.length co37)).heap[gb431]? = some (.cells #[.int .i64 t426, .int .i64 t427, .int .i64 t428, .slice Ao27 y442.length co27, .slice Ao37 y454.length co37, u432005] 34 (0, 0))) := ⟨kpq_ (kputs BK431 [(4, _)])⟩
       have n5_ : Aside0 (IsS106 w0 (w36.setCell ⟨gb431, 4, none⟩ (.slice Ao37 y454.length co37)) g s0_0 t452 t453) := ⟨IsS106.q HI0⟩
       have n6_ : Aside0 (KeepBut w (w36.setCell ⟨gb431, 4, none⟩ (.slice Ao37 y454.length co37)) g none) := ⟨hk_ HK⟩
       have n7_ : Aside0 (Below w0.heap.size w0 (w36.setCell ⟨gb431, 4, none⟩ (.slice Ao37 y454.length co37))) := ⟨hbI_ HB (IsS106.ge HI0.out)⟩
       (try clear HO_432005)
       (try clear HO444)
       (try clear HO456)
       (try clear BK425)
       (try clear BK431)
       (try clear HI0)
       (try clear HK)
       (try clear HB)
       generalize (w36.setCell ⟨gb431, 4, none⟩ (.slice Ao37 y454.length co37)) = w39 at n0_ n1_ n2_ n3_ n4_ n5_ n6_ n7_ ⊢
       have HO_432005 := n0_
       have HO444 := n1_
       have HO456 := n2_
       have BK425 := n3_
       have BK431 := n4_
       have HI0 := n5_
       have HK := n6_
       have HB := n7_
       clear n0_ n1_ n2_ n3_ n4_ n5_ n6_ n7_
       have n0_ := Aside0.mk (Kd.R_drew HO_432005.out)
       have n1_ := Aside0.mk (Kd.R_drew HO444.out)
       have n2_ := Aside0.mk (Kd.R_drew HO456.out)
       have n3_ := Aside0.mk (blk_drew BK425.out)
       have n4_ := Aside0.mk (blk_drew BK431.out)
       have n5_ := Aside0.mk (IsS106.drew HI0.out)
       have n6_ := Aside0.mk (keep_drew HK.out)
       have n7_ := Aside0.mk (below_drew1 HB.out)
       clear HO_432005
       clear HO444
       clear HO456
       clear BK425
       clear BK431
       clear HI0
       clear HK
       clear HB
       have HO_432005 := n0_
       have HO444 := n1_
       have HO456 := n2_
       have BK425 := n3_
       have BK431 := n4_
       have HI0 := n5_
       have HK := n6_
       have HB := n7_
       clear n0_ n1_ n2_ n3_ n4_ n5_ n6_ n7_
       refine start_ (n := 8) (S := fun w' => w'.cell? ⟨gb431, 0, none⟩ = some (.int .i64 t426) ∧ w'.cell? ⟨gb431, 1, none⟩ = some (.int .i64 t427) ∧ w'.cell? ⟨gb431, 2, none⟩ = some (.int .i64 t428) ∧ w'.cell? ⟨gb431, 3, none⟩ = some (.slice Ao27 y442.length co27) ∧ w'.cell? ⟨gb431, 4, none⟩ = some (.slice Ao37 y454.length co37) ∧ w'.cell? ⟨gb431, 5, none⟩ = some (u432005)) (ds := [7]) (bb 8 0) (by kernel_rfl) rfl rfl ⟨(blk_cell BK431.out 0).trans rfl, (blk_cell BK431.out 1).trans rfl, (blk_cell BK431.out 2).trans rfl, (blk_cell BK431.out 3).trans rfl, (blk_cell BK431.out 4).trans rfl, (blk_cell BK431.out 5).trans rfl⟩ (fun hHeld => ?_); refine with_tabW spec_l1Cur_model.tab7 spec_l1Cur_model.bits7 (fun HT_ HW_ => ?_)
       generalize w39.drew = w40 at HO_432005 HO444 HO456 BK425 BK431 HI0 HK HB hHeld ⊢
       refine pl_ HT_ 0 (some 35) (bb 8 1) (h := ?_)
       refine pl_ HT_ 2 (some 37) (bb 8 5) (h := ?_)
       refine take_ (i := 1) (N := some 36) (v := ?_) (a' := ?_) (bb 8 7) rfl rfl (take_ofW HT_.out HW_.out (by kernel_rfl)) (fun _ _ _ h => h) (Or.inl ⟨by rfl, ?_⟩) hHeld ?_ ?_
       rotate_left
       ·rintro w' ⟨s0, s1, s2, s3, s4, s5⟩
        go_simp
        with_reducible rfl
       rotate_left
       ·simp only [Act.put, List.setIfInBounds_toArray, List.set_cons_zero, List.set_cons_succ, i64_w, i32_w]
        rfl
       refine one_ (i := 3) (N := some 38) (bb 8 15) rfl rfl (one_of HT_.out (by kernel_rfl)) (by decide) (fun K hK => ?_)
       refine goes_ Try.func87 (by kernel_rfl) rfl #[.pointer (some ⟨g, 0, none⟩), .int .i64 5] (by rfl) rfl rfl (by (try simp only [List.map_toArray, List.map_cons, List.map_nil]); first | done | rfl | (simp only [List.length_drop, List.length_take]; rfl)) ?_
       with_reducible refine (spec_l1Cur_pick.calls g s0_0 t452 t453 5 t457 t458 t459 w0 _ ?side1 ?side2 A18.out).mono ?_
       (case side1 => exact IsS106.q HI0)
       (case side2 => exact hbI_ HB (IsS106.ge HI0.out))
       rintro e w41 ⟨rfl, hi, hb, hk⟩
       refine ⟨_, rfl, ?_⟩
       have n0_ := IsS106.rk HI0 HO_432005 hk
       have n1_ := Aside0.mk (KeepBut.blk hk (kp_ BK425) NB425_0.out (by simp))
       have n2_ := Aside0.mk (KeepBut.blk hk (kp_ BK431) NB431_0.out (by simp))
       have n3_ := IsS106.rk HI0 HO444 hk
       have n4_ := IsS106.rk HI0 HO456 hk
       have n5_ := Aside0.mk (KeepBut.trans (hk_ HK) hk (.inl rfl))
       have n6_ := Aside0.mk (hb)
       have n7_ := Aside0.mk (hi)
       clear HO_432005
       clear BK425
       clear BK431
       clear HO444
       clear HO456
       clear HK
       clear HB
       clear HI0
       have HO_432005 := n0_
       have BK425 := n1_
       have BK431 := n2_
       have HO444 := n3_
       have HO456 := n4_
       have HK := n5_
       have HB := n6_
       have HI0 := n7_
       clear n0_ n1_ n2_ n3_ n4_ n5_ n6_ n7_
       (try clear hb)
       (try clear hb2)
       (try clear hk)
       (try clear hi)
       refine hK.out _ _ ⟨(blk_cell BK431.out 0).trans rfl, (blk_cell BK431.out 1).trans rfl, (blk_cell BK431.out 2).trans rfl, (blk_cell BK431.out 3).trans rfl, (blk_cell BK431.out 4).trans rfl, (blk_cell BK431.out 5).trans rfl⟩ (fun hHeld => ?_)
       clear hK K
       refine norm_ (a' := ?_) ?_ ?_
       rotate_left
       ·show Act.put _ (some 38) _ = _
        simp only [Act.put, List.setIfInBounds_toArray, List.set_cons_zero, List.set_cons_succ, i64_w, i32_w]
        rfl
       refine one_ (i := 4) (N := some 39) (bb 8 31) rfl rfl (one_of HT_.out (by kernel_rfl)) (by decide) (fun K hK => ?_)
       refine value_ (w1 := ?_) (v := ?_) (by rfl) rfl ?_ ?_
       rotate_left 2
       ·go_simp
        constructor
        ·rfl
        ·rfl
       refine hK.out _ _ ⟨(blk_cell (blk_alloc BK431.out _) 0).trans rfl, (blk_cell (blk_alloc BK431.out _) 1).trans rfl, (blk_cell (blk_alloc BK431.out _) 2).trans rfl, (blk_cell (blk_alloc BK431.out _) 3).trans rfl, (blk_cell (blk_alloc BK431.out _) 4).trans rfl, (blk_cell (blk_alloc BK431.out _) 5).trans rfl⟩ (fun hHeld => ?_)
       clear hK K
       refine norm_ (a' := ?_) ?_ ?_
       rotate_left
       ·show Act.put _ (some 39) _ = _
        simp only [Act.put, List.setIfInBounds_toArray, List.set_cons_zero, List.set_cons_succ, i64_w, i32_w]
        rfl
       refine one_ (i := 5) (N := some 40) (bb 8 63) rfl rfl (one_of HT_.out (by kernel_rfl)) (by decide) (fun K hK => ?_)
       refine Kd.R_append_step (Kd.int .i64) w.heap.size (by rfl) (.tmp 36) (.tmp 39) 24 3 (.int .i64 0) 8 rfl Try.underlying24 info3 rfl (by decide) (by omega) u432005 x432005_1 t457 [.int .i64 t457] (fun k_ => some k_ ≠ (.slice Ao27 y442.length co27 : Value).ownBlock ∧ some k_ ≠ (.slice Ao37 y454.length co37 : Value).ownBlock) (fun _ => False) rfl rfl ?aP (fun _ hk => hk.elim) ?aF ?aO (Below.refl _ _) ?aS ?aL ?_
       (case aP => exact rfl)
       (case aF => exact (fun k_ hk => ⟨Kd.fresh' (Kd.R_lt (Kd.R_p HO444)) k_ hk, Kd.fresh' (Kd.R_lt (Kd.R_p HO456)) k_ hk⟩))
       (case aO => exact (Kd.R_p HO_432005))
       (case aS => exact (keep_size (hk_ HK)))
       (case aL => have := LMc19.out; omega)
       intro v461 w42 ho hb hg hat
       rw [← Ny460.out] at ho
       have n0_ := Aside0.mk (blk_grown (kp_ BK425) hg (Kd.R_ne HO_432005.out BK425.out (by decide)))
       have n1_ := Aside0.mk (blk_grown (kp_ BK431) hg (Kd.R_ne HO_432005.out BK431.out (by decide)))
       have n2_ := Aside0.mk (IsS106.grown (IsS106.q HI0) hg (IsS106.own_ne HI0.out HO_432005.out (by decide)))
       have n3_ := Aside0.mk (Kd.R_after (ok := (fun k_ => some k_ ≠ (.slice Ao37 y454.length co37 : Value).ownBlock)) (Kd.R_pp (Kd.R_mono HO444.out (fun _ hk => ⟨hk.2, hk.1⟩))) hg hat)
       have n4_ := Aside0.mk (Kd.R_after (ok := (fun k_ => some k_ ≠ (.slice Ao27 y442.length co27 : Value).ownBlock)) (Kd.R_pp (Kd.R_mono HO456.out (fun _ hk => ⟨hk.2, hk.1⟩))) hg hat)
       have n5_ := Aside0.mk (below_weaken (hbI_ HB (IsS106.ge HI0.out)) HL.out hb)
       have n6_ := Aside0.mk (KeepBut.trans (hk_ HK) (KeepBut.of_grown hg g) (Kd.R_base2 HO_432005.out))
       have n7_ := Aside0.mk (ho)
       clear BK425
       clear BK431
       clear HI0
       clear HO444
       clear HO456
       clear HB
       clear HK
       clear HO_432005
       have BK425 := n0_
       have BK431 := n1_
       have HI0 := n2_
       have HO444 := n3_
       have HO456 := n4_
       have HB := n5_
       have HK := n6_
       have HO462 := n7_
       clear n0_ n1_ n2_ n3_ n4_ n5_ n6_ n7_
       clear ho hb hg hat
       obtain ⟨Ao43, co43, eo43⟩ := Kd.R_slice HO462.out
       (first | subst eo43 | (injection eo43 with f1_ f2_ f3_; have f4_ := f1_.symm; have f5_ := f3_.symm; clear f1_ f2_ f3_; subst f4_; subst f5_))
       refine hK.out _ _ ⟨(blk_cell BK431.out 0).trans rfl, (blk_cell BK431.out 1).trans rfl, (blk_cell BK431.out 2).trans rfl, (blk_cell BK431.out 3).trans rfl, (blk_cell BK431.out 4).trans rfl, (blk_cell BK431.out 5).trans rfl⟩ (fun hHeld => ?_)
       clear hK K
       refine norm_ (a' := ?_) ?_ ?_
       rotate_left
       ·show Act.put _ (some 40) _ = _
        simp only [Act.put, List.setIfInBounds_toArray, List.set_cons_zero, List.set_cons_succ, i64_w, i32_w]
        rfl
       refine pl_ HT_ 6 (some 41) (bb 8 127) (h := ?_)
       refine last_ (i := 7) (N := none) (bb 8 255) rfl rfl (one_of HT_.out (by kernel_rfl)) (by decide) (fun K hK => ?_)
       have hs44 : w42.cell? ⟨gb431, 5, none⟩ = some (u432005) := (blk_cell BK431.out 5).trans rfl
       have hfs44 := blk_frozen BK431.out 5
       have hns44_0 := NB425_431.out
       have hms44_0 := NB431_425.out
       refine skip_ (w1 := ?_) (by rfl) rfl ?_ ?_
       rotate_left
       ·go_simp
        rfl
       refine hK.out _ _ ?_
       clear hK K
       refine done_ (done_of HT_.out (by kernel_rfl)) ?_
       try go_wp2
       go_roundg k1
       case measure => have := HK1.out; omega
       case rel => exact ⟨(wrap64 (x4_1 - 1)), (t458), (t459), (y442), (y454), (y460), (.slice Ao27 y442.length co27), (.slice Ao37 y454.length co37), (.slice Ao43 y460.length co43), (by first | rfl | (simp; done) | (simp [*]; done)), H', ⟨by have := HK1.out; omega⟩, ⟨Kd.R_mono (Kd.R_s HO444 BK431) (fun _ hk => ⟨hk.1, hk.2⟩)⟩, ⟨Kd.R_mono (Kd.R_s HO456 BK431) (fun _ hk => ⟨hk.1, hk.2⟩)⟩, ⟨Kd.R_mono (Kd.R_s HO462 BK431) (fun _ hk => ⟨hk.1, hk.2⟩)⟩, ⟨kf_ BK425 NB425_431⟩, ⟨kpq_ (kputs BK431 [(5, _)])⟩, ⟨IsS106.q HI0⟩, ⟨hk_ HK⟩, ⟨hbI_ HB (IsS106.ge HI0.out)⟩⟩
      ·rw [if_neg c19] at H
       exact absurd H (by simp)
     ·rw [if_neg c17] at H
      exact absurd H (by simp)
    ·rw [if_neg c14] at H
     exact absurd H (by simp)
   ·rw [if_neg c11] at H
    have c11b0 : decide (0 < x4_1) = false := decide_eq_false c11
    clear c11
    simp only [Option.some.injEq, Prod.mk.injEq] at H
    obtain ⟨rfl, rfl, rfl, rfl, rfl, rfl, rfl, rfl⟩ := H
    have hnb45 := NB431_425.out
    have hnc45 := NB425_431.out
    have hnb46 := NB431_0.out
    have hnc46 := NB0_431.out
    have hcz47_0 : wr.cell? ⟨gb431, 0, none⟩ = some (.int .i64 t426) := (blk_cell BK431.out 0).trans rfl
    have hcz47_1 : wr.cell? ⟨gb431, 1, none⟩ = some (.int .i64 t427) := (blk_cell BK431.out 1).trans rfl
    have hcz47_2 : wr.cell? ⟨gb431, 2, none⟩ = some (.int .i64 t428) := (blk_cell BK431.out 2).trans rfl
    have hcz47_3 : wr.cell? ⟨gb431, 3, none⟩ = some (u432003) := (blk_cell BK431.out 3).trans rfl
    have hcz47_4 : wr.cell? ⟨gb431, 4, none⟩ = some (u432004) := (blk_cell BK431.out 4).trans rfl
    have hcz47_5 : wr.cell? ⟨gb431, 5, none⟩ = some (u432005) := (blk_cell BK431.out 5).trans rfl
    have hfz47_0 := blk_frozen BK431.out 0
    have hfz47_1 := blk_frozen BK431.out 1
    have hfz47_2 := blk_frozen BK431.out 2
    have hfz47_3 := blk_frozen BK431.out 3
    have hfz47_4 := blk_frozen BK431.out 4
    have hfz47_5 := blk_frozen BK431.out 5
    have hnb48 := NB425_0.out
    have hnc48 := NB0_425.out
    have hcz49_0 : wr.cell? ⟨gb425, 0, none⟩ = some (.int .i64 0) := (blk_cell BK425.out 0).trans rfl
    have hcz49_1 : wr.cell? ⟨gb425, 1, none⟩ = some (.int .i64 0) := (blk_cell BK425.out 1).trans rfl
    have hcz49_2 : wr.cell? ⟨gb425, 2, none⟩ = some (.int .i64 0) := (blk_cell BK425.out 2).trans rfl
    have hcz49_3 : wr.cell? ⟨gb425, 3, none⟩ = some (.slice none 0 0) := (blk_cell BK425.out 3).trans rfl
    have hcz49_4 : wr.cell? ⟨gb425, 4, none⟩ = some (.slice none 0 0) := (blk_cell BK425.out 4).trans rfl
    have hcz49_5 : wr.cell? ⟨gb425, 5, none⟩ = some (.slice none 0 0) := (blk_cell BK425.out 5).trans rfl
    have hfz49_0 := blk_frozen BK425.out 0
    have hfz49_1 := blk_frozen BK425.out 1
    have hfz49_2 := blk_frozen BK425.out 2
    have hfz49_3 := blk_frozen BK425.out 3
    have hfz49_4 := blk_frozen BK425.out 4
    have hfz49_5 := blk_frozen BK425.out 5
    obtain ⟨Ao50, co50, eo50⟩ := Kd.R_slice HO_432003.out
    subst eo50
    obtain ⟨Ao51, co51, eo51⟩ := Kd.R_slice HO_432004.out
    subst eo51
    obtain ⟨Ao52, co52, eo52⟩ := Kd.R_slice HO_432005.out
    subst eo52
    go_wp2
    refine bodyPost_ret (results_cell_row rfl _ _ gb425 34 #[.int .i64 t426, .int .i64 t427, .int .i64 t428, .slice Ao50 x432003_1.length co50, .slice Ao51 x432004_1.length co51, .slice Ao52 x432005_1.length co52] (0, 0) _ rfl (kpq_ (kputs BK425 [(0, _), (1, _), (2, _), (3, _), (4, _), (5, _)])) Try.underlying34 rfl (by kernel_rfl)) rfl ?_
    exact ⟨_, _, _, by first | rfl | (simp [errW_none, errW_some] <;> rfl) | (simp [*, errW_none, errW_some] <;> rfl), Kd.R_mono (Kd.R_s HO_432003 BK425) (fun _ hk => ⟨hk.1, hk.2⟩), Kd.R_mono (Kd.R_s HO_432004 BK425) (fun _ hk => ⟨hk.1, hk.2⟩), Kd.R_mono (Kd.R_s HO_432005 BK425) (fun _ hk => ⟨hk.1, hk.2⟩), IsS106.q HI0, hbI_ HB (IsS106.ge HI0.out), hk_ HK⟩

end Go.Proofs.Ytceajigggcihnaa.PFnPieces
