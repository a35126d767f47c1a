-- Laid for this claim by wip/tools/print2.sh, a changed copy of the kit's print (wip/tools/patch_print.py): not by print.sh.
import Derived.Test.YtdfjlelbkkaloaaPFnGradesx0
import Derived.Test.YtdfjlelbkkaloaaPFnGradesx5
namespace Go.Proofs.Ytdfjlelbkkaloaa.PFnGrades
open Go.RowKit Go.Proofs.YtdfjlelbkkaloaaW.PrintWords Go.Proofs.YtdfjlelbkkaloaaW.PrintLast Go.Proofs.YtdfjlelbkkaloaaW.PrintMore
attribute [local go_sem] max2_int min2_int max_two min_two max_three min_three max_four min_four   -- for this text's walks alone
set_option linter.unusedVariables false
set_option linter.unusedSimpArgs false

/-! ### spec_l1Cur_anyGrid: function 72 -/
def spec_l1Cur_anyGrid.j0 : Nat → List Int → Int → Int → Int → Int → Int → Option (Int × Int × Int × Int × Int)
 | 0, _, _, _, _, _, _ => none
 | k + 1, x1000, x1001, x1002, x285000, x285001, x285002 => some (x285000, x285001, x285002, x1001, x1002)
def spec_l1Cur_anyGrid.f (k : Nat) (s0_0 : List Int) (s0_1 : Int) (s0_2 : Int) : Option (Int × Int × Int × Int × Int) := (spec_l1Cur_grid.f s0_0 s0_1 s0_2).bind fun bt279 => ((spec_l1Cur_pick.f s0_0 bt279.2.2.2.1 bt279.2.2.2.2 30).bind fun bt285 => (if bt285.1 = 0 then ((spec_l1Cur_among.f s0_0 bt285.2.1 bt285.2.2 (([0, 8, 9, (-1)] : List Int))).bind fun bt291 => (spec_l1Cur_anyGrid.j0 k s0_0 bt291.2.1 bt291.2.2 bt291.1 bt279.2.1 bt279.2.2.1)) else (if bt285.1 = 1 then ((spec_l1Cur_among.f s0_0 bt285.2.1 bt285.2.2 (([0, 6, 7, (-1)] : List Int))).bind fun bt297 => (spec_l1Cur_anyGrid.j0 k s0_0 bt297.2.1 bt297.2.2 bt279.1 bt297.1 bt279.2.2.1)) else (if bt285.1 = 2 then ((spec_l1Cur_among.f s0_0 bt285.2.1 bt285.2.2 (([0, 5, 6, (-1)] : List Int))).bind fun bt303 => (spec_l1Cur_anyGrid.j0 k s0_0 bt303.2.1 bt303.2.2 bt279.1 bt279.2.1 bt303.1)) else (if bt285.1 = 3 then ((spec_l1Cur_among.f s0_0 bt285.2.1 bt285.2.2 (([2, 3] : List Int))).bind fun bt309 => (spec_l1Cur_anyGrid.j0 k s0_0 bt309.2.1 bt309.2.2 8 6 bt309.1)) else (if bt285.1 = 4 then (spec_l1Cur_anyGrid.j0 k s0_0 bt285.2.1 bt285.2.2 1 1 4611686018427387904) else (spec_l1Cur_anyGrid.j0 k s0_0 bt285.2.1 bt285.2.2 bt279.1 bt279.2.1 bt279.2.2.1)))))))
set_option maxHeartbeats 8000000 in
set_option maxRecDepth 100000 in
theorem spec_l1Cur_anyGrid.calls (k : Nat) (g : Nat) (s0_0 : List Int) (s0_1 : Int) (s0_2 : Int) (r1 : Int) (r2 : Int) (r3 : Int) (r4 : Int) (r5 : Int) (w0 w : World) (hI : IsS76 w0 w g s0_0 s0_1 s0_2) (hB : Below w0.heap.size w0 w) (h : spec_l1Cur_anyGrid.f k s0_0 s0_1 s0_2 = some (r1, r2, r3, r4, r5)) :
  Calls Try.prog 72 #[.pointer (some ⟨g, 0, none⟩)] w fun e w' => e = .returned (.agg #[.int .i64 r1, .int .i64 r2, .int .i64 r3]) ∧ IsS76 w0 w' g s0_0 r4 r5 ∧ Below w0.heap.size w0 w' ∧ KeepBut w w' g none := by
 have hu28 := Try.underlying28
 have HI0 := Aside0.mk hI
 have HK := Aside0.mk (KeepBut.refl w g none)
 have HL := Aside0.mk hB.size
 clear hI
 have HW0 := Aside0.mk hB.size
 have HB := Aside0.mk hB
 clear hB
 have H : ((spec_l1Cur_grid.f s0_0 s0_1 s0_2).bind fun bt279 => ((spec_l1Cur_pick.f s0_0 bt279.2.2.2.1 bt279.2.2.2.2 30).bind fun bt285 => (if bt285.1 = 0 then ((spec_l1Cur_among.f s0_0 bt285.2.1 bt285.2.2 (([0, 8, 9, (-1)] : List Int))).bind fun bt291 => (spec_l1Cur_anyGrid.j0 k s0_0 bt291.2.1 bt291.2.2 bt291.1 bt279.2.1 bt279.2.2.1)) else (if bt285.1 = 1 then ((spec_l1Cur_among.f s0_0 bt285.2.1 bt285.2.2 (([0, 6, 7, (-1)] : List Int))).bind fun bt297 => (spec_l1Cur_anyGrid.j0 k s0_0 bt297.2.1 bt297.2.2 bt279.1 bt297.1 bt279.2.2.1)) else (if bt285.1 = 2 then ((spec_l1Cur_among.f s0_0 bt285.2.1 bt285.2.2 (([0, 5, 6, (-1)] : List Int))).bind fun bt303 => (spec_l1Cur_anyGrid.j0 k s0_0 bt303.2.1 bt303.2.2 bt279.1 bt279.2.1 bt303.1)) else (if bt285.1 = 3 then ((spec_l1Cur_among.f s0_0 bt285.2.1 bt285.2.2 (([2, 3] : List Int))).bind fun bt309 => (spec_l1Cur_anyGrid.j0 k s0_0 bt309.2.1 bt309.2.2 8 6 bt309.1)) else (if bt285.1 = 4 then (spec_l1Cur_anyGrid.j0 k s0_0 bt285.2.1 bt285.2.2 1 1 4611686018427387904) else (spec_l1Cur_anyGrid.j0 k s0_0 bt285.2.1 bt285.2.2 bt279.1 bt279.2.1 bt279.2.2.1)))))))) = some (r1, r2, r3, r4, r5) := h
 clear h
 replace H := Option.bind_eq_some_iff.mp H
 obtain ⟨⟨t279, t280, t281, t282, t283⟩, A20, H⟩ := H
 replace H : ((spec_l1Cur_pick.f s0_0 t282 t283 30).bind fun bt285 => (if bt285.1 = 0 then ((spec_l1Cur_among.f s0_0 bt285.2.1 bt285.2.2 (([0, 8, 9, (-1)] : List Int))).bind fun bt291 => (spec_l1Cur_anyGrid.j0 k s0_0 bt291.2.1 bt291.2.2 bt291.1 t280 t281)) else (if bt285.1 = 1 then ((spec_l1Cur_among.f s0_0 bt285.2.1 bt285.2.2 (([0, 6, 7, (-1)] : List Int))).bind fun bt297 => (spec_l1Cur_anyGrid.j0 k s0_0 bt297.2.1 bt297.2.2 t279 bt297.1 t281)) else (if bt285.1 = 2 then ((spec_l1Cur_among.f s0_0 bt285.2.1 bt285.2.2 (([0, 5, 6, (-1)] : List Int))).bind fun bt303 => (spec_l1Cur_anyGrid.j0 k s0_0 bt303.2.1 bt303.2.2 t279 t280 bt303.1)) else (if bt285.1 = 3 then ((spec_l1Cur_among.f s0_0 bt285.2.1 bt285.2.2 (([2, 3] : List Int))).bind fun bt309 => (spec_l1Cur_anyGrid.j0 k s0_0 bt309.2.1 bt309.2.2 8 6 bt309.1)) else (if bt285.1 = 4 then (spec_l1Cur_anyGrid.j0 k s0_0 bt285.2.1 bt285.2.2 1 1 4611686018427387904) else (spec_l1Cur_anyGrid.j0 k s0_0 bt285.2.1 bt285.2.2 t279 t280 t281))))))) = some (r1, r2, r3, r4, r5) := H
 have A2 := Aside0.mk A20
 clear A20
 replace H := Option.bind_eq_some_iff.mp H
 obtain ⟨⟨t285, t286, t287⟩, A30, H⟩ := H
 replace H : (if t285 = 0 then ((spec_l1Cur_among.f s0_0 t286 t287 (([0, 8, 9, (-1)] : List Int))).bind fun bt291 => (spec_l1Cur_anyGrid.j0 k s0_0 bt291.2.1 bt291.2.2 bt291.1 t280 t281)) else (if t285 = 1 then ((spec_l1Cur_among.f s0_0 t286 t287 (([0, 6, 7, (-1)] : List Int))).bind fun bt297 => (spec_l1Cur_anyGrid.j0 k s0_0 bt297.2.1 bt297.2.2 t279 bt297.1 t281)) else (if t285 = 2 then ((spec_l1Cur_among.f s0_0 t286 t287 (([0, 5, 6, (-1)] : List Int))).bind fun bt303 => (spec_l1Cur_anyGrid.j0 k s0_0 bt303.2.1 bt303.2.2 t279 t280 bt303.1)) else (if t285 = 3 then ((spec_l1Cur_among.f s0_0 t286 t287 (([2, 3] : List Int))).bind fun bt309 => (spec_l1Cur_anyGrid.j0 k s0_0 bt309.2.1 bt309.2.2 8 6 bt309.1)) else (if t285 = 4 then (spec_l1Cur_anyGrid.j0 k s0_0 t286 t287 1 1 4611686018427387904) else (spec_l1Cur_anyGrid.j0 k s0_0 t286 t287 t279 t280 t281)))))) = some (r1, r2, r3, r4, r5) := H
 have A3 := Aside0.mk A30
 clear A30
 have HC4 := Aside0.mk H
 clear H
 go_enter Try.func72, Try.ntmps72
 go_upto_block 0 with (first | ((with_reducible refine gate_dst (N := 2) rfl ?_); refine box_event ?hg (N := 2) ?hd (cs := #[.int .i64 0, .int .i64 0, .int .i64 0]) (t := 28) ?hr ?_; (case hd => rfl); (case hg => rfl); (case hr => first | (go_simp; done) | (go_simp; rfl)); intro gb278 hg w5 hbox hb; have BK278 := Aside0.mk (hbox); have GW278 := Aside0.mk ((by rw [hg]; exact (keep_size (hk_ HK)) : w.heap.size ≤ gb278)); have GE278 := Aside0.mk ((Nat.le_trans HW0.out (by rw [hg]; exact (keep_size (hk_ HK)) : w.heap.size ≤ gb278) : w0.heap.size ≤ gb278)); have NB0_278 := Aside0.mk ((by rw [hg]; exact Nat.ne_of_lt (IsS76.lt (show IsS76 w0 _ g s0_0 s0_1 s0_2 from IsS76.q HI0)) : g ≠ gb278)); have NB278_0 := Aside0.mk ((by rw [hg]; exact Nat.ne_of_gt (IsS76.lt (show IsS76 w0 _ g s0_0 s0_1 s0_2 from IsS76.q HI0)) : gb278 ≠ g)); replace HK := hkb_ HK hb; replace HB := Aside0.mk (below_step (hbI_ HB (IsS76.ge HI0.out)) hb); replace HI0 := IsS76.b HI0 hb; clear hb hbox hg) | ((with_reducible refine gate_callee (f := 75) rfl ?_); refine gl_ (some 5) Try.func75 #[.pointer (some ⟨g, 0, none⟩)] rfl rfl rfl ?_; (with_reducible refine (spec_l1Cur_grid.calls g s0_0 s0_1 s0_2 t279 t280 t281 t282 t283 w0 _ ?side1 ?side2 A2.out).mono ?_); (case side1 => exact IsS76.q HI0); (case side2 => exact hbI_ HB (IsS76.ge HI0.out)); rintro e w6 ⟨rfl, hi, hb, hk⟩; refine ⟨_, rfl, ?_⟩; replace BK278 := kk_ BK278 hk NB278_0; replace HK := Aside0.mk (KeepBut.trans (hk_ HK) hk (.inl rfl)); replace HB := Aside0.mk (hb); replace HI0 := Aside0.mk (hi); (try clear hb); (try clear hb2); (try clear hk); (try clear hi)) | ((with_reducible refine gate_dst (N := 3) rfl ?_); refine box_event ?hg (N := 3) ?hd (cs := #[.int .i64 0, .int .i64 0, .int .i64 0]) (t := 28) ?hr ?_; (case hd => rfl); (case hg => rfl); (case hr => first | (go_simp; done) | (go_simp; rfl)); intro gb284 hg w7 hbox hb; have BK284 := Aside0.mk (hbox); have GW284 := Aside0.mk ((by rw [hg]; exact (keep_size (hk_ HK)) : w.heap.size ≤ gb284)); have GE284 := Aside0.mk ((Nat.le_trans HW0.out (by rw [hg]; exact (keep_size (hk_ HK)) : w.heap.size ≤ gb284) : w0.heap.size ≤ gb284)); have NB278_284 := nl_ hg BK278; have NB284_278 := ng_ hg BK278; have NB0_284 := Aside0.mk ((by rw [hg]; exact Nat.ne_of_lt (IsS76.lt (show IsS76 w0 _ g s0_0 t282 t283 from IsS76.q HI0)) : g ≠ gb284)); have NB284_0 := Aside0.mk ((by rw [hg]; exact Nat.ne_of_gt (IsS76.lt (show IsS76 w0 _ g s0_0 t282 t283 from IsS76.q HI0)) : gb284 ≠ g)); replace BK278 := kb_ BK278 hb; replace HK := hkb_ HK hb; replace HB := Aside0.mk (below_step (hbI_ HB (IsS76.ge HI0.out)) hb); replace HI0 := IsS76.b HI0 hb; clear hb hbox hg; have hnb8 := NB284_278.out; have hnc8 := NB278_284.out; have hnb9 := NB284_0.out; have hnc9 := NB0_284.out; obtain ⟨hcz10_0, hcz10_1, hcz10_2, hfz10_0, hfz10_1, hfz10_2⟩ := bx3 BK284) | ((with_reducible refine gate_callee (f := 60) rfl ?_); refine gl_ (some 7) Try.func60 #[.pointer (some ⟨g, 0, none⟩), .int .i64 30] rfl rfl rfl ?_; (with_reducible refine (spec_l1Cur_pick.calls g s0_0 t282 t283 30 t285 t286 t287 w0 _ ?side1 ?side2 A3.out).mono ?_); (case side1 => exact IsS76.q HI0); (case side2 => exact hbI_ HB (IsS76.ge HI0.out)); rintro e w11 ⟨rfl, hi, hb, hk⟩; refine ⟨_, rfl, ?_⟩; replace BK278 := Aside0.mk (KeepBut.blk hk (g' := gb278) (o := .cells #[.int .i64 0, .int .i64 0, .int .i64 0] 28 (0, 0)) (kf_ BK278 NB278_284) NB278_0.out (by simp)); replace BK284 := Aside0.mk (KeepBut.blk hk (g' := gb284) (o := .cells #[.int .i64 t279, .int .i64 t280, .int .i64 t281] 28 (0, 0)) (kpq_ (kputs BK284 [(0, _), (1, _), (2, _)])) NB284_0.out (by simp)); replace HK := Aside0.mk (KeepBut.trans (hk_ HK) hk (.inl rfl)); replace HB := Aside0.mk (hb); replace HI0 := Aside0.mk (hi); (try clear hb); (try clear hb2); (try clear hk); (try clear hi)))
 (try simp only [Act.put, List.setIfInBounds_toArray, List.set_cons_zero, List.set_cons_succ])
 go_cut [] (fun wc => ∃ (kq : Nat) (x1001_3 : Int) (x1002_3 : Int) (x285000_3 : Int) (x285001_3 : Int) (x285002_3 : Int), Aside0 (spec_l1Cur_anyGrid.j0 kq s0_0 x1001_3 x1002_3 x285000_3 x285001_3 x285002_3 = some (r1, r2, r3, r4, r5)) ∧ Aside0 (kq ≤ k) ∧ Aside0 (wc.heap[gb278]? = some (.cells #[.int .i64 0, .int .i64 0, .int .i64 0] 28 (0, 0))) ∧ Aside0 (wc.heap[gb284]? = some (.cells #[.int .i64 x285000_3, .int .i64 x285001_3, .int .i64 x285002_3] 28 (0, 0))) ∧ Aside0 (IsS76 w0 wc g s0_0 x1001_3 x1002_3) ∧ Aside0 (KeepBut w wc g none) ∧ Aside0 (Below w0.heap.size w0 wc))
 case first =>
  have H := HC4.out
  clear HC4
  by_cases c12 : t285 = 0
  ·rw [if_pos c12] at H
   have c12b0 : (t285 == 0) = true := beq_iff_eq.mpr c12
   have c12b1 : (t285 != 0) = false := bne_eq_false_iff_eq.mpr c12
   clear c12
   (first | rw [c12b0] | (simp only [i64_w, i32_w]; rw [c12b0]) | skip)
   obtain ⟨y288, hy288⟩ : ∃ y_ : List Int, y_ = (([0, 8, 9, (-1)] : List Int)) := ⟨_, rfl⟩
   replace H : ((spec_l1Cur_among.f s0_0 t286 t287 y288).bind fun bt291 => (spec_l1Cur_anyGrid.j0 k s0_0 bt291.2.1 bt291.2.2 bt291.1 t280 t281)) = some (r1, r2, r3, r4, r5) := by first | (rw [hy288]; with_reducible exact H) | (have H2_ := (Option.bind_some _ _).symm.trans H; rw [hy288]; with_reducible exact H2_) | (have H2_ := (Option.bind_some _ _).symm.trans H; with_reducible exact H2_) | with_reducible exact H | (rw [hy288]; exact H) | exact H
   have Ny288 := Aside0.mk hy288
   clear hy288
   replace H := Option.bind_eq_some_iff.mp H
   obtain ⟨⟨t291, t292, t293⟩, A130, H⟩ := H
   replace H : (spec_l1Cur_anyGrid.j0 k s0_0 t292 t293 t291 t280 t281) = some (r1, r2, r3, r4, r5) := H
   have A13 := Aside0.mk A130
   clear A130
   have H' := Aside0.mk H
   clear H
   go_wp2_with (first | ((with_reducible refine gate_dst (N := 11) rfl ?_); refine Kd.R_lit (Kd.int .i64) _ 3 ?hg (N := 11) ?hd (xs := ([0, 8, 9, (-1)] : List Int)) (inner := [.int .i64 0, .int .i64 8, .int .i64 9, .int .i64 (-1)]) (ok := fun _ => True) (okp := fun _ => True) ?hr ?hp (fun _ hk => hk) trivial (Below.refl _ _) (Nat.le_refl _) (by simp) ?_; (case hd => rfl); (case hg => rfl); (case hr => first | (go_simp; done) | (go_simp; rfl)); (case hp => exact (Reps.one (show Kd.M (Kd.int .i64) _ _ _ 0 [.int .i64 0] from rfl) (Reps.one (show Kd.M (Kd.int .i64) _ _ _ 8 [.int .i64 8] from rfl) (Reps.one (show Kd.M (Kd.int .i64) _ _ _ 9 [.int .i64 9] from rfl) (Reps.one (show Kd.M (Kd.int .i64) _ _ _ (-1) [.int .i64 (-1)] from rfl) (Reps.none _ _)))))); intro v289 w14 ho15 hb hg_ hnew_; clear hg_ hnew_; (first | rw [← Ny288.out] at ho15 | (simp only [Int.reduceToNat] at ho15; rw [← Ny288.out] at ho15)); have HO290 := Aside0.mk (Kd.R_lower ho15 (keep_size (hk_ HK))); replace BK278 := kb_ BK278 hb; replace BK284 := kb_ BK284 hb; replace HK := hkb_ HK hb; replace HB := Aside0.mk (below_step (hbI_ HB (IsS76.ge HI0.out)) hb); replace HI0 := IsS76.b HI0 hb; clear hb ho15; obtain ⟨Ao16, co16, eo16⟩ := Kd.R_slice HO290.out; subst eo16) | ((with_reducible refine gate_callee (f := 57) rfl ?_); refine gl_ (some 12) Try.func57 #[.pointer (some ⟨g, 0, none⟩), .slice Ao16 y288.length co16] rfl rfl rfl ?_; (with_reducible refine (spec_l1Cur_among.calls g s0_0 t286 t287 _ _ y288 t291 t292 t293 w0 _ ?side1 ?side2 ?side3 ?side4 ?side5 A13.out).mono ?_); (case side1 => exact IsS76.q HI0); (case side2 => exact hbI_ HB (IsS76.ge HI0.out)); (case side3 => exact Kd.C_o HO290); (case side4 => exact (Kd.R_reads' HO290.out).2.1); (case side5 => exact far_slice (IsS76.own_ne HI0.out HO290.out (by decide))); rintro e w17 ⟨rfl, hi, hb, hk⟩; refine ⟨_, rfl, ?_⟩; have n0_ := Aside0.mk (KeepBut.blk hk (kp_ BK278) NB278_0.out (by simp)); have n1_ := Aside0.mk (KeepBut.blk hk (kp_ BK284) NB284_0.out (by simp)); have n2_ := IsS76.rk HI0 HO290 hk; have n3_ := Aside0.mk (KeepBut.trans (hk_ HK) hk (.inl rfl)); have n4_ := Aside0.mk (hb); have n5_ := Aside0.mk (hi); clear BK278 BK284 HO290 HK HB HI0; have BK278 := n0_; have BK284 := n1_; have HO290 := n2_; have HK := n3_; have HB := n4_; have HI0 := n5_; clear n0_ n1_ n2_ n3_ n4_ n5_; (try clear hb); (try clear hb2); (try clear hk); (try clear hi); have hnb18 := NB284_278.out; have hnc18 := NB278_284.out; have hnb19 := NB284_0.out; have hnc19 := NB0_284.out; obtain ⟨hcz20_0, hcz20_1, hcz20_2, hfz20_0, hfz20_1, hfz20_2⟩ := bx3 BK284))
   go_meet
   case rel => exact ⟨_, (t292), (t293), (t291), (t280), (t281), H', ⟨by first | omega | exact Nat.le_refl _⟩, ⟨kf_ BK278 NB278_284⟩, ⟨kpq_ (kputs BK284 [(0, _)])⟩, ⟨IsS76.q HI0⟩, ⟨hk_ HK⟩, ⟨hbI_ HB (IsS76.ge HI0.out)⟩⟩
  ·rw [if_neg c12] at H
   have c12b0 : (t285 == 0) = false := beq_eq_false_iff_ne.mpr c12
   have c12b1 : (t285 != 0) = true := bne_iff_ne.mpr c12
   (first | rw [c12b0] | (simp only [i64_w, i32_w]; rw [c12b0]) | skip)
   by_cases c21 : t285 = 1
   ·rw [if_pos c21] at H
    have c21b0 : (t285 == 1) = true := beq_iff_eq.mpr c21
    have c21b1 : (t285 != 1) = false := bne_eq_false_iff_eq.mpr c21
    clear c21
    obtain ⟨y294, hy294⟩ : ∃ y_ : List Int, y_ = (([0, 6, 7, (-1)] : List Int)) := ⟨_, rfl⟩
    replace H : ((spec_l1Cur_among.f s0_0 t286 t287 y294).bind fun bt297 => (spec_l1Cur_anyGrid.j0 k s0_0 bt297.2.1 bt297.2.2 t279 bt297.1 t281)) = some (r1, r2, r3, r4, r5) := by first | (rw [hy294]; with_reducible exact H) | (have H2_ := (Option.bind_some _ _).symm.trans H; rw [hy294]; with_reducible exact H2_) | (have H2_ := (Option.bind_some _ _).symm.trans H; with_reducible exact H2_) | with_reducible exact H | (rw [hy294]; exact H) | exact H
    have Ny294 := Aside0.mk hy294
    clear hy294
    replace H := Option.bind_eq_some_iff.mp H
    obtain ⟨⟨t297, t298, t299⟩, A220, H⟩ := H
    replace H : (spec_l1Cur_anyGrid.j0 k s0_0 t298 t299 t279 t297 t281) = some (r1, r2, r3, r4, r5) := H
    have A22 := Aside0.mk A220
    clear A220
    have H' := Aside0.mk H
    clear H
    go_wp2_with (first | ((with_reducible refine gate_dst (N := 17) rfl ?_); refine Kd.R_lit (Kd.int .i64) _ 3 ?hg (N := 17) ?hd (xs := ([0, 6, 7, (-1)] : List Int)) (inner := [.int .i64 0, .int .i64 6, .int .i64 7, .int .i64 (-1)]) (ok := fun _ => True) (okp := fun _ => True) ?hr ?hp (fun _ hk => hk) trivial (Below.refl _ _) (Nat.le_refl _) (by simp) ?_; (case hd => rfl); (case hg => rfl); (case hr => first | (go_simp; done) | (go_simp; rfl)); (case hp => exact (Reps.one (show Kd.M (Kd.int .i64) _ _ _ 0 [.int .i64 0] from rfl) (Reps.one (show Kd.M (Kd.int .i64) _ _ _ 6 [.int .i64 6] from rfl) (Reps.one (show Kd.M (Kd.int .i64) _ _ _ 7 [.int .i64 7] from rfl) (Reps.one (show Kd.M (Kd.int .i64) _ _ _ (-1) [.int .i64 (-1)] from rfl) (Reps.none _ _)))))); intro v295 w23 ho24 hb hg_ hnew_; clear hg_ hnew_; (first | rw [← Ny294.out] at ho24 | (simp only [Int.reduceToNat] at ho24; rw [← Ny294.out] at ho24)); have HO296 := Aside0.mk (Kd.R_lower ho24 (keep_size (hk_ HK))); replace BK278 := kb_ BK278 hb; replace BK284 := kb_ BK284 hb; replace HK := hkb_ HK hb; replace HB := Aside0.mk (below_step (hbI_ HB (IsS76.ge HI0.out)) hb); replace HI0 := IsS76.b HI0 hb; clear hb ho24; obtain ⟨Ao25, co25, eo25⟩ := Kd.R_slice HO296.out; subst eo25) | ((with_reducible refine gate_callee (f := 57) rfl ?_); refine gl_ (some 18) Try.func57 #[.pointer (some ⟨g, 0, none⟩), .slice Ao25 y294.length co25] rfl rfl rfl ?_; (with_reducible refine (spec_l1Cur_among.calls g s0_0 t286 t287 _ _ y294 t297 t298 t299 w0 _ ?side1 ?side2 ?side3 ?side4 ?side5 A22.out).mono ?_); (case side1 => exact IsS76.q HI0); (case side2 => exact hbI_ HB (IsS76.ge HI0.out)); (case side3 => exact Kd.C_o HO296); (case side4 => exact (Kd.R_reads' HO296.out).2.1); (case side5 => exact far_slice (IsS76.own_ne HI0.out HO296.out (by decide))); rintro e w26 ⟨rfl, hi, hb, hk⟩; refine ⟨_, rfl, ?_⟩; have n0_ := Aside0.mk (KeepBut.blk hk (kp_ BK278) NB278_0.out (by simp)); have n1_ := Aside0.mk (KeepBut.blk hk (kp_ BK284) NB284_0.out (by simp)); have n2_ := IsS76.rk HI0 HO296 hk; have n3_ := Aside0.mk (KeepBut.trans (hk_ HK) hk (.inl rfl)); have n4_ := Aside0.mk (hb); have n5_ := Aside0.mk (hi); clear BK278 BK284 HO296 HK HB HI0; have BK278 := n0_; have BK284 := n1_; have HO296 := n2_; have HK := n3_; have HB := n4_; have HI0 := n5_; clear n0_ n1_ n2_ n3_ n4_ n5_; (try clear hb); (try clear hb2); (try clear hk); (try clear hi); have hnb27 := NB284_278.out; have hnc27 := NB278_284.out; have hnb28 := NB284_0.out; have hnc28 := NB0_284.out; obtain ⟨hcz29_0, hcz29_1, hcz29_2, hfz29_0, hfz29_1, hfz29_2⟩ := bx3 BK284))
    go_meet
    case rel => exact ⟨_, (t298), (t299), (t279), (t297), (t281), H', ⟨by first | omega | exact Nat.le_refl _⟩, ⟨kf_ BK278 NB278_284⟩, ⟨kpq_ (kputs BK284 [(1, _)])⟩, ⟨IsS76.q HI0⟩, ⟨hk_ HK⟩, ⟨hbI_ HB (IsS76.ge HI0.out)⟩⟩
   ·rw [if_neg c21] at H
    have c21b0 : (t285 == 1) = false := beq_eq_false_iff_ne.mpr c21
    have c21b1 : (t285 != 1) = true := bne_iff_ne.mpr c21
    by_cases c30 : t285 = 2
    ·rw [if_pos c30] at H
     have c30b0 : (t285 == 2) = true := beq_iff_eq.mpr c30
     have c30b1 : (t285 != 2) = false := bne_eq_false_iff_eq.mpr c30
     clear c30
     obtain ⟨y300, hy300⟩ : ∃ y_ : List Int, y_ = (([0, 5, 6, (-1)] : List Int)) := ⟨_, rfl⟩
     replace H : ((spec_l1Cur_among.f s0_0 t286 t287 y300).bind fun bt303 => (spec_l1Cur_anyGrid.j0 k s0_0 bt303.2.1 bt303.2.2 t279 t280 bt303.1)) = some (r1, r2, r3, r4, r5) := by first | (rw [hy300]; with_reducible exact H) | (have H2_ := (Option.bind_some _ _).symm.trans H; rw [hy300]; with_reducible exact H2_) | (have H2_ := (Option.bind_some _ _).symm.trans H; with_reducible exact H2_) | with_reducible exact H | (rw [hy300]; exact H) | exact H
     have Ny300 := Aside0.mk hy300
     clear hy300
     replace H := Option.bind_eq_some_iff.mp H
     obtain ⟨⟨t303, t304, t305⟩, A310, H⟩ := H
     replace H : (spec_l1Cur_anyGrid.j0 k s0_0 t304 t305 t279 t280 t303) = some (r1, r2, r3, r4, r5) := H
     have A31 := Aside0.mk A310
     clear A310
     have H' := Aside0.mk H
     clear H
     go_wp2_with (first | ((with_reducible refine gate_dst (N := 23) rfl ?_); refine Kd.R_lit (Kd.int .i64) _ 3 ?hg (N := 23) ?hd (xs := ([0, 5, 6, (-1)] : List Int)) (inner := [.int .i64 0, .int .i64 5, .int .i64 6, .int .i64 (-1)]) (ok := fun _ => True) (okp := fun _ => True) ?hr ?hp (fun _ hk => hk) trivial (Below.refl _ _) (Nat.le_refl _) (by simp) ?_; (case hd => rfl); (case hg => rfl); (case hr => first | (go_simp; done) | (go_simp; rfl)); (case hp => exact (Reps.one (show Kd.M (Kd.int .i64) _ _ _ 0 [.int .i64 0] from rfl) (Reps.one (show Kd.M (Kd.int .i64) _ _ _ 5 [.int .i64 5] from rfl) (Reps.one (show Kd.M (Kd.int .i64) _ _ _ 6 [.int .i64 6] from rfl) (Reps.one (show Kd.M (Kd.int .i64) _ _ _ (-1) [.int .i64 (-1)] from rfl) (Reps.none _ _)))))); intro v301 w32 ho33 hb hg_ hnew_; clear hg_ hnew_; (first | rw [← Ny300.out] at ho33 | (simp only [Int.reduceToNat] at ho33; rw [← Ny300.out] at ho33)); have HO302 := Aside0.mk (Kd.R_lower ho33 (keep_size (hk_ HK))); replace BK278 := kb_ BK278 hb; replace BK284 := kb_ BK284 hb; replace HK := hkb_ HK hb; replace HB := Aside0.mk (below_step (hbI_ HB (IsS76.ge HI0.out)) hb); replace HI0 := IsS76.b HI0 hb; clear hb ho33; obtain ⟨Ao34, co34, eo34⟩ := Kd.R_slice HO302.out; subst eo34) | ((with_reducible refine gate_callee (f := 57) rfl ?_); refine gl_ (some 24) Try.func57 #[.pointer (some ⟨g, 0, none⟩), .slice Ao34 y300.length co34] rfl rfl rfl ?_; (with_reducible refine (spec_l1Cur_among.calls g s0_0 t286 t287 _ _ y300 t303 t304 t305 w0 _ ?side1 ?side2 ?side3 ?side4 ?side5 A31.out).mono ?_); (case side1 => exact IsS76.q HI0); (case side2 => exact hbI_ HB (IsS76.ge HI0.out)); (case side3 => exact Kd.C_o HO302); (case side4 => exact (Kd.R_reads' HO302.out).2.1); (case side5 => exact far_slice (IsS76.own_ne HI0.out HO302.out (by decide))); rintro e w35 ⟨rfl, hi, hb, hk⟩; refine ⟨_, rfl, ?_⟩; have n0_ := Aside0.mk (KeepBut.blk hk (kp_ BK278) NB278_0.out (by simp)); have n1_ := Aside0.mk (KeepBut.blk hk (kp_ BK284) NB284_0.out (by simp)); have n2_ := IsS76.rk HI0 HO302 hk; have n3_ := Aside0.mk (KeepBut.trans (hk_ HK) hk (.inl rfl)); have n4_ := Aside0.mk (hb); have n5_ := Aside0.mk (hi); clear BK278 BK284 HO302 HK HB HI0; have BK278 := n0_; have BK284 := n1_; have HO302 := n2_; have HK := n3_; have HB := n4_; have HI0 := n5_; clear n0_ n1_ n2_ n3_ n4_ n5_; (try clear hb); (try clear hb2); (try clear hk); (try clear hi); have hnb36 := NB284_278.out; have hnc36 := NB278_284.out; have hnb37 := NB284_0.out; have hnc37 := NB0_284.out; obtain ⟨hcz38_0, hcz38_1, hcz38_2, hfz38_0, hfz38_1, hfz38_2⟩ := bx3 BK284))
     go_meet
     case rel => exact ⟨_, (t304), (t305), (t279), (t280), (t303), H', ⟨by first | omega | exact Nat.le_refl _⟩, ⟨kf_ BK278 NB278_284⟩, ⟨kpq_ (kputs BK284 [(2, _)])⟩, ⟨IsS76.q HI0⟩, ⟨hk_ HK⟩, ⟨hbI_ HB (IsS76.ge HI0.out)⟩⟩
    ·rw [if_neg c30] at H
     have c30b0 : (t285 == 2) = false := beq_eq_false_iff_ne.mpr c30
     have c30b1 : (t285 != 2) = true := bne_iff_ne.mpr c30
     by_cases c39 : t285 = 3
     ·rw [if_pos c39] at H
      have c39b0 : (t285 == 3) = true := beq_iff_eq.mpr c39
      have c39b1 : (t285 != 3) = false := bne_eq_false_iff_eq.mpr c39
      clear c39
      obtain ⟨y306, hy306⟩ : ∃ y_ : List Int, y_ = (([2, 3] : List Int)) := ⟨_, rfl⟩
      replace H : ((spec_l1Cur_among.f s0_0 t286 t287 y306).bind fun bt309 => (spec_l1Cur_anyGrid.j0 k s0_0 bt309.2.1 bt309.2.2 8 6 bt309.1)) = some (r1, r2, r3, r4, r5) := by first | (rw [hy306]; with_reducible exact H) | (have H2_ := (Option.bind_some _ _).symm.trans H; rw [hy306]; with_reducible exact H2_) | (have H2_ := (Option.bind_some _ _).symm.trans H; with_reducible exact H2_) | with_reducible exact H | (rw [hy306]; exact H) | exact H
      have Ny306 := Aside0.mk hy306
      clear hy306
      replace H := Option.bind_eq_some_iff.mp H
      obtain ⟨⟨t309, t310, t311⟩, A400, H⟩ := H
      replace H : (spec_l1Cur_anyGrid.j0 k s0_0 t310 t311 8 6 t309) = some (r1, r2, r3, r4, r5) := H
      have A40 := Aside0.mk A400
      clear A400
      have H' := Aside0.mk H
      clear H
      go_wp2_with (first | ((with_reducible refine gate_dst (N := 29) rfl ?_); refine Kd.R_lit (Kd.int .i64) _ 3 ?hg (N := 29) ?hd (xs := ([2, 3] : List Int)) (inner := [.int .i64 2, .int .i64 3]) (ok := fun _ => True) (okp := fun _ => True) ?hr ?hp (fun _ hk => hk) trivial (Below.refl _ _) (Nat.le_refl _) (by simp) ?_; (case hd => rfl); (case hg => rfl); (case hr => first | (go_simp; done) | (go_simp; rfl)); (case hp => exact (Reps.one (show Kd.M (Kd.int .i64) _ _ _ 2 [.int .i64 2] from rfl) (Reps.one (show Kd.M (Kd.int .i64) _ _ _ 3 [.int .i64 3] from rfl) (Reps.none _ _)))); intro v307 w41 ho42 hb hg_ hnew_; clear hg_ hnew_; (first | rw [← Ny306.out] at ho42 | (simp only [Int.reduceToNat] at ho42; rw [← Ny306.out] at ho42)); have HO308 := Aside0.mk (Kd.R_lower ho42 (keep_size (hk_ HK))); replace BK278 := kb_ BK278 hb; replace BK284 := kb_ BK284 hb; replace HK := hkb_ HK hb; replace HB := Aside0.mk (below_step (hbI_ HB (IsS76.ge HI0.out)) hb); replace HI0 := IsS76.b HI0 hb; clear hb ho42; obtain ⟨Ao43, co43, eo43⟩ := Kd.R_slice HO308.out; subst eo43) | ((with_reducible refine gate_callee (f := 57) rfl ?_); refine gl_ (some 30) Try.func57 #[.pointer (some ⟨g, 0, none⟩), .slice Ao43 y306.length co43] rfl rfl rfl ?_; (with_reducible refine (spec_l1Cur_among.calls g s0_0 t286 t287 _ _ y306 t309 t310 t311 w0 _ ?side1 ?side2 ?side3 ?side4 ?side5 A40.out).mono ?_); (case side1 => exact IsS76.q HI0); (case side2 => exact hbI_ HB (IsS76.ge HI0.out)); (case side3 => exact Kd.C_o HO308); (case side4 => exact (Kd.R_reads' HO308.out).2.1); (case side5 => exact far_slice (IsS76.own_ne HI0.out HO308.out (by decide))); rintro e w44 ⟨rfl, hi, hb, hk⟩; refine ⟨_, rfl, ?_⟩; have n0_ := Aside0.mk (KeepBut.blk hk (kp_ BK278) NB278_0.out (by simp)); have n1_ := Aside0.mk (KeepBut.blk hk (kp_ BK284) NB284_0.out (by simp)); have n2_ := IsS76.rk HI0 HO308 hk; have n3_ := Aside0.mk (KeepBut.trans (hk_ HK) hk (.inl rfl)); have n4_ := Aside0.mk (hb); have n5_ := Aside0.mk (hi); clear BK278 BK284 HO308 HK HB HI0; have BK278 := n0_; have BK284 := n1_; have HO308 := n2_; have HK := n3_; have HB := n4_; have HI0 := n5_; clear n0_ n1_ n2_ n3_ n4_ n5_; (try clear hb); (try clear hb2); (try clear hk); (try clear hi); have hnb45 := NB284_278.out; have hnc45 := NB278_284.out; have hnb46 := NB284_0.out; have hnc46 := NB0_284.out; obtain ⟨hcz47_0, hcz47_1, hcz47_2, hfz47_0, hfz47_1, hfz47_2⟩ := bx3 BK284))
      go_meet
      case rel => exact ⟨_, (t310), (t311), (8), (6), (t309), H', ⟨by first | omega | exact Nat.le_refl _⟩, ⟨kf_ BK278 NB278_284⟩, ⟨kpq_ (kputs BK284 [(0, _), (1, _), (2, _)])⟩, ⟨IsS76.q HI0⟩, ⟨hk_ HK⟩, ⟨hbI_ HB (IsS76.ge HI0.out)⟩⟩
     ·rw [if_neg c39] at H
      have c39b0 : (t285 == 3) = false := beq_eq_false_iff_ne.mpr c39
      have c39b1 : (t285 != 3) = true := bne_iff_ne.mpr c39
      by_cases c48 : t285 = 4
      ·rw [if_pos c48] at H
       have c48b0 : (t285 == 4) = true := beq_iff_eq.mpr c48
       have c48b1 : (t285 != 4) = false := bne_eq_false_iff_eq.mpr c48
       clear c48
       have H' := Aside0.mk H
       clear H
       have hnb49 := NB284_278.out
       have hnc49 := NB278_284.out
       have hnb50 := NB284_0.out
       have hnc50 := NB0_284.out
       have hcz51_0 : w11.cell? ⟨gb284, 0, none⟩ = some (.int .i64 t279) := (blk_cell BK284.out 0).trans rfl
       have hcz51_1 : w11.cell? ⟨gb284, 1, none⟩ = some (.int .i64 t280) := (blk_cell BK284.out 1).trans rfl
       have hcz51_2 : w11.cell? ⟨gb284, 2, none⟩ = some (.int .i64 t281) := (blk_cell BK284.out 2).trans rfl
       have hfz51_0 := blk_frozen BK284.out 0
       have hfz51_1 := blk_frozen BK284.out 1
       have hfz51_2 := blk_frozen BK284.out 2
       go_wp2
       go_meet
       case rel => exact ⟨_, (t286), (t287), (1), (1), (4611686018427387904), H', ⟨by first | omega | exact Nat.le_refl _⟩, ⟨kf_ BK278 NB278_284⟩, ⟨kpq_ (kputs BK284 [(0, _), (1, _), (2, _)])⟩, ⟨IsS76.q HI0⟩, ⟨hk_ HK⟩, ⟨hbI_ HB (IsS76.ge HI0.out)⟩⟩
      ·rw [if_neg c48] at H
       have c48b0 : (t285 == 4) = false := beq_eq_false_iff_ne.mpr c48
       have c48b1 : (t285 != 4) = true := bne_iff_ne.mpr c48
       have H' := Aside0.mk H
       clear H
       go_wp2
       go_meet
       case rel => exact ⟨_, (t286), (t287), (t279), (t280), (t281), H', ⟨by first | omega | exact Nat.le_refl _⟩, ⟨kp_ BK278⟩, ⟨kp_ BK284⟩, ⟨IsS76.q HI0⟩, ⟨hk_ HK⟩, ⟨hbI_ HB (IsS76.ge HI0.out)⟩⟩
 case rest =>
  clear HC4
  (try clear c1); (try clear c2); (try clear p2); (try clear c3); (try clear c4); (try clear c5); (try clear c6); (try clear c7); (try clear c8); (try clear c9); (try clear c12); (try clear c12b0); (try clear c12b1); (try clear c18); (try clear c19); (try clear c21); (try clear c21b0); (try clear c21b1); (try clear c27); (try clear c28); (try clear c30); (try clear c30b0); (try clear c30b1); (try clear c36); (try clear c37); (try clear c39); (try clear c39b0); (try clear c39b1); (try clear c45); (try clear c46); (try clear c48); (try clear c48b0); (try clear c48b1); (try clear c49); (try clear c50); (try clear hcz10_0); (try clear hcz10_1); (try clear hcz10_2); (try clear hfz10_0); (try clear hfz10_1); (try clear hfz10_2)
  obtain ⟨kq, x1001_3, x1002_3, x285000_3, x285001_3, x285002_3, HA, HJ3, BK278, BK284, HI0, HK, HB⟩ := hcut
  cases kq with
  | zero => exact absurd HA.out (by simp [spec_l1Cur_anyGrid.j0])
  | succ kj3 =>
   have H := HA.out
   clear HA
   simp only [spec_l1Cur_anyGrid.j0] at H
   simp only [Option.some.injEq, Prod.mk.injEq] at H
   obtain ⟨rfl, rfl, rfl, rfl, rfl⟩ := H
   have hnb52 := NB284_278.out
   have hnc52 := NB278_284.out
   have hnb53 := NB284_0.out
   have hnc53 := NB0_284.out
   have hcz54_0 : wc.cell? ⟨gb284, 0, none⟩ = some (.int .i64 x285000_3) := (blk_cell BK284.out 0).trans rfl
   have hcz54_1 : wc.cell? ⟨gb284, 1, none⟩ = some (.int .i64 x285001_3) := (blk_cell BK284.out 1).trans rfl
   have hcz54_2 : wc.cell? ⟨gb284, 2, none⟩ = some (.int .i64 x285002_3) := (blk_cell BK284.out 2).trans rfl
   have hfz54_0 := blk_frozen BK284.out 0
   have hfz54_1 := blk_frozen BK284.out 1
   have hfz54_2 := blk_frozen BK284.out 2
   have hnb55 := NB278_0.out
   have hnc55 := NB0_278.out
   have hcz56_0 : wc.cell? ⟨gb278, 0, none⟩ = some (.int .i64 0) := (blk_cell BK278.out 0).trans rfl
   have hcz56_1 : wc.cell? ⟨gb278, 1, none⟩ = some (.int .i64 0) := (blk_cell BK278.out 1).trans rfl
   have hcz56_2 : wc.cell? ⟨gb278, 2, none⟩ = some (.int .i64 0) := (blk_cell BK278.out 2).trans rfl
   have hfz56_0 := blk_frozen BK278.out 0
   have hfz56_1 := blk_frozen BK278.out 1
   have hfz56_2 := blk_frozen BK278.out 2
   go_wp2
   refine bodyPost_ret (results_cell_row rfl _ _ gb278 28 #[.int .i64 x285000_3, .int .i64 x285001_3, .int .i64 x285002_3] (0, 0) _ rfl (kpq_ (kputs BK278 [(0, _), (1, _), (2, _)])) Try.underlying28 rfl (by kernel_rfl)) rfl ?_
   exact ⟨by first | rfl | (simp [errW_none, errW_some] <;> rfl) | (simp [*, errW_none, errW_some] <;> rfl), IsS76.q HI0, hbI_ HB (IsS76.ge HI0.out), hk_ HK⟩

end Go.Proofs.Ytdfjlelbkkaloaa.PFnGrades
