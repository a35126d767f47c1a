-- Laid for this claim by wip/tools/print2.sh, a changed copy of the kit's print (wip/tools/patch_print.py): not by print.sh.
import Derived.Test.YtceajigggcihnaaPFnCoarsex14
import Derived.Test.YtceajigggcihnaaVFnCoarse
namespace Go.Proofs.Ytceajigggcihnaa.PFnCoarse
open Go.RowKit Go.Proofs.YtceajigggcihnaaW.PrintWords Go.Proofs.YtceajigggcihnaaW.PrintLast Go.Proofs.YtceajigggcihnaaW.PrintMore
attribute [local go_sem] max2_int min2_int max_two min_two max_three min_three max_four min_four
set_option linter.unusedVariables false
set_option linter.unusedSimpArgs false

/-! ### spec_l1Cur_anyGrid: function 97 -/
def spec_l1Cur_anyGrid.j0 : Nat → List Int → Int → Int → Int → Int → Int → Option (Int × Int × Int × Int × Int)
 | 0, _, _, _, _, _, _ => none
 | k + 1, x1000, x1001, x1002, x463000, x463001, x463002 => some (x463000, x463001, x463002, x1001, x1002)
def spec_l1Cur_anyGrid.f (k : Nat) (s0_0 : List Int) (s0_1 : Int) (s0_2 : Int) : Option (Int × Int × Int × Int × Int) := (spec_l1Cur_grid.f s0_0 s0_1 s0_2).bind fun bt457 => ((spec_l1Cur_pick.f s0_0 bt457.2.2.2.1 bt457.2.2.2.2 30).bind fun bt463 => (if bt463.1 = 0 then ((spec_l1Cur_among.f s0_0 bt463.2.1 bt463.2.2 (([0, 8, 9, (-1)] : List Int))).bind fun bt469 => (spec_l1Cur_anyGrid.j0 k s0_0 bt469.2.1 bt469.2.2 bt469.1 bt457.2.1 bt457.2.2.1)) else (if bt463.1 = 1 then ((spec_l1Cur_among.f s0_0 bt463.2.1 bt463.2.2 (([0, 6, 7, (-1)] : List Int))).bind fun bt475 => (spec_l1Cur_anyGrid.j0 k s0_0 bt475.2.1 bt475.2.2 bt457.1 bt475.1 bt457.2.2.1)) else (if bt463.1 = 2 then ((spec_l1Cur_among.f s0_0 bt463.2.1 bt463.2.2 (([0, 5, 6, (-1)] : List Int))).bind fun bt481 => (spec_l1Cur_anyGrid.j0 k s0_0 bt481.2.1 bt481.2.2 bt457.1 bt457.2.1 bt481.1)) else (if bt463.1 = 3 then ((spec_l1Cur_among.f s0_0 bt463.2.1 bt463.2.2 (([2, 3] : List Int))).bind fun bt487 => (spec_l1Cur_anyGrid.j0 k s0_0 bt487.2.1 bt487.2.2 8 6 bt487.1)) else (if bt463.1 = 4 then (spec_l1Cur_anyGrid.j0 k s0_0 bt463.2.1 bt463.2.2 1 1 4611686018427387904) else (spec_l1Cur_anyGrid.j0 k s0_0 bt463.2.1 bt463.2.2 bt457.1 bt457.2.1 bt457.2.2.1)))))))
set_option maxHeartbeats 8000000 in
set_option maxRecDepth 100000 in
theorem spec_l1Cur_anyGrid.calls (k : Nat) (g : Nat) (s0_0 : List Int) (s0_1 : Int) (s0_2 : Int) (r1 : Int) (r2 : Int) (r3 : Int) (r4 : Int) (r5 : Int) (w0 w : World) (hI : IsS106 w0 w g s0_0 s0_1 s0_2) (hB : Below w0.heap.size w0 w) (h : spec_l1Cur_anyGrid.f k s0_0 s0_1 s0_2 = some (r1, r2, r3, r4, r5)) :
  Calls Try.prog 97 #[.pointer (some ⟨g, 0, none⟩)] w fun e w' => e = .returned (.agg #[.int .i64 r1, .int .i64 r2, .int .i64 r3]) ∧ IsS106 w0 w' g s0_0 r4 r5 ∧ Below w0.heap.size w0 w' ∧ KeepBut w w' g none := by
 have hu32 := Try.underlying32
 have HI0 := Aside0.mk hI
 have HK := Aside0.mk (KeepBut.refl w g none)
 have HL := Aside0.mk hB.size
 clear hI
 have HW0 := Aside0.mk hB.size
 have HB := Aside0.mk hB
 clear hB
 have H := h
 unfold spec_l1Cur_anyGrid.f at H
 clear h
 replace H := Option.bind_eq_some_iff.mp H
 obtain ⟨⟨t457, t458, t459, t460, t461⟩, A20, H⟩ := H
 try dsimp only at H
 have A2 := Aside0.mk A20
 clear A20
 replace H := Option.bind_eq_some_iff.mp H
 obtain ⟨⟨t463, t464, t465⟩, A30, H⟩ := H
 try dsimp only at H
 have A3 := Aside0.mk A30
 clear A30
 have HC4 := Aside0.mk H
 clear H
 go_enter Try.func97, Try.ntmps97
 go_upto_block 0 with (first | ((with_reducible refine gate_dst (N := 2) rfl ?_); refine bv_ 2 (cs := #[.int .i64 0, .int .i64 0, .int .i64 0]) (t := 32) ?_; intro gb456 hg w5 hbox hb; have BK456 := Aside0.mk (hbox); have GW456 := Aside0.mk ((by rw [hg]; exact (keep_size (hk_ HK)) : w.heap.size ≤ gb456)); have GE456 := Aside0.mk ((Nat.le_trans HW0.out (by rw [hg]; exact (keep_size (hk_ HK)) : w.heap.size ≤ gb456) : w0.heap.size ≤ gb456)); have NB0_456 := Aside0.mk ((by rw [hg]; exact Nat.ne_of_lt (IsS106.lt (show IsS106 w0 _ g s0_0 s0_1 s0_2 from IsS106.q HI0)) : g ≠ gb456)); have NB456_0 := Aside0.mk ((by rw [hg]; exact Nat.ne_of_gt (IsS106.lt (show IsS106 w0 _ g s0_0 s0_1 s0_2 from IsS106.q HI0)) : gb456 ≠ g)); replace HK := hkb_ HK hb; replace HB := Aside0.mk (below_step (hbI_ HB (IsS106.ge HI0.out)) hb); replace HI0 := IsS106.b HI0 hb; clear hb hbox hg) | ((with_reducible refine gate_callee (f := 121) rfl ?_); refine gl_ (some 5) Try.func121 #[.pointer (some ⟨g, 0, none⟩)] rfl rfl rfl ?_; (with_reducible refine (spec_l1Cur_grid.calls g s0_0 s0_1 s0_2 t457 t458 t459 t460 t461 w0 _ ?side1 ?side2 A2.out).mono ?_); (case side1 => exact IsS106.q HI0); (case side2 => exact hbI_ HB (IsS106.ge HI0.out)); rintro e w6 ⟨rfl, hi, hb, hk⟩; refine ⟨_, rfl, ?_⟩; replace BK456 := kk_ BK456 hk NB456_0; replace HK := Aside0.mk (KeepBut.trans (hk_ HK) hk (.inl rfl)); replace HB := Aside0.mk (hb); replace HI0 := Aside0.mk (hi)) | ((with_reducible refine gate_dst (N := 3) rfl ?_); refine bv_ 3 (cs := #[.int .i64 0, .int .i64 0, .int .i64 0]) (t := 32) ?_; intro gb462 hg w7 hbox hb; have BK462 := Aside0.mk (hbox); have GW462 := Aside0.mk ((by rw [hg]; exact (keep_size (hk_ HK)) : w.heap.size ≤ gb462)); have GE462 := Aside0.mk ((Nat.le_trans HW0.out (by rw [hg]; exact (keep_size (hk_ HK)) : w.heap.size ≤ gb462) : w0.heap.size ≤ gb462)); have NB456_462 := nl_ hg BK456; have NB462_456 := ng_ hg BK456; have NB0_462 := Aside0.mk ((by rw [hg]; exact Nat.ne_of_lt (IsS106.lt (show IsS106 w0 _ g s0_0 t460 t461 from IsS106.q HI0)) : g ≠ gb462)); have NB462_0 := Aside0.mk ((by rw [hg]; exact Nat.ne_of_gt (IsS106.lt (show IsS106 w0 _ g s0_0 t460 t461 from IsS106.q HI0)) : gb462 ≠ g)); replace BK456 := kb_ BK456 hb; replace HK := hkb_ HK hb; replace HB := Aside0.mk (below_step (hbI_ HB (IsS106.ge HI0.out)) hb); replace HI0 := IsS106.b HI0 hb; clear hb hbox hg; have := NB462_456.out; have := NB456_462.out; have := NB462_0.out; have := NB0_462.out; obtain ⟨hcz10_0, hcz10_1, hcz10_2, hfz10_0, hfz10_1, hfz10_2⟩ := bx3 BK462) | ((with_reducible refine gate_callee (f := 87) rfl ?_); refine gl_ (some 7) Try.func87 #[.pointer (some ⟨g, 0, none⟩), .int .i64 30] rfl rfl rfl ?_; (with_reducible refine (spec_l1Cur_pick.calls g s0_0 t460 t461 30 t463 t464 t465 w0 _ ?side1 ?side2 A3.out).mono ?_); (case side1 => exact IsS106.q HI0); (case side2 => exact hbI_ HB (IsS106.ge HI0.out)); rintro e w11 ⟨rfl, hi, hb, hk⟩; refine ⟨_, rfl, ?_⟩; replace BK456 := Aside0.mk (KeepBut.blk hk (g' := gb456) (o := .cells #[.int .i64 0, .int .i64 0, .int .i64 0] 32 (0, 0)) (kf_ BK456 NB456_462) NB456_0.out (by simp)); replace BK462 := Aside0.mk (KeepBut.blk hk (g' := gb462) (o := .cells #[.int .i64 t457, .int .i64 t458, .int .i64 t459] 32 (0, 0)) (kpq_ (kputs BK462 [(0, _), (1, _), (2, _)])) NB462_0.out (by simp)); replace HK := Aside0.mk (KeepBut.trans (hk_ HK) hk (.inl rfl)); replace HB := Aside0.mk (hb); replace HI0 := Aside0.mk (hi)))
 (try simp only [Act.put, List.setIfInBounds_toArray, List.set_cons_zero, List.set_cons_succ])
 go_cut [] (fun wc => ∃ (kq : Nat) (x1001_3 : Int) (x1002_3 : Int) (x463000_3 : Int) (x463001_3 : Int) (x463002_3 : Int), Aside0 (spec_l1Cur_anyGrid.j0 kq s0_0 x1001_3 x1002_3 x463000_3 x463001_3 x463002_3 = some (r1, r2, r3, r4, r5)) ∧ Aside0 (kq ≤ k) ∧ Aside0 (wc.heap[gb456]? = some (.cells #[.int .i64 0, .int .i64 0, .int .i64 0] 32 (0, 0))) ∧ Aside0 (wc.heap[gb462]? = some (.cells #[.int .i64 x463000_3, .int .i64 x463001_3, .int .i64 x463002_3] 32 (0, 0))) ∧ Aside0 (IsS106 w0 wc g s0_0 x1001_3 x1002_3) ∧ Aside0 (KeepBut w wc g none) ∧ Aside0 (Below w0.heap.size w0 wc))
 case first =>
  have H := HC4.out
  clear HC4
  by_cases c12 : t463 = 0
  ·rw [if_pos c12] at H
   have c12b0 : (t463 == 0) = true := beq_iff_eq.mpr c12
   have c12b1 : (t463 != 0) = false := bne_eq_false_iff_eq.mpr c12
   clear c12
   (first | rw [c12b0] | (simp only [i64_w, i32_w]; rw [c12b0]) | skip)
   obtain ⟨y466, hy466⟩ : ∃ y_ : List Int, y_ = (([0, 8, 9, (-1)] : List Int)) := ⟨_, rfl⟩
   (try with_reducible replace H := (Option.bind_some _ _).symm.trans H); (try dsimp only at H); (try rw [← hy466] at H)
   have Ny466 := Aside0.mk hy466
   clear hy466
   replace H := Option.bind_eq_some_iff.mp H
   obtain ⟨⟨t469, t470, t471⟩, A130, H⟩ := H
   try dsimp only at H
   have A13 := Aside0.mk A130
   clear A130
   have H' := Aside0.mk H
   clear H
   go_wp2_with (first | ((with_reducible refine gate_dst (N := 11) rfl ?_); refine Kd.R_lit (Kd.int .i64) _ 3 ?hg (N := 11) ?hd (xs := ([0, 8, 9, (-1)] : List Int)) (inner := [.int .i64 0, .int .i64 8, .int .i64 9, .int .i64 (-1)]) (ok := fun _ => True) (okp := fun _ => True) ?hr ?hp (fun _ hk => hk) trivial (Below.refl _ _) (Nat.le_refl _) (by simp) ?_; (case hd => rfl); (case hg => rfl); (case hr => first | (go_simp; done) | (go_simp; rfl)); (case hp => exact (Reps.one (show Kd.M (Kd.int .i64) _ _ _ 0 [.int .i64 0] from rfl) (Reps.one (show Kd.M (Kd.int .i64) _ _ _ 8 [.int .i64 8] from rfl) (Reps.one (show Kd.M (Kd.int .i64) _ _ _ 9 [.int .i64 9] from rfl) (Reps.one (show Kd.M (Kd.int .i64) _ _ _ (-1) [.int .i64 (-1)] from rfl) (Reps.none _ _)))))); intro v467 w14 ho15 hb hg_ hnew_; clear hg_ hnew_; (first | rw [← Ny466.out] at ho15 | (simp only [Int.reduceToNat] at ho15; rw [← Ny466.out] at ho15)); have HO468 := Aside0.mk (Kd.R_lower ho15 (keep_size (hk_ HK))); replace BK456 := kb_ BK456 hb; replace BK462 := kb_ BK462 hb; replace HK := hkb_ HK hb; replace HB := Aside0.mk (below_step (hbI_ HB (IsS106.ge HI0.out)) hb); replace HI0 := IsS106.b HI0 hb; clear hb ho15; obtain ⟨Ao16, co16, eo16⟩ := Kd.R_slice HO468.out; subst eo16) | ((with_reducible refine gate_callee (f := 89) rfl ?_); refine gl_ (some 12) Try.func89 #[.pointer (some ⟨g, 0, none⟩), .slice Ao16 y466.length co16] rfl rfl rfl ?_; (with_reducible refine (spec_l1Cur_among.calls g s0_0 t464 t465 _ _ y466 t469 t470 t471 w0 _ ?side1 ?side2 ?side3 ?side4 ?side5 A13.out).mono ?_); (case side1 => exact IsS106.q HI0); (case side2 => exact hbI_ HB (IsS106.ge HI0.out)); (case side3 => exact Kd.C_o HO468); (case side4 => exact (Kd.R_reads' HO468.out).2.1); (case side5 => exact far_slice (IsS106.own_ne HI0.out HO468.out (by decide))); rintro e w17 ⟨rfl, hi, hb, hk⟩; refine ⟨_, rfl, ?_⟩; replace BK456 := Aside0.mk (KeepBut.blk hk (kp_ BK456) NB456_0.out (by simp)); replace BK462 := Aside0.mk (KeepBut.blk hk (kp_ BK462) NB462_0.out (by simp)); replace HO468 := IsS106.rk HI0 HO468 hk; replace HK := Aside0.mk (KeepBut.trans (hk_ HK) hk (.inl rfl)); replace HB := Aside0.mk (hb); replace HI0 := Aside0.mk (hi); have := NB462_456.out; have := NB456_462.out; have := NB462_0.out; have := NB0_462.out; obtain ⟨hcz20_0, hcz20_1, hcz20_2, hfz20_0, hfz20_1, hfz20_2⟩ := bx3 BK462))
   go_meet
   case rel => exact ⟨_, (t470), (t471), (t469), (t458), (t459), H', ⟨by first | omega | exact Nat.le_refl _⟩, ⟨kf_ BK456 NB456_462⟩, ⟨kpq_ (kputs BK462 [(0, _)])⟩, ⟨IsS106.q HI0⟩, ⟨hk_ HK⟩, ⟨hbI_ HB (IsS106.ge HI0.out)⟩⟩
  rw [if_neg c12] at H
  have c12b0 : (t463 == 0) = false := beq_eq_false_iff_ne.mpr c12
  have c12b1 : (t463 != 0) = true := bne_iff_ne.mpr c12
  (first | rw [c12b0] | (simp only [i64_w, i32_w]; rw [c12b0]) | skip)
  by_cases c21 : t463 = 1
  ·rw [if_pos c21] at H
   have c21b0 : (t463 == 1) = true := beq_iff_eq.mpr c21
   have c21b1 : (t463 != 1) = false := bne_eq_false_iff_eq.mpr c21
   clear c21
   obtain ⟨y472, hy472⟩ : ∃ y_ : List Int, y_ = (([0, 6, 7, (-1)] : List Int)) := ⟨_, rfl⟩
   (try with_reducible replace H := (Option.bind_some _ _).symm.trans H); (try dsimp only at H); (try rw [← hy472] at H)
   have Ny472 := Aside0.mk hy472
   clear hy472
   replace H := Option.bind_eq_some_iff.mp H
   obtain ⟨⟨t475, t476, t477⟩, A220, H⟩ := H
   try dsimp only at H
   have A22 := Aside0.mk A220
   clear A220
   have H' := Aside0.mk H
   clear H
   go_wp2_with (first | ((with_reducible refine gate_dst (N := 17) rfl ?_); refine Kd.R_lit (Kd.int .i64) _ 3 ?hg (N := 17) ?hd (xs := ([0, 6, 7, (-1)] : List Int)) (inner := [.int .i64 0, .int .i64 6, .int .i64 7, .int .i64 (-1)]) (ok := fun _ => True) (okp := fun _ => True) ?hr ?hp (fun _ hk => hk) trivial (Below.refl _ _) (Nat.le_refl _) (by simp) ?_; (case hd => rfl); (case hg => rfl); (case hr => first | (go_simp; done) | (go_simp; rfl)); (case hp => exact (Reps.one (show Kd.M (Kd.int .i64) _ _ _ 0 [.int .i64 0] from rfl) (Reps.one (show Kd.M (Kd.int .i64) _ _ _ 6 [.int .i64 6] from rfl) (Reps.one (show Kd.M (Kd.int .i64) _ _ _ 7 [.int .i64 7] from rfl) (Reps.one (show Kd.M (Kd.int .i64) _ _ _ (-1) [.int .i64 (-1)] from rfl) (Reps.none _ _)))))); intro v473 w23 ho24 hb hg_ hnew_; clear hg_ hnew_; (first | rw [← Ny472.out] at ho24 | (simp only [Int.reduceToNat] at ho24; rw [← Ny472.out] at ho24)); have HO474 := Aside0.mk (Kd.R_lower ho24 (keep_size (hk_ HK))); replace BK456 := kb_ BK456 hb; replace BK462 := kb_ BK462 hb; replace HK := hkb_ HK hb; replace HB := Aside0.mk (below_step (hbI_ HB (IsS106.ge HI0.out)) hb); replace HI0 := IsS106.b HI0 hb; clear hb ho24; obtain ⟨Ao25, co25, eo25⟩ := Kd.R_slice HO474.out; subst eo25) | ((with_reducible refine gate_callee (f := 89) rfl ?_); refine gl_ (some 18) Try.func89 #[.pointer (some ⟨g, 0, none⟩), .slice Ao25 y472.length co25] rfl rfl rfl ?_; (with_reducible refine (spec_l1Cur_among.calls g s0_0 t464 t465 _ _ y472 t475 t476 t477 w0 _ ?side1 ?side2 ?side3 ?side4 ?side5 A22.out).mono ?_); (case side1 => exact IsS106.q HI0); (case side2 => exact hbI_ HB (IsS106.ge HI0.out)); (case side3 => exact Kd.C_o HO474); (case side4 => exact (Kd.R_reads' HO474.out).2.1); (case side5 => exact far_slice (IsS106.own_ne HI0.out HO474.out (by decide))); rintro e w26 ⟨rfl, hi, hb, hk⟩; refine ⟨_, rfl, ?_⟩; replace BK456 := Aside0.mk (KeepBut.blk hk (kp_ BK456) NB456_0.out (by simp)); replace BK462 := Aside0.mk (KeepBut.blk hk (kp_ BK462) NB462_0.out (by simp)); replace HO474 := IsS106.rk HI0 HO474 hk; replace HK := Aside0.mk (KeepBut.trans (hk_ HK) hk (.inl rfl)); replace HB := Aside0.mk (hb); replace HI0 := Aside0.mk (hi); have := NB462_456.out; have := NB456_462.out; have := NB462_0.out; have := NB0_462.out; obtain ⟨hcz29_0, hcz29_1, hcz29_2, hfz29_0, hfz29_1, hfz29_2⟩ := bx3 BK462))
   go_meet
   case rel => exact ⟨_, (t476), (t477), (t457), (t475), (t459), H', ⟨by first | omega | exact Nat.le_refl _⟩, ⟨kf_ BK456 NB456_462⟩, ⟨kpq_ (kputs BK462 [(1, _)])⟩, ⟨IsS106.q HI0⟩, ⟨hk_ HK⟩, ⟨hbI_ HB (IsS106.ge HI0.out)⟩⟩
  rw [if_neg c21] at H
  have c21b0 : (t463 == 1) = false := beq_eq_false_iff_ne.mpr c21
  have c21b1 : (t463 != 1) = true := bne_iff_ne.mpr c21
  by_cases c30 : t463 = 2
  ·rw [if_pos c30] at H
   have c30b0 : (t463 == 2) = true := beq_iff_eq.mpr c30
   have c30b1 : (t463 != 2) = false := bne_eq_false_iff_eq.mpr c30
   clear c30
   obtain ⟨y478, hy478⟩ : ∃ y_ : List Int, y_ = (([0, 5, 6, (-1)] : List Int)) := ⟨_, rfl⟩
   (try with_reducible replace H := (Option.bind_some _ _).symm.trans H); (try dsimp only at H); (try rw [← hy478] at H)
   have Ny478 := Aside0.mk hy478
   clear hy478
   replace H := Option.bind_eq_some_iff.mp H
   obtain ⟨⟨t481, t482, t483⟩, A310, H⟩ := H
   try dsimp only at H
   have A31 := Aside0.mk A310
   clear A310
   have H' := Aside0.mk H
   clear H
   go_wp2_with (first | ((with_reducible refine gate_dst (N := 23) rfl ?_); refine Kd.R_lit (Kd.int .i64) _ 3 ?hg (N := 23) ?hd (xs := ([0, 5, 6, (-1)] : List Int)) (inner := [.int .i64 0, .int .i64 5, .int .i64 6, .int .i64 (-1)]) (ok := fun _ => True) (okp := fun _ => True) ?hr ?hp (fun _ hk => hk) trivial (Below.refl _ _) (Nat.le_refl _) (by simp) ?_; (case hd => rfl); (case hg => rfl); (case hr => first | (go_simp; done) | (go_simp; rfl)); (case hp => exact (Reps.one (show Kd.M (Kd.int .i64) _ _ _ 0 [.int .i64 0] from rfl) (Reps.one (show Kd.M (Kd.int .i64) _ _ _ 5 [.int .i64 5] from rfl) (Reps.one (show Kd.M (Kd.int .i64) _ _ _ 6 [.int .i64 6] from rfl) (Reps.one (show Kd.M (Kd.int .i64) _ _ _ (-1) [.int .i64 (-1)] from rfl) (Reps.none _ _)))))); intro v479 w32 ho33 hb hg_ hnew_; clear hg_ hnew_; (first | rw [← Ny478.out] at ho33 | (simp only [Int.reduceToNat] at ho33; rw [← Ny478.out] at ho33)); have HO480 := Aside0.mk (Kd.R_lower ho33 (keep_size (hk_ HK))); replace BK456 := kb_ BK456 hb; replace BK462 := kb_ BK462 hb; replace HK := hkb_ HK hb; replace HB := Aside0.mk (below_step (hbI_ HB (IsS106.ge HI0.out)) hb); replace HI0 := IsS106.b HI0 hb; clear hb ho33; obtain ⟨Ao34, co34, eo34⟩ := Kd.R_slice HO480.out; subst eo34) | ((with_reducible refine gate_callee (f := 89) rfl ?_); refine gl_ (some 24) Try.func89 #[.pointer (some ⟨g, 0, none⟩), .slice Ao34 y478.length co34] rfl rfl rfl ?_; (with_reducible refine (spec_l1Cur_among.calls g s0_0 t464 t465 _ _ y478 t481 t482 t483 w0 _ ?side1 ?side2 ?side3 ?side4 ?side5 A31.out).mono ?_); (case side1 => exact IsS106.q HI0); (case side2 => exact hbI_ HB (IsS106.ge HI0.out)); (case side3 => exact Kd.C_o HO480); (case side4 => exact (Kd.R_reads' HO480.out).2.1); (case side5 => exact far_slice (IsS106.own_ne HI0.out HO480.out (by decide))); rintro e w35 ⟨rfl, hi, hb, hk⟩; refine ⟨_, rfl, ?_⟩; replace BK456 := Aside0.mk (KeepBut.blk hk (kp_ BK456) NB456_0.out (by simp)); replace BK462 := Aside0.mk (KeepBut.blk hk (kp_ BK462) NB462_0.out (by simp)); replace HO480 := IsS106.rk HI0 HO480 hk; replace HK := Aside0.mk (KeepBut.trans (hk_ HK) hk (.inl rfl)); replace HB := Aside0.mk (hb); replace HI0 := Aside0.mk (hi); have := NB462_456.out; have := NB456_462.out; have := NB462_0.out; have := NB0_462.out; obtain ⟨hcz38_0, hcz38_1, hcz38_2, hfz38_0, hfz38_1, hfz38_2⟩ := bx3 BK462))
   go_meet
   case rel => exact ⟨_, (t482), (t483), (t457), (t458), (t481), H', ⟨by first | omega | exact Nat.le_refl _⟩, ⟨kf_ BK456 NB456_462⟩, ⟨kpq_ (kputs BK462 [(2, _)])⟩, ⟨IsS106.q HI0⟩, ⟨hk_ HK⟩, ⟨hbI_ HB (IsS106.ge HI0.out)⟩⟩
  rw [if_neg c30] at H
  have c30b0 : (t463 == 2) = false := beq_eq_false_iff_ne.mpr c30
  have c30b1 : (t463 != 2) = true := bne_iff_ne.mpr c30
  by_cases c39 : t463 = 3
  ·rw [if_pos c39] at H
   have c39b0 : (t463 == 3) = true := beq_iff_eq.mpr c39
   have c39b1 : (t463 != 3) = false := bne_eq_false_iff_eq.mpr c39
   clear c39
   obtain ⟨y484, hy484⟩ : ∃ y_ : List Int, y_ = (([2, 3] : List Int)) := ⟨_, rfl⟩
   (try with_reducible replace H := (Option.bind_some _ _).symm.trans H); (try dsimp only at H); (try rw [← hy484] at H)
   have Ny484 := Aside0.mk hy484
   clear hy484
   replace H := Option.bind_eq_some_iff.mp H
   obtain ⟨⟨t487, t488, t489⟩, A400, H⟩ := H
   try dsimp only at H
   have A40 := Aside0.mk A400
   clear A400
   have H' := Aside0.mk H
   clear H
   go_wp2_with (first | ((with_reducible refine gate_dst (N := 29) rfl ?_); refine Kd.R_lit (Kd.int .i64) _ 3 ?hg (N := 29) ?hd (xs := ([2, 3] : List Int)) (inner := [.int .i64 2, .int .i64 3]) (ok := fun _ => True) (okp := fun _ => True) ?hr ?hp (fun _ hk => hk) trivial (Below.refl _ _) (Nat.le_refl _) (by simp) ?_; (case hd => rfl); (case hg => rfl); (case hr => first | (go_simp; done) | (go_simp; rfl)); (case hp => exact (Reps.one (show Kd.M (Kd.int .i64) _ _ _ 2 [.int .i64 2] from rfl) (Reps.one (show Kd.M (Kd.int .i64) _ _ _ 3 [.int .i64 3] from rfl) (Reps.none _ _)))); intro v485 w41 ho42 hb hg_ hnew_; clear hg_ hnew_; (first | rw [← Ny484.out] at ho42 | (simp only [Int.reduceToNat] at ho42; rw [← Ny484.out] at ho42)); have HO486 := Aside0.mk (Kd.R_lower ho42 (keep_size (hk_ HK))); replace BK456 := kb_ BK456 hb; replace BK462 := kb_ BK462 hb; replace HK := hkb_ HK hb; replace HB := Aside0.mk (below_step (hbI_ HB (IsS106.ge HI0.out)) hb); replace HI0 := IsS106.b HI0 hb; clear hb ho42; obtain ⟨Ao43, co43, eo43⟩ := Kd.R_slice HO486.out; subst eo43) | ((with_reducible refine gate_callee (f := 89) rfl ?_); refine gl_ (some 30) Try.func89 #[.pointer (some ⟨g, 0, none⟩), .slice Ao43 y484.length co43] rfl rfl rfl ?_; (with_reducible refine (spec_l1Cur_among.calls g s0_0 t464 t465 _ _ y484 t487 t488 t489 w0 _ ?side1 ?side2 ?side3 ?side4 ?side5 A40.out).mono ?_); (case side1 => exact IsS106.q HI0); (case side2 => exact hbI_ HB (IsS106.ge HI0.out)); (case side3 => exact Kd.C_o HO486); (case side4 => exact (Kd.R_reads' HO486.out).2.1); (case side5 => exact far_slice (IsS106.own_ne HI0.out HO486.out (by decide))); rintro e w44 ⟨rfl, hi, hb, hk⟩; refine ⟨_, rfl, ?_⟩; replace BK456 := Aside0.mk (KeepBut.blk hk (kp_ BK456) NB456_0.out (by simp)); replace BK462 := Aside0.mk (KeepBut.blk hk (kp_ BK462) NB462_0.out (by simp)); replace HO486 := IsS106.rk HI0 HO486 hk; replace HK := Aside0.mk (KeepBut.trans (hk_ HK) hk (.inl rfl)); replace HB := Aside0.mk (hb); replace HI0 := Aside0.mk (hi); have := NB462_456.out; have := NB456_462.out; have := NB462_0.out; have := NB0_462.out; obtain ⟨hcz47_0, hcz47_1, hcz47_2, hfz47_0, hfz47_1, hfz47_2⟩ := bx3 BK462))
   go_meet
   case rel => exact ⟨_, (t488), (t489), (8), (6), (t487), H', ⟨by first | omega | exact Nat.le_refl _⟩, ⟨kf_ BK456 NB456_462⟩, ⟨kpq_ (kputs BK462 [(0, _), (1, _), (2, _)])⟩, ⟨IsS106.q HI0⟩, ⟨hk_ HK⟩, ⟨hbI_ HB (IsS106.ge HI0.out)⟩⟩
  rw [if_neg c39] at H
  have c39b0 : (t463 == 3) = false := beq_eq_false_iff_ne.mpr c39
  have c39b1 : (t463 != 3) = true := bne_iff_ne.mpr c39
  by_cases c48 : t463 = 4
  case neg => rw [if_neg c48] at H; have c48b0 : (t463 == 4) = false := beq_eq_false_iff_ne.mpr c48; have c48b1 : (t463 != 4) = true := bne_iff_ne.mpr c48; have H' := Aside0.mk H; clear H; go_wp2; go_meet; (case rel => exact ⟨_, (t464), (t465), (t457), (t458), (t459), H', ⟨by first | omega | exact Nat.le_refl _⟩, ⟨kp_ BK456⟩, ⟨kp_ BK462⟩, ⟨IsS106.q HI0⟩, ⟨hk_ HK⟩, ⟨hbI_ HB (IsS106.ge HI0.out)⟩⟩)
  rw [if_pos c48] at H
  have c48b0 : (t463 == 4) = true := beq_iff_eq.mpr c48
  have c48b1 : (t463 != 4) = false := bne_eq_false_iff_eq.mpr c48
  clear c48
  have H' := Aside0.mk H
  clear H
  have := NB462_456.out
  have := NB456_462.out
  have := NB462_0.out
  have := NB0_462.out
  obtain ⟨hcz51_0, hcz51_1, hcz51_2, hfz51_0, hfz51_1, hfz51_2⟩ := bx3 BK462
  go_wp2
  go_meet
  case rel => exact ⟨_, (t464), (t465), (1), (1), (4611686018427387904), H', ⟨by first | omega | exact Nat.le_refl _⟩, ⟨kf_ BK456 NB456_462⟩, ⟨kpq_ (kputs BK462 [(0, _), (1, _), (2, _)])⟩, ⟨IsS106.q HI0⟩, ⟨hk_ HK⟩, ⟨hbI_ HB (IsS106.ge HI0.out)⟩⟩
 clear HC4
 obtain ⟨kq, x1001_3, x1002_3, x463000_3, x463001_3, x463002_3, HA, HJ3, BK456, BK462, HI0, HK, HB⟩ := hcut
 cases kq with
 | zero => exact absurd HA.out (by simp [spec_l1Cur_anyGrid.j0])
 | succ kj3 => ?_
 have H := HA.out
 clear HA
 simp only [spec_l1Cur_anyGrid.j0] at H
 simp only [Option.some.injEq, Prod.mk.injEq] at H
 obtain ⟨rfl, rfl, rfl, rfl, rfl⟩ := H
 have := NB462_456.out
 have := NB456_462.out
 have := NB462_0.out
 have := NB0_462.out
 obtain ⟨hcz54_0, hcz54_1, hcz54_2, hfz54_0, hfz54_1, hfz54_2⟩ := bx3 BK462
 have := NB456_0.out
 have := NB0_456.out
 obtain ⟨hcz56_0, hcz56_1, hcz56_2, hfz56_0, hfz56_1, hfz56_2⟩ := bx3 BK456
 go_wp2
 refine bodyPost_ret (results_cell_row rfl _ _ gb456 32 #[.int .i64 x463000_3, .int .i64 x463001_3, .int .i64 x463002_3] (0, 0) _ rfl (kpq_ (kputs BK456 [(0, _), (1, _), (2, _)])) Try.underlying32 rfl (by kernel_rfl)) rfl ?_
 exact ⟨by first | rfl | (simp [errW_none, errW_some] <;> rfl) | (simp [*, errW_none, errW_some] <;> rfl), IsS106.q HI0, hbI_ HB (IsS106.ge HI0.out), hk_ HK⟩

end Go.Proofs.Ytceajigggcihnaa.PFnCoarse
