-- Laid for this claim by wip/tools/print2.sh, a changed copy of the kit's print (wip/tools/patch_print.py): not by print.sh.
import Derived.Test.YthphbkkkbolcnaaGreatDoorPFnModelsx2
import Derived.Test.YthphbkkkbolcnaaGreatDoorVFnModels
namespace Go.Proofs.YthphbkkkbolcnaaGreatDoor.PFnModels
open Go.RowKit Go.Proofs.YthphbkkkbolcnaaGreatDoorW.PrintWords Go.Proofs.YthphbkkkbolcnaaGreatDoorW.PrintLast Go.Proofs.YthphbkkkbolcnaaGreatDoorW.PrintMore
set_option linter.unusedVariables false
set_option linter.unusedSimpArgs false

/-! ### spec_l1Cur_anyGrid: function 76 -/
def spec_l1Cur_anyGrid.j0 : Nat → List Int → Int → Int → Int → Int → Int → Option (Int × Int × Int × Int × Int)
 | 0, _, _, _, _, _, _ => none
 | k + 1, x1000, x1001, x1002, x181000, x181001, x181002 => some (x181000, x181001, x181002, x1001, x1002)
def spec_l1Cur_anyGrid.f (k : Nat) (s0_0 : List Int) (s0_1 : Int) (s0_2 : Int) : Option (Int × Int × Int × Int × Int) := (spec_l1Cur_grid.f s0_0 s0_1 s0_2).bind fun bt175 => ((spec_l1Cur_pick.f s0_0 bt175.2.2.2.1 bt175.2.2.2.2 30).bind fun bt181 => (if bt181.1 = 0 then ((spec_l1Cur_among.f s0_0 bt181.2.1 bt181.2.2 (([0, 8, 9, (-1)] : List Int))).bind fun bt187 => (spec_l1Cur_anyGrid.j0 k s0_0 bt187.2.1 bt187.2.2 bt187.1 bt175.2.1 bt175.2.2.1)) else (if bt181.1 = 1 then ((spec_l1Cur_among.f s0_0 bt181.2.1 bt181.2.2 (([0, 6, 7, (-1)] : List Int))).bind fun bt193 => (spec_l1Cur_anyGrid.j0 k s0_0 bt193.2.1 bt193.2.2 bt175.1 bt193.1 bt175.2.2.1)) else (if bt181.1 = 2 then ((spec_l1Cur_among.f s0_0 bt181.2.1 bt181.2.2 (([0, 5, 6, (-1)] : List Int))).bind fun bt199 => (spec_l1Cur_anyGrid.j0 k s0_0 bt199.2.1 bt199.2.2 bt175.1 bt175.2.1 bt199.1)) else (if bt181.1 = 3 then ((spec_l1Cur_among.f s0_0 bt181.2.1 bt181.2.2 (([2, 3] : List Int))).bind fun bt205 => (spec_l1Cur_anyGrid.j0 k s0_0 bt205.2.1 bt205.2.2 8 6 bt205.1)) else (if bt181.1 = 4 then (spec_l1Cur_anyGrid.j0 k s0_0 bt181.2.1 bt181.2.2 1 1 4611686018427387904) else (spec_l1Cur_anyGrid.j0 k s0_0 bt181.2.1 bt181.2.2 bt175.1 bt175.2.1 bt175.2.2.1)))))))
set_option maxHeartbeats 8000000 in
set_option maxRecDepth 100000 in
theorem spec_l1Cur_anyGrid.calls (k : Nat) (g : Nat) (s0_0 : List Int) (s0_1 : Int) (s0_2 : Int) (r1 : Int) (r2 : Int) (r3 : Int) (r4 : Int) (r5 : Int) (w0 w : World) (hI : IsS75 w0 w g s0_0 s0_1 s0_2) (hB : Below w0.heap.size w0 w) (h : spec_l1Cur_anyGrid.f k s0_0 s0_1 s0_2 = some (r1, r2, r3, r4, r5)) :
  Calls Tryz.prog 76 #[.pointer (some ⟨g, 0, none⟩)] w fun e w' => e = .returned (.agg #[.int .i64 r1, .int .i64 r2, .int .i64 r3]) ∧ IsS75 w0 w' g s0_0 r4 r5 ∧ Below w0.heap.size w0 w' ∧ KeepBut w w' g none := by
 have hu25 := Tryz.underlying25
 have HI0 := am_ hI
 have HK := am_ (KeepBut.refl w g none)
 have HL := am_ hB.size
 clear hI
 have HW0 := am_ hB.size
 have HB := am_ hB
 clear hB
 have H := h
 unfold spec_l1Cur_anyGrid.f at H
 clear h
 revert H; refine bn_ ?_; rintro ⟨t175, t176, t177, t178, t179⟩ A2 H; try dsimp only at H
 revert H; refine bn_ ?_; rintro ⟨t181, t182, t183⟩ A3 H; try dsimp only at H
 have HC4 := am_ H
 clear H
 go_enter Tryz.func76, Tryz.ntmps76
 go_upto_block 0 with (first | ((with_reducible refine gate_dst (N := 2) rfl ?_); refine bv_ 2 (cs := #[.int .i64 0, .int .i64 0, .int .i64 0]) (t := 25) ?_; intro gb174 hg w5 hbox hb; have BK174 := am_ (hbox); have GW174 := am_ ((by rw [hg]; exact (keep_size (hk_ HK)) : w.heap.size ≤ gb174)); have GE174 := am_ ((Nat.le_trans HW0.out (by rw [hg]; exact (keep_size (hk_ HK)) : w.heap.size ≤ gb174) : w0.heap.size ≤ gb174)); have NB0_174 := am_ ((by rw [hg]; exact Nat.ne_of_lt (IsS75.lt (show IsS75 w0 _ g s0_0 s0_1 s0_2 from IsS75.q HI0)) : g ≠ gb174)); have NB174_0 := am_ ((by rw [hg]; exact Nat.ne_of_gt (IsS75.lt (show IsS75 w0 _ g s0_0 s0_1 s0_2 from IsS75.q HI0)) : gb174 ≠ g)); replace HK := hkb_ HK hb; replace HB := am_ (below_step (hbI_ HB (IsS75.ge HI0.out)) hb); replace HI0 := IsS75.b HI0 hb; clear hb hbox hg) | ((with_reducible refine gk_ 73 ?_); refine gq_ 5 Tryz.func73 #[.pointer (some ⟨g, 0, none⟩)] ?_; (with_reducible refine (spec_l1Cur_grid.calls g s0_0 s0_1 s0_2 t175 t176 t177 t178 t179 w0 _ ?_ ?_ A2.out).mono ?_); exact IsS75.q HI0; exact hbI_ HB (IsS75.ge HI0.out); rintro e w6 ⟨rfl, hi, hb, hk⟩; refine ⟨_, rfl, ?_⟩; replace BK174 := kk_ BK174 hk NB174_0; replace HK := kt_ HK hk; replace HB := am_ (hb); replace HI0 := am_ (hi)) | ((with_reducible refine gate_dst (N := 3) rfl ?_); refine bv_ 3 (cs := #[.int .i64 0, .int .i64 0, .int .i64 0]) (t := 25) ?_; intro gb180 hg w7 hbox hb; have BK180 := am_ (hbox); have GW180 := am_ ((by rw [hg]; exact (keep_size (hk_ HK)) : w.heap.size ≤ gb180)); have GE180 := am_ ((Nat.le_trans HW0.out (by rw [hg]; exact (keep_size (hk_ HK)) : w.heap.size ≤ gb180) : w0.heap.size ≤ gb180)); have NB174_180 := nl_ hg BK174; have NB180_174 := ng_ hg BK174; have NB0_180 := am_ ((by rw [hg]; exact Nat.ne_of_lt (IsS75.lt (show IsS75 w0 _ g s0_0 t178 t179 from IsS75.q HI0)) : g ≠ gb180)); have NB180_0 := am_ ((by rw [hg]; exact Nat.ne_of_gt (IsS75.lt (show IsS75 w0 _ g s0_0 t178 t179 from IsS75.q HI0)) : gb180 ≠ g)); replace BK174 := kb_ BK174 hb; replace HK := hkb_ HK hb; replace HB := am_ (below_step (hbI_ HB (IsS75.ge HI0.out)) hb); replace HI0 := IsS75.b HI0 hb; clear hb hbox hg; have := NB180_174.out; have := NB174_180.out; have := NB180_0.out; have := NB0_180.out; obtain ⟨hcz10_0, hcz10_1, hcz10_2, hfz10_0, hfz10_1, hfz10_2⟩ := bx3 BK180) | ((with_reducible refine gk_ 75 ?_); refine gq_ 7 Tryz.func75 #[.pointer (some ⟨g, 0, none⟩), .int .i64 30] ?_; (with_reducible refine (spec_l1Cur_pick.calls g s0_0 t178 t179 30 t181 t182 t183 w0 _ ?_ ?_ A3.out).mono ?_); exact IsS75.q HI0; exact hbI_ HB (IsS75.ge HI0.out); rintro e w11 ⟨rfl, hi, hb, hk⟩; refine ⟨_, rfl, ?_⟩; replace BK174 := am_ (KeepBut.blk hk (g' := gb174) (o := .cells #[.int .i64 0, .int .i64 0, .int .i64 0] 25 (0, 0)) (kf_ BK174 NB174_180) NB174_0.out (by simp)); replace BK180 := am_ (KeepBut.blk hk (g' := gb180) (o := .cells #[.int .i64 t175, .int .i64 t176, .int .i64 t177] 25 (0, 0)) (kpq_ (kputs BK180 [(0, _), (1, _), (2, _)])) NB180_0.out (by simp)); replace HK := kt_ HK hk; replace HB := am_ (hb); replace HI0 := am_ (hi)))
 (try simp only [Act.put, List.setIfInBounds_toArray, List.set_cons_zero, List.set_cons_succ])
 go_cut [] (fun wc => ∃ (kq : Nat) (x1001_3 : Int) (x1002_3 : Int) (x181000_3 : Int) (x181001_3 : Int) (x181002_3 : Int), Aside0 (spec_l1Cur_anyGrid.j0 kq s0_0 x1001_3 x1002_3 x181000_3 x181001_3 x181002_3 = some (r1, r2, r3, r4, r5)) ∧ Aside0 (kq ≤ k) ∧ Aside0 (wc.heap[gb174]? = some (.cells #[.int .i64 0, .int .i64 0, .int .i64 0] 25 (0, 0))) ∧ Aside0 (wc.heap[gb180]? = some (.cells #[.int .i64 x181000_3, .int .i64 x181001_3, .int .i64 x181002_3] 25 (0, 0))) ∧ Aside0 (IsS75 w0 wc g s0_0 x1001_3 x1002_3) ∧ Aside0 (KeepBut w wc g none) ∧ Aside0 (Below w0.heap.size w0 wc))
 case first =>
  have H := HC4.out
  clear HC4
  by_cases c12 : t181 = 0
  ·rw [if_pos c12] at H
   have c12b0 : (t181 == 0) = true := beq_iff_eq.mpr c12
   have c12b1 : (t181 != 0) = false := bne_eq_false_iff_eq.mpr c12
   clear c12
   (first | rw [c12b0] | (simp only [i64_w, i32_w]; rw [c12b0]) | skip)
   obtain ⟨y184, hy184⟩ : ∃ y_ : List Int, y_ = (([0, 8, 9, (-1)] : List Int)) := ⟨_, rfl⟩
   (try with_reducible replace H := (Option.bind_some _ _).symm.trans H); (try dsimp only at H); (try rw [← hy184] at H)
   have Ny184 := am_ hy184
   clear hy184
   revert H; refine bn_ ?_; rintro ⟨t187, t188, t189⟩ A13 H; try dsimp only at H
   have H' := am_ H
   clear H
   go_wp2_with (first | ((with_reducible refine gate_dst (N := 11) rfl ?_); refine Kd.R_lit (Kd.int .i64) _ 3 ?hg (N := 11) ?hd (xs := ([0, 8, 9, (-1)] : List Int)) (inner := [.int .i64 0, .int .i64 8, .int .i64 9, .int .i64 (-1)]) (ok := fun _ => True) (okp := fun _ => True) ?hr ?hp (fun _ hk => hk) trivial (Below.refl _ _) (Nat.le_refl _) (by simp) ?_; (case hd => rfl); (case hg => rfl); (case hr => first | (go_simp; done) | (go_simp; rfl)); (case hp => exact (Reps.one (show Kd.M (Kd.int .i64) _ _ _ 0 [.int .i64 0] from rfl) (Reps.one (show Kd.M (Kd.int .i64) _ _ _ 8 [.int .i64 8] from rfl) (Reps.one (show Kd.M (Kd.int .i64) _ _ _ 9 [.int .i64 9] from rfl) (Reps.one (show Kd.M (Kd.int .i64) _ _ _ (-1) [.int .i64 (-1)] from rfl) (Reps.none _ _)))))); intro v185 w14 ho15 hb hg_ hnew_; clear hg_ hnew_; (first | rw [← Ny184.out] at ho15 | (simp only [Int.reduceToNat] at ho15; rw [← Ny184.out] at ho15)); have HO186 := am_ (Kd.R_lower ho15 (keep_size (hk_ HK))); replace BK174 := kb_ BK174 hb; replace BK180 := kb_ BK180 hb; replace HK := hkb_ HK hb; replace HB := am_ (below_step (hbI_ HB (IsS75.ge HI0.out)) hb); replace HI0 := IsS75.b HI0 hb; clear hb ho15; obtain ⟨Ao16, co16, eo16⟩ := Kd.R_slice HO186.out; subst eo16) | ((with_reducible refine gk_ 74 ?_); refine gq_ 12 Tryz.func74 #[.pointer (some ⟨g, 0, none⟩), .slice Ao16 y184.length co16] ?_; (with_reducible refine (spec_l1Cur_among.calls g s0_0 t182 t183 _ _ y184 t187 t188 t189 w0 _ ?_ ?_ ?_ ?_ ?_ A13.out).mono ?_); exact IsS75.q HI0; exact hbI_ HB (IsS75.ge HI0.out); exact Kd.C_o HO186; exact (Kd.R_reads' HO186.out).2.1; exact far_slice (IsS75.own_ne HI0.out HO186.out (by decide)); rintro e w17 ⟨rfl, hi, hb, hk⟩; refine ⟨_, rfl, ?_⟩; replace BK174 := am_ (KeepBut.blk hk (kp_ BK174) NB174_0.out (by simp)); replace BK180 := am_ (KeepBut.blk hk (kp_ BK180) NB180_0.out (by simp)); replace HO186 := IsS75.rk HI0 HO186 hk; replace HK := kt_ HK hk; replace HB := am_ (hb); replace HI0 := am_ (hi); have := NB180_174.out; have := NB174_180.out; have := NB180_0.out; have := NB0_180.out; obtain ⟨hcz20_0, hcz20_1, hcz20_2, hfz20_0, hfz20_1, hfz20_2⟩ := bx3 BK180))
   go_meet
   case rel => exact ⟨_, (t188), (t189), (t187), (t176), (t177), H', ⟨by first | omega | exact Nat.le_refl _⟩, ⟨kf_ BK174 NB174_180⟩, ⟨kpq_ (kputs BK180 [(0, _)])⟩, ⟨IsS75.q HI0⟩, ⟨hk_ HK⟩, ⟨hbI_ HB (IsS75.ge HI0.out)⟩⟩
  rw [if_neg c12] at H
  have c12b0 : (t181 == 0) = false := beq_eq_false_iff_ne.mpr c12
  have c12b1 : (t181 != 0) = true := bne_iff_ne.mpr c12
  (first | rw [c12b0] | (simp only [i64_w, i32_w]; rw [c12b0]) | skip)
  by_cases c21 : t181 = 1
  ·rw [if_pos c21] at H
   have c21b0 : (t181 == 1) = true := beq_iff_eq.mpr c21
   have c21b1 : (t181 != 1) = false := bne_eq_false_iff_eq.mpr c21
   clear c21
   obtain ⟨y190, hy190⟩ : ∃ y_ : List Int, y_ = (([0, 6, 7, (-1)] : List Int)) := ⟨_, rfl⟩
   (try with_reducible replace H := (Option.bind_some _ _).symm.trans H); (try dsimp only at H); (try rw [← hy190] at H)
   have Ny190 := am_ hy190
   clear hy190
   revert H; refine bn_ ?_; rintro ⟨t193, t194, t195⟩ A22 H; try dsimp only at H
   have H' := am_ H
   clear H
   go_wp2_with (first | ((with_reducible refine gate_dst (N := 17) rfl ?_); refine Kd.R_lit (Kd.int .i64) _ 3 ?hg (N := 17) ?hd (xs := ([0, 6, 7, (-1)] : List Int)) (inner := [.int .i64 0, .int .i64 6, .int .i64 7, .int .i64 (-1)]) (ok := fun _ => True) (okp := fun _ => True) ?hr ?hp (fun _ hk => hk) trivial (Below.refl _ _) (Nat.le_refl _) (by simp) ?_; (case hd => rfl); (case hg => rfl); (case hr => first | (go_simp; done) | (go_simp; rfl)); (case hp => exact (Reps.one (show Kd.M (Kd.int .i64) _ _ _ 0 [.int .i64 0] from rfl) (Reps.one (show Kd.M (Kd.int .i64) _ _ _ 6 [.int .i64 6] from rfl) (Reps.one (show Kd.M (Kd.int .i64) _ _ _ 7 [.int .i64 7] from rfl) (Reps.one (show Kd.M (Kd.int .i64) _ _ _ (-1) [.int .i64 (-1)] from rfl) (Reps.none _ _)))))); intro v191 w23 ho24 hb hg_ hnew_; clear hg_ hnew_; (first | rw [← Ny190.out] at ho24 | (simp only [Int.reduceToNat] at ho24; rw [← Ny190.out] at ho24)); have HO192 := am_ (Kd.R_lower ho24 (keep_size (hk_ HK))); replace BK174 := kb_ BK174 hb; replace BK180 := kb_ BK180 hb; replace HK := hkb_ HK hb; replace HB := am_ (below_step (hbI_ HB (IsS75.ge HI0.out)) hb); replace HI0 := IsS75.b HI0 hb; clear hb ho24; obtain ⟨Ao25, co25, eo25⟩ := Kd.R_slice HO192.out; subst eo25) | ((with_reducible refine gk_ 74 ?_); refine gq_ 18 Tryz.func74 #[.pointer (some ⟨g, 0, none⟩), .slice Ao25 y190.length co25] ?_; (with_reducible refine (spec_l1Cur_among.calls g s0_0 t182 t183 _ _ y190 t193 t194 t195 w0 _ ?_ ?_ ?_ ?_ ?_ A22.out).mono ?_); exact IsS75.q HI0; exact hbI_ HB (IsS75.ge HI0.out); exact Kd.C_o HO192; exact (Kd.R_reads' HO192.out).2.1; exact far_slice (IsS75.own_ne HI0.out HO192.out (by decide)); rintro e w26 ⟨rfl, hi, hb, hk⟩; refine ⟨_, rfl, ?_⟩; replace BK174 := am_ (KeepBut.blk hk (kp_ BK174) NB174_0.out (by simp)); replace BK180 := am_ (KeepBut.blk hk (kp_ BK180) NB180_0.out (by simp)); replace HO192 := IsS75.rk HI0 HO192 hk; replace HK := kt_ HK hk; replace HB := am_ (hb); replace HI0 := am_ (hi); have := NB180_174.out; have := NB174_180.out; have := NB180_0.out; have := NB0_180.out; obtain ⟨hcz29_0, hcz29_1, hcz29_2, hfz29_0, hfz29_1, hfz29_2⟩ := bx3 BK180))
   go_meet
   case rel => exact ⟨_, (t194), (t195), (t175), (t193), (t177), H', ⟨by first | omega | exact Nat.le_refl _⟩, ⟨kf_ BK174 NB174_180⟩, ⟨kpq_ (kputs BK180 [(1, _)])⟩, ⟨IsS75.q HI0⟩, ⟨hk_ HK⟩, ⟨hbI_ HB (IsS75.ge HI0.out)⟩⟩
  rw [if_neg c21] at H
  have c21b0 : (t181 == 1) = false := beq_eq_false_iff_ne.mpr c21
  have c21b1 : (t181 != 1) = true := bne_iff_ne.mpr c21
  by_cases c30 : t181 = 2
  ·rw [if_pos c30] at H
   have c30b0 : (t181 == 2) = true := beq_iff_eq.mpr c30
   have c30b1 : (t181 != 2) = false := bne_eq_false_iff_eq.mpr c30
   clear c30
   obtain ⟨y196, hy196⟩ : ∃ y_ : List Int, y_ = (([0, 5, 6, (-1)] : List Int)) := ⟨_, rfl⟩
   (try with_reducible replace H := (Option.bind_some _ _).symm.trans H); (try dsimp only at H); (try rw [← hy196] at H)
   have Ny196 := am_ hy196
   clear hy196
   revert H; refine bn_ ?_; rintro ⟨t199, t200, t201⟩ A31 H; try dsimp only at H
   have H' := am_ H
   clear H
   go_wp2_with (first | ((with_reducible refine gate_dst (N := 23) rfl ?_); refine Kd.R_lit (Kd.int .i64) _ 3 ?hg (N := 23) ?hd (xs := ([0, 5, 6, (-1)] : List Int)) (inner := [.int .i64 0, .int .i64 5, .int .i64 6, .int .i64 (-1)]) (ok := fun _ => True) (okp := fun _ => True) ?hr ?hp (fun _ hk => hk) trivial (Below.refl _ _) (Nat.le_refl _) (by simp) ?_; (case hd => rfl); (case hg => rfl); (case hr => first | (go_simp; done) | (go_simp; rfl)); (case hp => exact (Reps.one (show Kd.M (Kd.int .i64) _ _ _ 0 [.int .i64 0] from rfl) (Reps.one (show Kd.M (Kd.int .i64) _ _ _ 5 [.int .i64 5] from rfl) (Reps.one (show Kd.M (Kd.int .i64) _ _ _ 6 [.int .i64 6] from rfl) (Reps.one (show Kd.M (Kd.int .i64) _ _ _ (-1) [.int .i64 (-1)] from rfl) (Reps.none _ _)))))); intro v197 w32 ho33 hb hg_ hnew_; clear hg_ hnew_; (first | rw [← Ny196.out] at ho33 | (simp only [Int.reduceToNat] at ho33; rw [← Ny196.out] at ho33)); have HO198 := am_ (Kd.R_lower ho33 (keep_size (hk_ HK))); replace BK174 := kb_ BK174 hb; replace BK180 := kb_ BK180 hb; replace HK := hkb_ HK hb; replace HB := am_ (below_step (hbI_ HB (IsS75.ge HI0.out)) hb); replace HI0 := IsS75.b HI0 hb; clear hb ho33; obtain ⟨Ao34, co34, eo34⟩ := Kd.R_slice HO198.out; subst eo34) | ((with_reducible refine gk_ 74 ?_); refine gq_ 24 Tryz.func74 #[.pointer (some ⟨g, 0, none⟩), .slice Ao34 y196.length co34] ?_; (with_reducible refine (spec_l1Cur_among.calls g s0_0 t182 t183 _ _ y196 t199 t200 t201 w0 _ ?_ ?_ ?_ ?_ ?_ A31.out).mono ?_); exact IsS75.q HI0; exact hbI_ HB (IsS75.ge HI0.out); exact Kd.C_o HO198; exact (Kd.R_reads' HO198.out).2.1; exact far_slice (IsS75.own_ne HI0.out HO198.out (by decide)); rintro e w35 ⟨rfl, hi, hb, hk⟩; refine ⟨_, rfl, ?_⟩; replace BK174 := am_ (KeepBut.blk hk (kp_ BK174) NB174_0.out (by simp)); replace BK180 := am_ (KeepBut.blk hk (kp_ BK180) NB180_0.out (by simp)); replace HO198 := IsS75.rk HI0 HO198 hk; replace HK := kt_ HK hk; replace HB := am_ (hb); replace HI0 := am_ (hi); have := NB180_174.out; have := NB174_180.out; have := NB180_0.out; have := NB0_180.out; obtain ⟨hcz38_0, hcz38_1, hcz38_2, hfz38_0, hfz38_1, hfz38_2⟩ := bx3 BK180))
   go_meet
   case rel => exact ⟨_, (t200), (t201), (t175), (t176), (t199), H', ⟨by first | omega | exact Nat.le_refl _⟩, ⟨kf_ BK174 NB174_180⟩, ⟨kpq_ (kputs BK180 [(2, _)])⟩, ⟨IsS75.q HI0⟩, ⟨hk_ HK⟩, ⟨hbI_ HB (IsS75.ge HI0.out)⟩⟩
  rw [if_neg c30] at H
  have c30b0 : (t181 == 2) = false := beq_eq_false_iff_ne.mpr c30
  have c30b1 : (t181 != 2) = true := bne_iff_ne.mpr c30
  by_cases c39 : t181 = 3
  ·rw [if_pos c39] at H
   have c39b0 : (t181 == 3) = true := beq_iff_eq.mpr c39
   have c39b1 : (t181 != 3) = false := bne_eq_false_iff_eq.mpr c39
   clear c39
   obtain ⟨y202, hy202⟩ : ∃ y_ : List Int, y_ = (([2, 3] : List Int)) := ⟨_, rfl⟩
   (try with_reducible replace H := (Option.bind_some _ _).symm.trans H); (try dsimp only at H); (try rw [← hy202] at H)
   have Ny202 := am_ hy202
   clear hy202
   revert H; refine bn_ ?_; rintro ⟨t205, t206, t207⟩ A40 H; try dsimp only at H
   have H' := am_ H
   clear H
   go_wp2_with (first | ((with_reducible refine gate_dst (N := 29) rfl ?_); refine Kd.R_lit (Kd.int .i64) _ 3 ?hg (N := 29) ?hd (xs := ([2, 3] : List Int)) (inner := [.int .i64 2, .int .i64 3]) (ok := fun _ => True) (okp := fun _ => True) ?hr ?hp (fun _ hk => hk) trivial (Below.refl _ _) (Nat.le_refl _) (by simp) ?_; (case hd => rfl); (case hg => rfl); (case hr => first | (go_simp; done) | (go_simp; rfl)); (case hp => exact (Reps.one (show Kd.M (Kd.int .i64) _ _ _ 2 [.int .i64 2] from rfl) (Reps.one (show Kd.M (Kd.int .i64) _ _ _ 3 [.int .i64 3] from rfl) (Reps.none _ _)))); intro v203 w41 ho42 hb hg_ hnew_; clear hg_ hnew_; (first | rw [← Ny202.out] at ho42 | (simp only [Int.reduceToNat] at ho42; rw [← Ny202.out] at ho42)); have HO204 := am_ (Kd.R_lower ho42 (keep_size (hk_ HK))); replace BK174 := kb_ BK174 hb; replace BK180 := kb_ BK180 hb; replace HK := hkb_ HK hb; replace HB := am_ (below_step (hbI_ HB (IsS75.ge HI0.out)) hb); replace HI0 := IsS75.b HI0 hb; clear hb ho42; obtain ⟨Ao43, co43, eo43⟩ := Kd.R_slice HO204.out; subst eo43) | ((with_reducible refine gk_ 74 ?_); refine gq_ 30 Tryz.func74 #[.pointer (some ⟨g, 0, none⟩), .slice Ao43 y202.length co43] ?_; (with_reducible refine (spec_l1Cur_among.calls g s0_0 t182 t183 _ _ y202 t205 t206 t207 w0 _ ?_ ?_ ?_ ?_ ?_ A40.out).mono ?_); exact IsS75.q HI0; exact hbI_ HB (IsS75.ge HI0.out); exact Kd.C_o HO204; exact (Kd.R_reads' HO204.out).2.1; exact far_slice (IsS75.own_ne HI0.out HO204.out (by decide)); rintro e w44 ⟨rfl, hi, hb, hk⟩; refine ⟨_, rfl, ?_⟩; replace BK174 := am_ (KeepBut.blk hk (kp_ BK174) NB174_0.out (by simp)); replace BK180 := am_ (KeepBut.blk hk (kp_ BK180) NB180_0.out (by simp)); replace HO204 := IsS75.rk HI0 HO204 hk; replace HK := kt_ HK hk; replace HB := am_ (hb); replace HI0 := am_ (hi); have := NB180_174.out; have := NB174_180.out; have := NB180_0.out; have := NB0_180.out; obtain ⟨hcz47_0, hcz47_1, hcz47_2, hfz47_0, hfz47_1, hfz47_2⟩ := bx3 BK180))
   go_meet
   case rel => exact ⟨_, (t206), (t207), (8), (6), (t205), H', ⟨by first | omega | exact Nat.le_refl _⟩, ⟨kf_ BK174 NB174_180⟩, ⟨kpq_ (kputs BK180 [(0, _), (1, _), (2, _)])⟩, ⟨IsS75.q HI0⟩, ⟨hk_ HK⟩, ⟨hbI_ HB (IsS75.ge HI0.out)⟩⟩
  rw [if_neg c39] at H
  have c39b0 : (t181 == 3) = false := beq_eq_false_iff_ne.mpr c39
  have c39b1 : (t181 != 3) = true := bne_iff_ne.mpr c39
  by_cases c48 : t181 = 4
  case neg => rw [if_neg c48] at H; have c48b0 : (t181 == 4) = false := beq_eq_false_iff_ne.mpr c48; have c48b1 : (t181 != 4) = true := bne_iff_ne.mpr c48; have H' := am_ H; clear H; go_wp2; go_meet; (case rel => exact ⟨_, (t182), (t183), (t175), (t176), (t177), H', ⟨by first | omega | exact Nat.le_refl _⟩, ⟨kp_ BK174⟩, ⟨kp_ BK180⟩, ⟨IsS75.q HI0⟩, ⟨hk_ HK⟩, ⟨hbI_ HB (IsS75.ge HI0.out)⟩⟩)
  rw [if_pos c48] at H
  have c48b0 : (t181 == 4) = true := beq_iff_eq.mpr c48
  have c48b1 : (t181 != 4) = false := bne_eq_false_iff_eq.mpr c48
  clear c48
  have H' := am_ H
  clear H
  have := NB180_174.out
  have := NB174_180.out
  have := NB180_0.out
  have := NB0_180.out
  obtain ⟨hcz51_0, hcz51_1, hcz51_2, hfz51_0, hfz51_1, hfz51_2⟩ := bx3 BK180
  go_wp2
  go_meet
  case rel => exact ⟨_, (t182), (t183), (1), (1), (4611686018427387904), H', ⟨by first | omega | exact Nat.le_refl _⟩, ⟨kf_ BK174 NB174_180⟩, ⟨kpq_ (kputs BK180 [(0, _), (1, _), (2, _)])⟩, ⟨IsS75.q HI0⟩, ⟨hk_ HK⟩, ⟨hbI_ HB (IsS75.ge HI0.out)⟩⟩
 clear HC4
 obtain ⟨kq, x1001_3, x1002_3, x181000_3, x181001_3, x181002_3, HA, HJ3, BK174, BK180, HI0, HK, HB⟩ := hcut
 cases kq with
 | zero => exact absurd HA.out (by simp [spec_l1Cur_anyGrid.j0])
 | succ kj3 => ?_
 have H := HA.out
 clear HA
 simp only [spec_l1Cur_anyGrid.j0] at H
 simp only [Option.some.injEq, Prod.mk.injEq] at H
 obtain ⟨rfl, rfl, rfl, rfl, rfl⟩ := H
 have := NB180_174.out
 have := NB174_180.out
 have := NB180_0.out
 have := NB0_180.out
 obtain ⟨hcz54_0, hcz54_1, hcz54_2, hfz54_0, hfz54_1, hfz54_2⟩ := bx3 BK180
 have := NB174_0.out
 have := NB0_174.out
 obtain ⟨hcz56_0, hcz56_1, hcz56_2, hfz56_0, hfz56_1, hfz56_2⟩ := bx3 BK174
 go_wp2
 refine bodyPost_ret (results_cell_row rfl _ _ gb174 25 #[.int .i64 x181000_3, .int .i64 x181001_3, .int .i64 x181002_3] (0, 0) _ rfl (kpq_ (kputs BK174 [(0, _), (1, _), (2, _)])) Tryz.underlying25 rfl (by kernel_rfl)) rfl ?_
 exact ⟨se_, IsS75.q HI0, hbI_ HB (IsS75.ge HI0.out), hk_ HK⟩

end Go.Proofs.YthphbkkkbolcnaaGreatDoor.PFnModels
