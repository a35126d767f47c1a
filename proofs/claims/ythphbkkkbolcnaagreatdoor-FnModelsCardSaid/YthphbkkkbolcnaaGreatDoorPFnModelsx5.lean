-- Laid for this claim by wip/tools/print2.sh, a changed copy of the kit's print (wip/tools/patch_print.py): not by print.sh.
import Derived.Test.YthphbkkkbolcnaaGreatDoorPFnModelsx3
import Derived.Test.YthphbkkkbolcnaaGreatDoorPFnModelsx4
import Derived.Test.YthphbkkkbolcnaaGreatDoorVFnModels
namespace Go.Proofs.YthphbkkkbolcnaaGreatDoor.PFnModels
open Go.RowKit Go.Proofs.YthphbkkkbolcnaaGreatDoorW.PrintWords Go.Proofs.YthphbkkkbolcnaaGreatDoorW.PrintLast Go.Proofs.YthphbkkkbolcnaaGreatDoorW.PrintMore
set_option linter.unusedVariables false
set_option linter.unusedSimpArgs false

/-! ### spec_l1Cur_anyModel: function 55 -/
def spec_l1Cur_anyModel.j0 : Nat → List Int → Int → Int → Int → Int → Int → List Int → List Int → List Int → Option (Int × Int × Int × List Int × List Int × List Int × Int × Int)
 | 0, _, _, _, _, _, _, _, _, _ => none
 | k + 1, x1000, x1001, x1002, x224000, x224001, x224002, x224003, x224004, x224005 => some (x224000, x224001, x224002, x224003, x224004, x224005, x1001, x1002)
def spec_l1Cur_anyModel.f (k : Nat) (s0_0 : List Int) (s0_1 : Int) (s0_2 : Int) : Option (Int × Int × Int × List Int × List Int × List Int × Int × Int) := (spec_l1Cur_model.f k s0_0 s0_1 s0_2).bind fun bt209 => ((spec_grCount.f bt209.1 bt209.2.1 bt209.2.2.1).bind fun t224 => ((spec_l1Cur_pick.f s0_0 bt209.2.2.2.2.2.2.1 bt209.2.2.2.2.2.2.2 30).bind fun bt225 => (if bt225.1 = 0 then ((spec_l1Cur_anyGrid.f k s0_0 bt225.2.1 bt225.2.2).bind fun bt228 => (spec_l1Cur_anyModel.j0 k s0_0 bt228.2.2.2.1 bt228.2.2.2.2 bt228.1 bt228.2.1 bt228.2.2.1 bt209.2.2.2.1 bt209.2.2.2.2.1 bt209.2.2.2.2.2.1)) else (if bt225.1 = 1 then ((spec_l1Cur_pick.f s0_0 bt225.2.1 bt225.2.2 t224).bind fun bt233 => ((spec_l1Cur_among.f s0_0 bt233.2.1 bt233.2.2 (([(-1), 10000, 10001] : List Int))).bind fun bt239 => (if 0 ≤ bt233.1 then (if bt233.1 < (bt209.2.2.2.1.length : Int) then (spec_l1Cur_anyModel.j0 k s0_0 bt239.2.1 bt239.2.2 bt209.1 bt209.2.1 bt209.2.2.1 (bt209.2.2.2.1.set (bt233.1 : Int).toNat bt239.1) bt209.2.2.2.2.1 bt209.2.2.2.2.2.1) else (none)) else (none)))) else (if bt225.1 = 2 then ((spec_l1Cur_pick.f s0_0 bt225.2.1 bt225.2.2 t224).bind fun bt243 => ((spec_l1Cur_among.f s0_0 bt243.2.1 bt243.2.2 (([(-1), 1000, 1001] : List Int))).bind fun bt249 => (if 0 ≤ bt243.1 then (if bt243.1 < (bt209.2.2.2.2.1.length : Int) then (spec_l1Cur_anyModel.j0 k s0_0 bt249.2.1 bt249.2.2 bt209.1 bt209.2.1 bt209.2.2.1 bt209.2.2.2.1 (bt209.2.2.2.2.1.set (bt243.1 : Int).toNat bt249.1) bt209.2.2.2.2.2.1) else (none)) else (none)))) else (if bt225.1 = 3 then ((spec_l1Cur_pick.f s0_0 bt225.2.1 bt225.2.2 t224).bind fun bt253 => ((spec_l1Cur_among.f s0_0 bt253.2.1 bt253.2.2 (([(-1), 4, 5] : List Int))).bind fun bt259 => (if 0 ≤ bt253.1 then (if bt253.1 < (bt209.2.2.2.2.2.1.length : Int) then (spec_l1Cur_anyModel.j0 k s0_0 bt259.2.1 bt259.2.2 bt209.1 bt209.2.1 bt209.2.2.1 bt209.2.2.2.1 bt209.2.2.2.2.1 (bt209.2.2.2.2.2.1.set (bt253.1 : Int).toNat bt259.1)) else (none)) else (none)))) else (if bt225.1 = 4 then (if bt209.2.2.2.2.2.1.length < 17592186044416 then (spec_l1Cur_anyModel.j0 k s0_0 bt225.2.1 bt225.2.2 bt209.1 bt209.2.1 bt209.2.2.1 bt209.2.2.2.1 bt209.2.2.2.2.1 (bt209.2.2.2.2.2.1 ++ [0])) else (none)) else (spec_l1Cur_anyModel.j0 k s0_0 bt225.2.1 bt225.2.2 bt209.1 bt209.2.1 bt209.2.2.1 bt209.2.2.2.1 bt209.2.2.2.2.1 bt209.2.2.2.2.2.1))))))))
def spec_l1Cur_anyModel.T7 : Bool × List (List Nat × List Nat) := (true, [([], []), ([0], [0]), ([], []), ([], []), ([2, 3], [2, 3]), ([], []), ([], []), ([5, 6, 4], [5, 6]), ([1, 4, 0, 1, 2, 3, 4, 5, 6, 7], [1, 4]), ([8, 7, 7, 0, 1, 2, 3, 4, 5, 6, 7], [7, 8])])
def spec_l1Cur_anyModel.B7 : List Nat := [0, 1, 0, 0, 12, 0, 0, 124, 255, 511]
theorem spec_l1Cur_anyModel.tab7 : rtab .any (opsOf Tryz.f55 7) = spec_l1Cur_anyModel.T7 := by kernel_rfl
theorem spec_l1Cur_anyModel.bits7 : waitsOk spec_l1Cur_anyModel.T7.2 spec_l1Cur_anyModel.B7 = true := by kernel_rfl
def spec_l1Cur_anyModel.T9 : Bool × List (List Nat × List Nat) := (true, [([], []), ([0], [0]), ([], []), ([], []), ([2, 3], [2, 3]), ([], []), ([], []), ([5, 6, 4], [5, 6]), ([1, 4, 0, 1, 2, 3, 4, 5, 6, 7], [1, 4]), ([8, 7, 7, 0, 1, 2, 3, 4, 5, 6, 7], [7, 8])])
def spec_l1Cur_anyModel.B9 : List Nat := [0, 1, 0, 0, 12, 0, 0, 124, 255, 511]
theorem spec_l1Cur_anyModel.tab9 : rtab .any (opsOf Tryz.f55 9) = spec_l1Cur_anyModel.T9 := by kernel_rfl
theorem spec_l1Cur_anyModel.bits9 : waitsOk spec_l1Cur_anyModel.T9.2 spec_l1Cur_anyModel.B9 = true := by kernel_rfl
def spec_l1Cur_anyModel.T11 : Bool × List (List Nat × List Nat) := (true, [([], []), ([0], [0]), ([], []), ([], []), ([2, 3], [2, 3]), ([], []), ([], []), ([5, 6, 4], [5, 6]), ([1, 4, 0, 1, 2, 3, 4, 5, 6, 7], [1, 4]), ([8, 7, 7, 0, 1, 2, 3, 4, 5, 6, 7], [7, 8])])
def spec_l1Cur_anyModel.B11 : List Nat := [0, 1, 0, 0, 12, 0, 0, 124, 255, 511]
theorem spec_l1Cur_anyModel.tab11 : rtab .any (opsOf Tryz.f55 11) = spec_l1Cur_anyModel.T11 := by kernel_rfl
theorem spec_l1Cur_anyModel.bits11 : waitsOk spec_l1Cur_anyModel.T11.2 spec_l1Cur_anyModel.B11 = true := by kernel_rfl
set_option maxHeartbeats 8000000 in
set_option maxRecDepth 100000 in
theorem spec_l1Cur_anyModel.calls (k : Nat) (g : Nat) (s0_0 : List Int) (s0_1 : Int) (s0_2 : Int) (r1 : Int) (r2 : Int) (r3 : Int) (r4 : List Int) (r5 : List Int) (r6 : List Int) (r7 : Int) (r8 : Int) (w0 w : World) (hI : IsS75 w0 w g s0_0 s0_1 s0_2) (hB : Below w0.heap.size w0 w) (h : spec_l1Cur_anyModel.f k s0_0 s0_1 s0_2 = some (r1, r2, r3, r4, r5, r6, r7, r8)) :
  Calls Tryz.prog 55 #[.pointer (some ⟨g, 0, none⟩)] w fun e w' => ∃ v3_ v4_ v5_ : Value, e = .returned (.agg #[.int .i64 r1, .int .i64 r2, .int .i64 r3, v3_, v4_, v5_]) ∧ Kd.R (Kd.int .i64) 3 w' w.heap.size (fun k_ => some k_ ≠ (v4_ : Value).ownBlock ∧ some k_ ≠ (v5_ : Value).ownBlock) v3_ r4 ∧ Kd.R (Kd.int .i64) 3 w' w.heap.size (fun k_ => some k_ ≠ (v3_ : Value).ownBlock ∧ some k_ ≠ (v5_ : Value).ownBlock) v4_ r5 ∧ Kd.R (Kd.int .i64) 3 w' w.heap.size (fun k_ => some k_ ≠ (v3_ : Value).ownBlock ∧ some k_ ≠ (v4_ : Value).ownBlock) v5_ r6 ∧ IsS75 w0 w' g s0_0 r7 r8 ∧ Below w0.heap.size w0 w' ∧ KeepBut w w' g none := by
 have hu28 := Tryz.underlying28
 have hu25 := Tryz.underlying25
 have HI0 := am_ hI
 have HK := am_ (KeepBut.refl w g none)
 have HL := am_ hB.size
 clear hI
 have HW0 := am_ hB.size
 have HB := am_ hB
 clear hB
 have H := h
 unfold spec_l1Cur_anyModel.f at H
 clear h
 revert H; refine bn_ ?_; rintro ⟨t209, t210, t211, t212, t215, t218, t221, t222⟩ A2 H; try dsimp only at H
 revert H; refine bn_ ?_; rintro t224 A3 H; try dsimp only at H
 revert H; refine bn_ ?_; rintro ⟨t225, t226, t227⟩ A4 H; try dsimp only at H
 have HC5 := am_ H
 clear H
 go_enter Tryz.func55, Tryz.ntmps55
 go_upto_block 0 with (first | ((with_reducible refine gate_dst (N := 2) rfl ?_); refine bv_ 2 (cs := #[.int .i64 0, .int .i64 0, .int .i64 0, .slice none 0 0, .slice none 0 0, .slice none 0 0]) (t := 28) ?_; intro gb208 hg w6 hbox hb; have BK208 := am_ (hbox); have GW208 := am_ ((by rw [hg]; exact (keep_size (hk_ HK)) : w.heap.size ≤ gb208)); have GE208 := am_ ((Nat.le_trans HW0.out (by rw [hg]; exact (keep_size (hk_ HK)) : w.heap.size ≤ gb208) : w0.heap.size ≤ gb208)); have NB0_208 := am_ ((by rw [hg]; exact Nat.ne_of_lt (IsS75.lt (show IsS75 w0 _ g s0_0 s0_1 s0_2 from IsS75.q HI0)) : g ≠ gb208)); have NB208_0 := am_ ((by rw [hg]; exact Nat.ne_of_gt (IsS75.lt (show IsS75 w0 _ g s0_0 s0_1 s0_2 from IsS75.q HI0)) : gb208 ≠ g)); replace HK := hkb_ HK hb; replace HB := am_ (below_step (hbI_ HB (IsS75.ge HI0.out)) hb); replace HI0 := IsS75.b HI0 hb; clear hb hbox hg) | ((with_reducible refine gk_ 50 ?_); refine gq_ 6 Tryz.func50 #[.pointer (some ⟨g, 0, none⟩)] ?_; (with_reducible refine (spec_l1Cur_model.calls k g s0_0 s0_1 s0_2 t209 t210 t211 t212 t215 t218 t221 t222 w0 _ ?_ ?_ A2.out).mono ?_); exact IsS75.q HI0; exact hbI_ HB (IsS75.ge HI0.out); rintro e w7 ⟨v213, v216, v219, rfl, ho0, ho1, ho2, hi, hb, hk⟩; refine ⟨_, rfl, ?_⟩; have HO214 := am_ (Kd.R_lower ho0 (keep_size (hk_ HK))); have HO217 := am_ (Kd.R_lower ho1 (keep_size (hk_ HK))); have HO220 := am_ (Kd.R_lower ho2 (keep_size (hk_ HK))); replace BK208 := kk_ BK208 hk NB208_0; replace HK := kt_ HK hk; replace HB := am_ (hb); replace HI0 := am_ (hi)) | ((with_reducible refine gate_dst (N := 3) rfl ?_); refine bv_ 3 (cs := #[.int .i64 0, .int .i64 0, .int .i64 0, .slice none 0 0, .slice none 0 0, .slice none 0 0]) (t := 28) ?_; intro gb223 hg w8 hbox hb; have BK223 := am_ (hbox); have GW223 := am_ ((by rw [hg]; exact (keep_size (hk_ HK)) : w.heap.size ≤ gb223)); have GE223 := am_ ((Nat.le_trans HW0.out (by rw [hg]; exact (keep_size (hk_ HK)) : w.heap.size ≤ gb223) : w0.heap.size ≤ gb223)); have NB208_223 := nl_ hg BK208; have NB223_208 := ng_ hg BK208; have NB0_223 := am_ ((by rw [hg]; exact Nat.ne_of_lt (IsS75.lt (show IsS75 w0 _ g s0_0 t221 t222 from IsS75.q HI0)) : g ≠ gb223)); have NB223_0 := am_ ((by rw [hg]; exact Nat.ne_of_gt (IsS75.lt (show IsS75 w0 _ g s0_0 t221 t222 from IsS75.q HI0)) : gb223 ≠ g)); replace HO214 := Kd.R_b HO214 hb; replace HO217 := Kd.R_b HO217 hb; replace HO220 := Kd.R_b HO220 hb; replace BK208 := kb_ BK208 hb; replace HK := hkb_ HK hb; replace HB := am_ (below_step (hbI_ HB (IsS75.ge HI0.out)) hb); replace HI0 := IsS75.b HI0 hb; clear hb hbox hg; have := NB223_208.out; have := NB208_223.out; have := NB223_0.out; have := NB0_223.out; obtain ⟨hcz11_0, hcz11_1, hcz11_2, hcz11_3, hcz11_4, hcz11_5, hfz11_0, hfz11_1, hfz11_2, hfz11_3, hfz11_4, hfz11_5⟩ := bx6 BK223; obtain ⟨Ao12, co12, eo12⟩ := Kd.R_slice HO214.out; subst eo12; obtain ⟨Ao13, co13, eo13⟩ := Kd.R_slice HO217.out; subst eo13; obtain ⟨Ao14, co14, eo14⟩ := Kd.R_slice HO220.out; subst eo14) | ((with_reducible refine gk_ 59 ?_); refine gq_ 9 Tryz.func59 #[.agg #[.int .i64 t209, .int .i64 t210, .int .i64 t211]] ?_; (with_reducible refine (spec_grCount.calls t209 t210 t211 t224 _ A3.out).mono ?_); rintro e w15 ⟨rfl, hb⟩; refine ⟨_, rfl, ?_⟩; replace HO214 := Kd.R_sb HO214 BK223 hb; replace HO217 := Kd.R_sb HO217 BK223 hb; replace HO220 := Kd.R_sb HO220 BK223 hb; replace BK208 := kfb_ BK208 NB208_223 hb; replace HK := hkb_ HK hb; replace HB := am_ (below_step (hbI_ HB (IsS75.ge HI0.out)) hb); replace HI0 := am_ (IsS75.below (show IsS75 w0 ((((((w8.setCell ⟨gb223, 0, none⟩ (.int .i64 t209)).setCell ⟨gb223, 1, none⟩ (.int .i64 t210)).setCell ⟨gb223, 2, none⟩ (.int .i64 t211)).setCell ⟨gb223, 3, none⟩ (.slice Ao12 t212.length co12)).setCell ⟨gb223, 4, none⟩ (.slice Ao13 t215.length co13)).setCell ⟨gb223, 5, none⟩ (.slice Ao14 t218.length co14)) g s0_0 t221 t222 from IsS75.q HI0) hb); replace BK223 := am_ (blk_below (g := gb223) (o := .cells #[.int .i64 t209, .int .i64 t210, .int .i64 t211, .slice Ao12 t212.length co12, .slice Ao13 t215.length co13, .slice Ao14 t218.length co14] 28 (0, 0)) (kpq_ (kputs BK223 [(0, _), (1, _), (2, _), (3, _), (4, _), (5, _)])) hb)) | ((with_reducible refine gk_ 75 ?_); refine gq_ 11 Tryz.func75 #[.pointer (some ⟨g, 0, none⟩), .int .i64 30] ?_; (with_reducible refine (spec_l1Cur_pick.calls g s0_0 t221 t222 30 t225 t226 t227 w0 _ ?_ ?_ A4.out).mono ?_); exact IsS75.q HI0; exact hbI_ HB (IsS75.ge HI0.out); rintro e w16 ⟨rfl, hi, hb, hk⟩; refine ⟨_, rfl, ?_⟩; replace BK208 := am_ (KeepBut.blk hk (kp_ BK208) NB208_0.out (by simp)); replace HO214 := IsS75.rk HI0 HO214 hk; replace HO217 := IsS75.rk HI0 HO217 hk; replace HO220 := IsS75.rk HI0 HO220 hk; replace BK223 := am_ (KeepBut.blk hk (kp_ BK223) NB223_0.out (by simp)); replace HK := kt_ HK hk; replace HB := am_ (hb); replace HI0 := am_ (hi)))
 (try simp only [Act.put, List.setIfInBounds_toArray, List.set_cons_zero, List.set_cons_succ])
 go_cut [] (fun wc => ∃ (kq : Nat) (x1001_4 : Int) (x1002_4 : Int) (x224000_4 : Int) (x224001_4 : Int) (x224002_4 : Int) (x224003_4 : List Int) (x224004_4 : List Int) (x224005_4 : List Int) (u224003 : Value) (u224004 : Value) (u224005 : Value), Aside0 (spec_l1Cur_anyModel.j0 kq s0_0 x1001_4 x1002_4 x224000_4 x224001_4 x224002_4 x224003_4 x224004_4 x224005_4 = some (r1, r2, r3, r4, r5, r6, r7, r8)) ∧ Aside0 (kq ≤ k) ∧ Aside0 (Kd.R (Kd.int .i64) 3 wc w.heap.size (fun k_ => some k_ ≠ (u224004 : Value).ownBlock ∧ some k_ ≠ (u224005 : Value).ownBlock) u224003 x224003_4) ∧ Aside0 (Kd.R (Kd.int .i64) 3 wc w.heap.size (fun k_ => some k_ ≠ (u224003 : Value).ownBlock ∧ some k_ ≠ (u224005 : Value).ownBlock) u224004 x224004_4) ∧ Aside0 (Kd.R (Kd.int .i64) 3 wc w.heap.size (fun k_ => some k_ ≠ (u224003 : Value).ownBlock ∧ some k_ ≠ (u224004 : Value).ownBlock) u224005 x224005_4) ∧ Aside0 (wc.heap[gb208]? = some (.cells #[.int .i64 0, .int .i64 0, .int .i64 0, (.slice none 0 0), (.slice none 0 0), (.slice none 0 0)] 28 (0, 0))) ∧ Aside0 (wc.heap[gb223]? = some (.cells #[.int .i64 x224000_4, .int .i64 x224001_4, .int .i64 x224002_4, u224003, u224004, u224005] 28 (0, 0))) ∧ Aside0 (IsS75 w0 wc g s0_0 x1001_4 x1002_4) ∧ Aside0 (KeepBut w wc g none) ∧ Aside0 (Below w0.heap.size w0 wc))
 case first =>
  have H := HC5.out
  clear HC5
  by_cases c17 : t225 = 0
  ·rw [if_pos c17] at H
   have c17b0 : (t225 == 0) = true := beq_iff_eq.mpr c17
   have c17b1 : (t225 != 0) = false := bne_eq_false_iff_eq.mpr c17
   clear c17
   (first | rw [c17b0] | (simp only [i64_w, i32_w]; rw [c17b0]) | skip)
   revert H; refine bn_ ?_; rintro ⟨t228, t229, t230, t231, t232⟩ A18 H; try dsimp only at H
   have H' := am_ H
   clear H
   go_wp2_with (first | ((with_reducible refine gk_ 76 ?_); refine gq_ 15 Tryz.func76 #[.pointer (some ⟨g, 0, none⟩)] ?_; (with_reducible refine (spec_l1Cur_anyGrid.calls k g s0_0 t226 t227 t228 t229 t230 t231 t232 w0 _ ?_ ?_ A18.out).mono ?_); exact IsS75.q HI0; exact hbI_ HB (IsS75.ge HI0.out); rintro e w19 ⟨rfl, hi, hb, hk⟩; refine ⟨_, rfl, ?_⟩; replace BK208 := am_ (KeepBut.blk hk (kp_ BK208) NB208_0.out (by simp)); replace HO214 := IsS75.rk HI0 HO214 hk; replace HO217 := IsS75.rk HI0 HO217 hk; replace HO220 := IsS75.rk HI0 HO220 hk; replace BK223 := am_ (KeepBut.blk hk (kp_ BK223) NB223_0.out (by simp)); replace HK := kt_ HK hk; replace HB := am_ (hb); replace HI0 := am_ (hi); have := NB223_208.out; have := NB208_223.out; have := NB223_0.out; have := NB0_223.out; obtain ⟨hcz22_0, hcz22_1, hcz22_2, hcz22_3, hcz22_4, hcz22_5, hfz22_0, hfz22_1, hfz22_2, hfz22_3, hfz22_4, hfz22_5⟩ := bx6 BK223))
   go_meet
   case rel => exact ⟨_, (t231), (t232), (t228), (t229), (t230), (t212), (t215), (t218), (.slice Ao12 t212.length co12), (.slice Ao13 t215.length co13), (.slice Ao14 t218.length co14), H', ⟨by first | omega | exact Nat.le_refl _⟩, ⟨Kd.R_mono (Kd.R_s HO214 BK223) (fun _ hk => ⟨hk.1, hk.2⟩)⟩, ⟨Kd.R_mono (Kd.R_s HO217 BK223) (fun _ hk => ⟨hk.1, hk.2⟩)⟩, ⟨Kd.R_mono (Kd.R_s HO220 BK223) (fun _ hk => ⟨hk.1, hk.2⟩)⟩, ⟨kf_ BK208 NB208_223⟩, ⟨kpq_ (kputs BK223 [(0, _), (1, _), (2, _)])⟩, ⟨IsS75.q HI0⟩, ⟨hk_ HK⟩, ⟨hbI_ HB (IsS75.ge HI0.out)⟩⟩
  rw [if_neg c17] at H
  have c17b0 : (t225 == 0) = false := beq_eq_false_iff_ne.mpr c17
  have c17b1 : (t225 != 0) = true := bne_iff_ne.mpr c17
  (first | rw [c17b0] | (simp only [i64_w, i32_w]; rw [c17b0]) | skip)
  by_cases c23 : t225 = 1
  ·rw [if_pos c23] at H
   have c23b0 : (t225 == 1) = true := beq_iff_eq.mpr c23
   have c23b1 : (t225 != 1) = false := bne_eq_false_iff_eq.mpr c23
   clear c23
   revert H; refine bn_ ?_; rintro ⟨t233, t234, t235⟩ A24 H; try dsimp only at H
   obtain ⟨y236, hy236⟩ : ∃ y_ : List Int, y_ = (([(-1), 10000, 10001] : List Int)) := ⟨_, rfl⟩
   (try with_reducible replace H := (Option.bind_some _ _).symm.trans H); (try dsimp only at H); (try rw [← hy236] at H)
   have Ny236 := am_ hy236
   clear hy236
   revert H; refine bn_ ?_; rintro ⟨t239, t240, t241⟩ A25 H; try dsimp only at H
   revert H; refine pd_ fun c26b0 H => ?_
   revert H; refine pd_ fun c27b0 H => ?_
   obtain ⟨y242, hy242⟩ : ∃ y_ : List Int, y_ = (t212.set (t233 : Int).toNat t239) := ⟨_, rfl⟩
   (try with_reducible replace H := (Option.bind_some _ _).symm.trans H); (try dsimp only at H); (try rw [← hy242] at H)
   have Ny242 := am_ hy242
   clear hy242
   have H' := am_ H
   clear H
   try go_wp2
   replace HO214 := am_ (Kd.R_drew HO214.out)
   replace HO217 := am_ (Kd.R_drew HO217.out)
   replace HO220 := am_ (Kd.R_drew HO220.out)
   replace BK208 := am_ (blk_drew BK208.out)
   replace BK223 := am_ (blk_drew BK223.out)
   replace HI0 := am_ (IsS75.drew HI0.out)
   replace HK := am_ (keep_drew HK.out)
   replace HB := am_ (below_drew1 HB.out)
   refine start_ (n := 10) (S := fun w' => w'.cell? ⟨gb223, 0, none⟩ = some (.int .i64 t209) ∧ w'.cell? ⟨gb223, 1, none⟩ = some (.int .i64 t210) ∧ w'.cell? ⟨gb223, 2, none⟩ = some (.int .i64 t211) ∧ w'.cell? ⟨gb223, 3, none⟩ = some (.slice Ao12 t212.length co12) ∧ w'.cell? ⟨gb223, 4, none⟩ = some (.slice Ao13 t215.length co13) ∧ w'.cell? ⟨gb223, 5, none⟩ = some (.slice Ao14 t218.length co14)) (ds := [9]) (bb 10 0) (by kernel_rfl) rfl rfl ⟨(blk_cell BK223.out 0).trans rfl, (blk_cell BK223.out 1).trans rfl, (blk_cell BK223.out 2).trans rfl, (blk_cell BK223.out 3).trans rfl, (blk_cell BK223.out 4).trans rfl, (blk_cell BK223.out 5).trans rfl⟩ (fun hHeld => ?_); refine with_tabW spec_l1Cur_anyModel.tab7 spec_l1Cur_anyModel.bits7 (fun HT_ HW_ => ?_)
   generalize w16.drew = w29 at HO214 HO217 HO220 BK208 BK223 HI0 HK HB hHeld ⊢
   refine pm_ HT_ 0 19 10 1 ?_
   refine pm_ HT_ 2 21 10 5 ?_
   refine pm_ HT_ 3 22 10 13 ?_
   refine pm_ HT_ 5 24 10 45 ?_
   refine tk_ HT_ HW_ hHeld 1 (some 20) (bb 10 47) (h := ?_)
   refine join_ (σ := Value) 3 (bb 10 127) (fun s_ => [(23, .int .i64 t233), (25, s_)]) (fun s_ w' => (w'.cell? ⟨gb223, 0, none⟩ = some (.int .i64 t209) ∧ w'.cell? ⟨gb223, 1, none⟩ = some (.int .i64 t210) ∧ w'.cell? ⟨gb223, 2, none⟩ = some (.int .i64 t211) ∧ w'.cell? ⟨gb223, 3, none⟩ = some (.slice Ao12 t212.length co12) ∧ w'.cell? ⟨gb223, 4, none⟩ = some (.slice Ao13 t215.length co13) ∧ w'.cell? ⟨gb223, 5, none⟩ = some (.slice Ao14 t218.length co14)) ∧ (Kd.R (Kd.int .i64) 3 w' w.heap.size (fun k_ => some k_ ≠ (.slice Ao13 t215.length co13 : Value).ownBlock ∧ some k_ ≠ (.slice Ao14 t218.length co14 : Value).ownBlock ∧ some k_ ≠ (s_ : Value).ownBlock) (.slice Ao12 t212.length co12) t212) ∧ (Kd.R (Kd.int .i64) 3 w' w.heap.size (fun k_ => some k_ ≠ (.slice Ao12 t212.length co12 : Value).ownBlock ∧ some k_ ≠ (.slice Ao14 t218.length co14 : Value).ownBlock ∧ some k_ ≠ (s_ : Value).ownBlock) (.slice Ao13 t215.length co13) t215) ∧ (Kd.R (Kd.int .i64) 3 w' w.heap.size (fun k_ => some k_ ≠ (.slice Ao12 t212.length co12 : Value).ownBlock ∧ some k_ ≠ (.slice Ao13 t215.length co13 : Value).ownBlock ∧ some k_ ≠ (s_ : Value).ownBlock) (.slice Ao14 t218.length co14) t218) ∧ (Kd.R (Kd.int .i64) 3 w' w.heap.size (fun k_ => some k_ ≠ (.slice Ao12 t212.length co12 : Value).ownBlock ∧ some k_ ≠ (.slice Ao13 t215.length co13 : Value).ownBlock ∧ some k_ ≠ (.slice Ao14 t218.length co14 : Value).ownBlock) s_ y236) ∧ (w'.heap[gb208]? = some (.cells #[.int .i64 0, .int .i64 0, .int .i64 0, .slice none 0 0, .slice none 0 0, .slice none 0 0] 28 (0, 0))) ∧ (w'.heap[gb223]? = some (.cells #[.int .i64 t209, .int .i64 t210, .int .i64 t211, .slice Ao12 t212.length co12, .slice Ao13 t215.length co13, .slice Ao14 t218.length co14] 28 (0, 0))) ∧ (IsS75 w0 w' g s0_0 t234 t235) ∧ (KeepBut w w' g none) ∧ (Below w0.heap.size w0 w')) ?_ ?_
   rotate_left
   ·intro hCont
    refine two_ (i := 4) (j := 6) (Ni := some 23) (Nj := some 25) (bb 10 63) (bb 10 111) rfl rfl rfl rfl (two_of HT_.out (by kernel_rfl)) (by decide) (by decide) (fun K hK => ?_) (fun K hK => ?_)
    ·skip
     refine goes_ Tryz.func75 (by kernel_rfl) rfl #[.pointer (some ⟨g, 0, none⟩), .int .i64 t224] (by rfl) rfl rfl (by (try simp only [List.map_toArray, List.map_cons, List.map_nil]); first | done | rfl | (simp only [List.length_drop, List.length_take]; rfl)) ?_
     with_reducible refine (spec_l1Cur_pick.calls g s0_0 t226 t227 t224 t233 t234 t235 w0 _ ?side1 ?side2 A24.out).mono ?_
     (case side1 => exact IsS75.q HI0)
     (case side2 => exact hbI_ HB (IsS75.ge HI0.out))
     rintro e w30 ⟨rfl, hi, hb, hk⟩
     refine ⟨_, rfl, ?_⟩
     replace BK208 := am_ (KeepBut.blk hk (kp_ BK208) NB208_0.out (by simp))
     replace HO214 := IsS75.rk HI0 HO214 hk
     replace HO217 := IsS75.rk HI0 HO217 hk
     replace HO220 := IsS75.rk HI0 HO220 hk
     replace BK223 := am_ (KeepBut.blk hk (kp_ BK223) NB223_0.out (by simp))
     replace HK := kt_ HK hk
     replace HB := am_ (hb)
     replace HI0 := am_ (hi)
     refine hK.out _ _ ⟨(blk_cell BK223.out 0).trans rfl, (blk_cell BK223.out 1).trans rfl, (blk_cell BK223.out 2).trans rfl, (blk_cell BK223.out 3).trans rfl, (blk_cell BK223.out 4).trans rfl, (blk_cell BK223.out 5).trans rfl⟩ (fun hHeld => ?_)
     clear hK K
     refine nm_ (some 23) (h := ?_)
     refine one_ (i := 6) (N := some 25) (bb 10 127) rfl rfl (one_of HT_.out (by kernel_rfl)) (by decide) (fun K hK => ?_)
     refine Kd.R_lit_step (Kd.int .i64) _ 3 ?hg (N := 25) ?hd (xs := ([(-1), 10000, 10001] : List Int)) (inner := [.int .i64 (-1), .int .i64 10000, .int .i64 10001]) (ok := fun _ => True) (okp := fun _ => True) ?hr ?hp (fun _ hk => hk) trivial (Below.refl _ _) (Nat.le_refl _) (by simp) ?_; (case hd => rfl); (case hg => rfl); (case hr => first | (go_simp; done) | (go_simp; rfl)); (case hp => exact (Reps.one (show Kd.M (Kd.int .i64) _ _ _ (-1) [.int .i64 (-1)] from rfl) (Reps.one (show Kd.M (Kd.int .i64) _ _ _ 10000 [.int .i64 10000] from rfl) (Reps.one (show Kd.M (Kd.int .i64) _ _ _ 10001 [.int .i64 10001] from rfl) (Reps.none _ _)))))
     intro v237 w31 ho32 hb hg_ hnew_
     clear hg_ hnew_
     (first | rw [← Ny236.out] at ho32 | (simp only [Int.reduceToNat] at ho32; rw [← Ny236.out] at ho32))
     have n0_ := am_ (Kd.R_elder' (Kd.R_p HO214) (Kd.R_base ho32) hb)
     have n1_ := am_ (Kd.R_elder' (Kd.R_p HO217) (Kd.R_base ho32) hb)
     have n2_ := am_ (Kd.R_elder' (Kd.R_p HO220) (Kd.R_base ho32) hb)
     have n3_ := am_ (Kd.R_lower (Kd.R_nw (Kd.R_nw (Kd.R_nw ho32 HO214) HO217) HO220) (keep_size (hk_ HK)))
     have n4_ := am_ (IsS75.below (IsS75.q HI0) hb)
     have n5_ := am_ (blk_below (kp_ BK208) hb)
     have n6_ := am_ (blk_below (kp_ BK223) hb)
     have n7_ := am_ (KeepBut.trans (hk_ HK) (KeepBut.of_below hb g none) (.inl rfl))
     have n8_ := am_ (below_step (hbI_ HB (IsS75.ge HI0.out)) hb)
     clear HO214
     clear HO217
     clear HO220
     clear HI0
     clear BK208
     clear BK223
     clear HK
     clear HB
     have HO214 := n0_
     have HO217 := n1_
     have HO220 := n2_
     have HO238 := n3_
     have HI0 := n4_
     have BK208 := n5_
     have BK223 := n6_
     have HK := n7_
     have HB := n8_
     clear n0_ n1_ n2_ n3_ n4_ n5_ n6_ n7_ n8_
     clear hb ho32
     refine hK.out _ _ ⟨(blk_cell BK223.out 0).trans rfl, (blk_cell BK223.out 1).trans rfl, (blk_cell BK223.out 2).trans rfl, (blk_cell BK223.out 3).trans rfl, (blk_cell BK223.out 4).trans rfl, (blk_cell BK223.out 5).trans rfl⟩ (fun hHeld => ?_)
     clear hK K
     refine nm_ (some 25) (h := ?_)
     exact norm_ (by simp only [putAll, Act.put, List.setIfInBounds_toArray, List.set_cons_zero, List.set_cons_succ]) (hCont (v237) _ ⟨hHeld, (rm_ (h := HO214.out)), (rm_ (h := HO217.out)), (rm_ (h := HO220.out)), (rm_ (h := HO238.out)), (kp_ BK208), (kp_ BK223), (IsS75.q HI0), (hk_ HK), (hbI_ HB (IsS75.ge HI0.out))⟩)
    skip
    refine Kd.R_lit_step (Kd.int .i64) _ 3 ?hg (N := 25) ?hd (xs := ([(-1), 10000, 10001] : List Int)) (inner := [.int .i64 (-1), .int .i64 10000, .int .i64 10001]) (ok := fun _ => True) (okp := fun _ => True) ?hr ?hp (fun _ hk => hk) trivial (Below.refl _ _) (Nat.le_refl _) (by simp) ?_; (case hd => rfl); (case hg => rfl); (case hr => first | (go_simp; done) | (go_simp; rfl)); (case hp => exact (Reps.one (show Kd.M (Kd.int .i64) _ _ _ (-1) [.int .i64 (-1)] from rfl) (Reps.one (show Kd.M (Kd.int .i64) _ _ _ 10000 [.int .i64 10000] from rfl) (Reps.one (show Kd.M (Kd.int .i64) _ _ _ 10001 [.int .i64 10001] from rfl) (Reps.none _ _)))))
    intro v237 w30 ho31 hb hg_ hnew_
    clear hg_ hnew_
    (first | rw [← Ny236.out] at ho31 | (simp only [Int.reduceToNat] at ho31; rw [← Ny236.out] at ho31))
    have n0_ := am_ (Kd.R_elder' (Kd.R_p HO214) (Kd.R_base ho31) hb)
    have n1_ := am_ (Kd.R_elder' (Kd.R_p HO217) (Kd.R_base ho31) hb)
    have n2_ := am_ (Kd.R_elder' (Kd.R_p HO220) (Kd.R_base ho31) hb)
    have n3_ := am_ (Kd.R_lower (Kd.R_nw (Kd.R_nw (Kd.R_nw ho31 HO214) HO217) HO220) (keep_size (hk_ HK)))
    have n4_ := am_ (IsS75.below (IsS75.q HI0) hb)
    have n5_ := am_ (blk_below (kp_ BK208) hb)
    have n6_ := am_ (blk_below (kp_ BK223) hb)
    have n7_ := am_ (KeepBut.trans (hk_ HK) (KeepBut.of_below hb g none) (.inl rfl))
    have n8_ := am_ (below_step (hbI_ HB (IsS75.ge HI0.out)) hb)
    clear HO214
    clear HO217
    clear HO220
    clear HI0
    clear BK208
    clear BK223
    clear HK
    clear HB
    have HO214 := n0_
    have HO217 := n1_
    have HO220 := n2_
    have HO238 := n3_
    have HI0 := n4_
    have BK208 := n5_
    have BK223 := n6_
    have HK := n7_
    have HB := n8_
    clear n0_ n1_ n2_ n3_ n4_ n5_ n6_ n7_ n8_
    clear hb ho31
    refine hK.out _ _ ⟨(blk_cell BK223.out 0).trans rfl, (blk_cell BK223.out 1).trans rfl, (blk_cell BK223.out 2).trans rfl, (blk_cell BK223.out 3).trans rfl, (blk_cell BK223.out 4).trans rfl, (blk_cell BK223.out 5).trans rfl⟩ (fun hHeld => ?_)
    clear hK K
    refine nm_ (some 25) (h := ?_)
    refine one_ (i := 4) (N := some 23) (bb 10 127) rfl rfl (one_of HT_.out (by kernel_rfl)) (by decide) (fun K hK => ?_)
    refine goes_ Tryz.func75 (by kernel_rfl) rfl #[.pointer (some ⟨g, 0, none⟩), .int .i64 t224] (by rfl) rfl rfl (by (try simp only [List.map_toArray, List.map_cons, List.map_nil]); first | done | rfl | (simp only [List.length_drop, List.length_take]; rfl)) ?_
    with_reducible refine (spec_l1Cur_pick.calls g s0_0 t226 t227 t224 t233 t234 t235 w0 _ ?side1 ?side2 A24.out).mono ?_
    (case side1 => exact IsS75.q HI0)
    (case side2 => exact hbI_ HB (IsS75.ge HI0.out))
    rintro e w32 ⟨rfl, hi, hb, hk⟩
    refine ⟨_, rfl, ?_⟩
    replace BK208 := am_ (KeepBut.blk hk (kp_ BK208) NB208_0.out (by simp))
    replace HO214 := IsS75.rk HI0 HO214 hk
    replace HO217 := IsS75.rk HI0 HO217 hk
    replace HO220 := IsS75.rk HI0 HO220 hk
    replace BK223 := am_ (KeepBut.blk hk (kp_ BK223) NB223_0.out (by simp))
    replace HO238 := IsS75.rk HI0 HO238 hk
    replace HK := kt_ HK hk
    replace HB := am_ (hb)
    replace HI0 := am_ (hi)
    refine hK.out _ _ ⟨(blk_cell BK223.out 0).trans rfl, (blk_cell BK223.out 1).trans rfl, (blk_cell BK223.out 2).trans rfl, (blk_cell BK223.out 3).trans rfl, (blk_cell BK223.out 4).trans rfl, (blk_cell BK223.out 5).trans rfl⟩ (fun hHeld => ?_)
    clear hK K
    refine nm_ (some 23) (h := ?_)
    exact norm_ (by simp only [putAll, Act.put, List.setIfInBounds_toArray, List.set_cons_zero, List.set_cons_succ]) (hCont (v237) _ ⟨hHeld, (rm_ (h := HO214.out)), (rm_ (h := HO217.out)), (rm_ (h := HO220.out)), (rm_ (h := HO238.out)), (kp_ BK208), (kp_ BK223), (IsS75.q HI0), (hk_ HK), (hbI_ HB (IsS75.ge HI0.out))⟩)
   rintro v237 w33 ⟨hS_, h0_, h1_, h2_, h3_, h4_, h5_, h6_, h7_, h8_⟩
   have n0_ : Aside0 (Kd.R (Kd.int .i64) 3 w33 w.heap.size (fun k_ => some k_ ≠ (.slice Ao13 t215.length co13 : Value).ownBlock ∧ some k_ ≠ (.slice Ao14 t218.length co14 : Value).ownBlock ∧ some k_ ≠ (v237 : Value).ownBlock) (.slice Ao12 t212.length co12) t212) := ⟨h0_⟩
   have n1_ : Aside0 (Kd.R (Kd.int .i64) 3 w33 w.heap.size (fun k_ => some k_ ≠ (.slice Ao12 t212.length co12 : Value).ownBlock ∧ some k_ ≠ (.slice Ao14 t218.length co14 : Value).ownBlock ∧ some k_ ≠ (v237 : Value).ownBlock) (.slice Ao13 t215.length co13) t215) := ⟨h1_⟩
   have n2_ : Aside0 (Kd.R (Kd.int .i64) 3 w33 w.heap.size (fun k_ => some k_ ≠ (.slice Ao12 t212.length co12 : Value).ownBlock ∧ some k_ ≠ (.slice Ao13 t215.length co13 : Value).ownBlock ∧ some k_ ≠ (v237 : Value).ownBlock) (.slice Ao14 t218.length co14) t218) := ⟨h2_⟩
   have n3_ : Aside0 (Kd.R (Kd.int .i64) 3 w33 w.heap.size (fun k_ => some k_ ≠ (.slice Ao12 t212.length co12 : Value).ownBlock ∧ some k_ ≠ (.slice Ao13 t215.length co13 : Value).ownBlock ∧ some k_ ≠ (.slice Ao14 t218.length co14 : Value).ownBlock) v237 y236) := ⟨h3_⟩
   have n4_ : Aside0 (w33.heap[gb208]? = some (.cells #[.int .i64 0, .int .i64 0, .int .i64 0, .slice none 0 0, .slice none 0 0, .slice none 0 0] 28 (0, 0))) := ⟨h4_⟩
   have n5_ : Aside0 (w33.heap[gb223]? = some (.cells #[.int .i64 t209, .int .i64 t210, .int .i64 t211, .slice Ao12 t212.length co12, .slice Ao13 t215.length co13, .slice Ao14 t218.length co14] 28 (0, 0))) := ⟨h5_⟩
   have n6_ : Aside0 (IsS75 w0 w33 g s0_0 t234 t235) := ⟨h6_⟩
   have n7_ : Aside0 (KeepBut w w33 g none) := ⟨h7_⟩
   have n8_ : Aside0 (Below w0.heap.size w0 w33) := ⟨h8_⟩
   clear HO214
   clear HO217
   clear HO220
   clear BK208
   clear BK223
   clear HI0
   clear HK
   clear HB
   clear h0_ h1_ h2_ h3_ h4_ h5_ h6_ h7_ h8_
   have HO214 := n0_
   have HO217 := n1_
   have HO220 := n2_
   have HO238 := n3_
   have BK208 := n4_
   have BK223 := n5_
   have HI0 := n6_
   have HK := n7_
   have HB := n8_
   clear n0_ n1_ n2_ n3_ n4_ n5_ n6_ n7_ n8_
   have hHeld : w33.cell? ⟨gb223, 0, none⟩ = some (.int .i64 t209) ∧ w33.cell? ⟨gb223, 1, none⟩ = some (.int .i64 t210) ∧ w33.cell? ⟨gb223, 2, none⟩ = some (.int .i64 t211) ∧ w33.cell? ⟨gb223, 3, none⟩ = some (.slice Ao12 t212.length co12) ∧ w33.cell? ⟨gb223, 4, none⟩ = some (.slice Ao13 t215.length co13) ∧ w33.cell? ⟨gb223, 5, none⟩ = some (.slice Ao14 t218.length co14) := hS_
   obtain ⟨Ao34, co34, eo34⟩ := Kd.R_slice HO238.out
   (first | subst eo34 | (injection eo34 with f1_ f2_ f3_; have f4_ := f1_.symm; have f5_ := f3_.symm; clear f1_ f2_ f3_; subst f4_; subst f5_))
   refine norm_ (a' := ?_) ?_ ?_
   rotate_left
   ·simp only [putAll, Act.put, List.setIfInBounds_toArray, List.set_cons_zero, List.set_cons_succ]
    rfl
   refine one_ (i := 7) (N := some 26) (bb 10 255) rfl rfl (one_of HT_.out (by kernel_rfl)) (by decide) (fun K hK => ?_)
   refine goes_ Tryz.func74 (by kernel_rfl) rfl #[.pointer (some ⟨g, 0, none⟩), .slice Ao34 y236.length co34] (by rfl) rfl rfl (by (try simp only [List.map_toArray, List.map_cons, List.map_nil]); first | done | rfl | (simp only [List.length_drop, List.length_take]; rfl)) ?_
   with_reducible refine (spec_l1Cur_among.calls g s0_0 t234 t235 _ _ y236 t239 t240 t241 w0 _ ?side1 ?side2 ?side3 ?side4 ?side5 A25.out).mono ?_
   (case side1 => exact IsS75.q HI0)
   (case side2 => exact hbI_ HB (IsS75.ge HI0.out))
   (case side3 => exact Kd.C_o HO238)
   (case side4 => exact (Kd.R_reads' HO238.out).2.1)
   (case side5 => exact far_slice (IsS75.own_ne HI0.out HO238.out (by decide)))
   rintro e w35 ⟨rfl, hi, hb, hk⟩
   refine ⟨_, rfl, ?_⟩
   replace BK208 := am_ (KeepBut.blk hk (kp_ BK208) NB208_0.out (by simp))
   replace HO214 := IsS75.rk HI0 HO214 hk
   replace HO217 := IsS75.rk HI0 HO217 hk
   replace HO220 := IsS75.rk HI0 HO220 hk
   replace BK223 := am_ (KeepBut.blk hk (kp_ BK223) NB223_0.out (by simp))
   replace HO238 := IsS75.rk HI0 HO238 hk
   replace HK := kt_ HK hk
   replace HB := am_ (hb)
   replace HI0 := am_ (hi)
   have p28 : 0 ≤ (t233 : Int) := od_
   have q28 : (t233 : Int) < ((t212.length : Int) : Int) := od_
   obtain ⟨go28, co28, eo28, gb28, gl28, cl28, HG28⟩ := Kd.R_form HO214.out (by omega)
   (first | cases eo28 | (injection eo28 with ea_ en_ ec_; (first | subst ea_ | (injection ea_ with ea_; subst ea_)); subst ec_; clear en_))
   have GB28 := am_ gb28
   have GG28 := am_ HG28
   clear gb28 gl28 HG28
   obtain ⟨hx28_0, hf28_0⟩ := Kd.R_celln 0 HO214.out (t233 : Int) p28 q28
   replace p28 := eq_true p28
   replace q28 := eq_true q28
   have HN0_go28 := am_ (show g ≠ go28 from by have h_ := IsS75.own_ne HI0.out HO214.out (by decide); intro e_; exact h_ (by rw [e_]; rfl))
   have HP36 := Kd.R_putn HO214.out (t233 : Int) t239
   rw [← Ny242.out] at HP36
   have HQ36 := am_ HP36
   clear HP36
   refine hK.out _ _ ⟨(blk_cell BK223.out 0).trans rfl, (blk_cell BK223.out 1).trans rfl, (blk_cell BK223.out 2).trans rfl, (blk_cell BK223.out 3).trans rfl, (blk_cell BK223.out 4).trans rfl, (blk_cell BK223.out 5).trans rfl⟩ (fun hHeld => ?_)
   clear hK K
   refine nm_ (some 26) (h := ?_)
   refine pm_ HT_ 8 27 10 511 ?_
   refine last_ (i := 9) (N := none) (bb 10 1023) rfl rfl (one_of HT_.out (by kernel_rfl)) (by decide) (fun K hK => ?_)
   refine skip_ (w1 := ?_) (by rfl) rfl ?_ ?_
   rotate_left
   ·go_simp
    rfl
   refine hK.out _ _ ?_
   clear hK K
   refine done_ (done_of HT_.out (by kernel_rfl)) ?_
   try go_wp2
   go_meet
   case rel => exact ⟨_, (t240), (t241), (t209), (t210), (t211), (y242), (t215), (t218), (.slice (some ⟨go28, 0, none⟩) t212.length co12), (.slice Ao13 t215.length co13), (.slice Ao14 t218.length co14), H', ⟨by first | omega | exact Nat.le_refl _⟩, ⟨rm_ (h := HQ36.out)⟩, ⟨Kd.R_pp (Kd.R_mono (Kd.R_far (p := ⟨go28, (t233 : Int).toNat, none⟩) (Kd.R_mono HO217.out (fun k_ hk => (⟨hk, fun e_ => hk.1 (by rw [e_]; rfl)⟩ : _ ∧ k_ ≠ go28))) (fun _ hk => hk.2) (.int .i64 t239)) (fun _ hk => ⟨hk.1.1, hk.1.2.1⟩))⟩, ⟨Kd.R_pp (Kd.R_mono (Kd.R_far (p := ⟨go28, (t233 : Int).toNat, none⟩) (Kd.R_mono HO220.out (fun k_ hk => (⟨hk, fun e_ => hk.1 (by rw [e_]; rfl)⟩ : _ ∧ k_ ≠ go28))) (fun _ hk => hk.2) (.int .i64 t239)) (fun _ hk => ⟨hk.1.1, hk.1.2.1⟩))⟩, ⟨by (with_reducible repeat (first | refine blk_drewN ?_ _ | refine blk_drew ?_ | refine blk_alloc ?_ _)); refine blk_far ?_ (by have h_ := Kd.R_ne HO214.out BK208.out (by decide); intro e_; exact h_ (by rw [e_]; rfl)) _; (with_reducible repeat (first | refine blk_drewN ?_ _ | refine blk_drew ?_ | refine blk_alloc ?_ _)); exact BK208.out⟩, ⟨by (with_reducible repeat (first | refine blk_drewN ?_ _ | refine blk_drew ?_ | refine blk_alloc ?_ _)); refine blk_far ?_ (by have h_ := Kd.R_ne HO214.out BK223.out (by decide); intro e_; exact h_ (by rw [e_]; rfl)) _; (with_reducible repeat (first | refine blk_drewN ?_ _ | refine blk_drew ?_ | refine blk_alloc ?_ _)); exact BK223.out⟩, ⟨IsS75.q HI0⟩, ⟨by repeat (first | (with_reducible first | exact HK.out | apply KeepBut.set_ | apply keep_drewN | apply keep_drew | apply keep_alloc | refine keep_far ?_ GB28.out _ | refine keep_far ?_ GW208.out _ | refine keep_far ?_ GW223.out _) | exact HK.out)⟩, ⟨by repeat (first | (with_reducible first | exact HB.out | apply below_alloc | apply pw_below_drewN | apply below_drew1 | refine below_set ?_ (Nat.le_trans HL.out GB28.out) | refine below_set ?_ (IsS75.ge HI0.out) | refine below_set ?_ GE208.out | refine below_set ?_ GE223.out) | exact HB.out)⟩⟩
  rw [if_neg c23] at H
  have c23b0 : (t225 == 1) = false := beq_eq_false_iff_ne.mpr c23
  have c23b1 : (t225 != 1) = true := bne_iff_ne.mpr c23
  by_cases c37 : t225 = 2
  ·rw [if_pos c37] at H
   have c37b0 : (t225 == 2) = true := beq_iff_eq.mpr c37
   have c37b1 : (t225 != 2) = false := bne_eq_false_iff_eq.mpr c37
   clear c37
   revert H; refine bn_ ?_; rintro ⟨t243, t244, t245⟩ A38 H; try dsimp only at H
   obtain ⟨y246, hy246⟩ : ∃ y_ : List Int, y_ = (([(-1), 1000, 1001] : List Int)) := ⟨_, rfl⟩
   (try with_reducible replace H := (Option.bind_some _ _).symm.trans H); (try dsimp only at H); (try rw [← hy246] at H)
   have Ny246 := am_ hy246
   clear hy246
   revert H; refine bn_ ?_; rintro ⟨t249, t250, t251⟩ A39 H; try dsimp only at H
   revert H; refine pd_ fun c40b0 H => ?_
   revert H; refine pd_ fun c41b0 H => ?_
   obtain ⟨y252, hy252⟩ : ∃ y_ : List Int, y_ = (t215.set (t243 : Int).toNat t249) := ⟨_, rfl⟩
   (try with_reducible replace H := (Option.bind_some _ _).symm.trans H); (try dsimp only at H); (try rw [← hy252] at H)
   have Ny252 := am_ hy252
   clear hy252
   have H' := am_ H
   clear H
   try go_wp2
   replace HO214 := am_ (Kd.R_drew HO214.out)
   replace HO217 := am_ (Kd.R_drew HO217.out)
   replace HO220 := am_ (Kd.R_drew HO220.out)
   replace BK208 := am_ (blk_drew BK208.out)
   replace BK223 := am_ (blk_drew BK223.out)
   replace HI0 := am_ (IsS75.drew HI0.out)
   replace HK := am_ (keep_drew HK.out)
   replace HB := am_ (below_drew1 HB.out)
   refine start_ (n := 10) (S := fun w' => w'.cell? ⟨gb223, 0, none⟩ = some (.int .i64 t209) ∧ w'.cell? ⟨gb223, 1, none⟩ = some (.int .i64 t210) ∧ w'.cell? ⟨gb223, 2, none⟩ = some (.int .i64 t211) ∧ w'.cell? ⟨gb223, 3, none⟩ = some (.slice Ao12 t212.length co12) ∧ w'.cell? ⟨gb223, 4, none⟩ = some (.slice Ao13 t215.length co13) ∧ w'.cell? ⟨gb223, 5, none⟩ = some (.slice Ao14 t218.length co14)) (ds := [9]) (bb 10 0) (by kernel_rfl) rfl rfl ⟨(blk_cell BK223.out 0).trans rfl, (blk_cell BK223.out 1).trans rfl, (blk_cell BK223.out 2).trans rfl, (blk_cell BK223.out 3).trans rfl, (blk_cell BK223.out 4).trans rfl, (blk_cell BK223.out 5).trans rfl⟩ (fun hHeld => ?_); refine with_tabW spec_l1Cur_anyModel.tab9 spec_l1Cur_anyModel.bits9 (fun HT_ HW_ => ?_)
   generalize w16.drew = w43 at HO214 HO217 HO220 BK208 BK223 HI0 HK HB hHeld ⊢
   refine pm_ HT_ 0 30 10 1 ?_
   refine pm_ HT_ 2 32 10 5 ?_
   refine pm_ HT_ 3 33 10 13 ?_
   refine pm_ HT_ 5 35 10 45 ?_
   refine tk_ HT_ HW_ hHeld 1 (some 31) (bb 10 47) (h := ?_)
   refine join_ (σ := Value) 3 (bb 10 127) (fun s_ => [(34, .int .i64 t243), (36, s_)]) (fun s_ w' => (w'.cell? ⟨gb223, 0, none⟩ = some (.int .i64 t209) ∧ w'.cell? ⟨gb223, 1, none⟩ = some (.int .i64 t210) ∧ w'.cell? ⟨gb223, 2, none⟩ = some (.int .i64 t211) ∧ w'.cell? ⟨gb223, 3, none⟩ = some (.slice Ao12 t212.length co12) ∧ w'.cell? ⟨gb223, 4, none⟩ = some (.slice Ao13 t215.length co13) ∧ w'.cell? ⟨gb223, 5, none⟩ = some (.slice Ao14 t218.length co14)) ∧ (Kd.R (Kd.int .i64) 3 w' w.heap.size (fun k_ => some k_ ≠ (.slice Ao13 t215.length co13 : Value).ownBlock ∧ some k_ ≠ (.slice Ao14 t218.length co14 : Value).ownBlock ∧ some k_ ≠ (s_ : Value).ownBlock) (.slice Ao12 t212.length co12) t212) ∧ (Kd.R (Kd.int .i64) 3 w' w.heap.size (fun k_ => some k_ ≠ (.slice Ao12 t212.length co12 : Value).ownBlock ∧ some k_ ≠ (.slice Ao14 t218.length co14 : Value).ownBlock ∧ some k_ ≠ (s_ : Value).ownBlock) (.slice Ao13 t215.length co13) t215) ∧ (Kd.R (Kd.int .i64) 3 w' w.heap.size (fun k_ => some k_ ≠ (.slice Ao12 t212.length co12 : Value).ownBlock ∧ some k_ ≠ (.slice Ao13 t215.length co13 : Value).ownBlock ∧ some k_ ≠ (s_ : Value).ownBlock) (.slice Ao14 t218.length co14) t218) ∧ (Kd.R (Kd.int .i64) 3 w' w.heap.size (fun k_ => some k_ ≠ (.slice Ao12 t212.length co12 : Value).ownBlock ∧ some k_ ≠ (.slice Ao13 t215.length co13 : Value).ownBlock ∧ some k_ ≠ (.slice Ao14 t218.length co14 : Value).ownBlock) s_ y246) ∧ (w'.heap[gb208]? = some (.cells #[.int .i64 0, .int .i64 0, .int .i64 0, .slice none 0 0, .slice none 0 0, .slice none 0 0] 28 (0, 0))) ∧ (w'.heap[gb223]? = some (.cells #[.int .i64 t209, .int .i64 t210, .int .i64 t211, .slice Ao12 t212.length co12, .slice Ao13 t215.length co13, .slice Ao14 t218.length co14] 28 (0, 0))) ∧ (IsS75 w0 w' g s0_0 t244 t245) ∧ (KeepBut w w' g none) ∧ (Below w0.heap.size w0 w')) ?_ ?_
   rotate_left
   ·intro hCont
    refine two_ (i := 4) (j := 6) (Ni := some 34) (Nj := some 36) (bb 10 63) (bb 10 111) rfl rfl rfl rfl (two_of HT_.out (by kernel_rfl)) (by decide) (by decide) (fun K hK => ?_) (fun K hK => ?_)
    ·skip
     refine goes_ Tryz.func75 (by kernel_rfl) rfl #[.pointer (some ⟨g, 0, none⟩), .int .i64 t224] (by rfl) rfl rfl (by (try simp only [List.map_toArray, List.map_cons, List.map_nil]); first | done | rfl | (simp only [List.length_drop, List.length_take]; rfl)) ?_
     with_reducible refine (spec_l1Cur_pick.calls g s0_0 t226 t227 t224 t243 t244 t245 w0 _ ?side1 ?side2 A38.out).mono ?_
     (case side1 => exact IsS75.q HI0)
     (case side2 => exact hbI_ HB (IsS75.ge HI0.out))
     rintro e w44 ⟨rfl, hi, hb, hk⟩
     refine ⟨_, rfl, ?_⟩
     replace BK208 := am_ (KeepBut.blk hk (kp_ BK208) NB208_0.out (by simp))
     replace HO214 := IsS75.rk HI0 HO214 hk
     replace HO217 := IsS75.rk HI0 HO217 hk
     replace HO220 := IsS75.rk HI0 HO220 hk
     replace BK223 := am_ (KeepBut.blk hk (kp_ BK223) NB223_0.out (by simp))
     replace HK := kt_ HK hk
     replace HB := am_ (hb)
     replace HI0 := am_ (hi)
     refine hK.out _ _ ⟨(blk_cell BK223.out 0).trans rfl, (blk_cell BK223.out 1).trans rfl, (blk_cell BK223.out 2).trans rfl, (blk_cell BK223.out 3).trans rfl, (blk_cell BK223.out 4).trans rfl, (blk_cell BK223.out 5).trans rfl⟩ (fun hHeld => ?_)
     clear hK K
     refine nm_ (some 34) (h := ?_)
     refine one_ (i := 6) (N := some 36) (bb 10 127) rfl rfl (one_of HT_.out (by kernel_rfl)) (by decide) (fun K hK => ?_)
     refine Kd.R_lit_step (Kd.int .i64) _ 3 ?hg (N := 36) ?hd (xs := ([(-1), 1000, 1001] : List Int)) (inner := [.int .i64 (-1), .int .i64 1000, .int .i64 1001]) (ok := fun _ => True) (okp := fun _ => True) ?hr ?hp (fun _ hk => hk) trivial (Below.refl _ _) (Nat.le_refl _) (by simp) ?_; (case hd => rfl); (case hg => rfl); (case hr => first | (go_simp; done) | (go_simp; rfl)); (case hp => exact (Reps.one (show Kd.M (Kd.int .i64) _ _ _ (-1) [.int .i64 (-1)] from rfl) (Reps.one (show Kd.M (Kd.int .i64) _ _ _ 1000 [.int .i64 1000] from rfl) (Reps.one (show Kd.M (Kd.int .i64) _ _ _ 1001 [.int .i64 1001] from rfl) (Reps.none _ _)))))
     intro v247 w45 ho46 hb hg_ hnew_
     clear hg_ hnew_
     (first | rw [← Ny246.out] at ho46 | (simp only [Int.reduceToNat] at ho46; rw [← Ny246.out] at ho46))
     have n0_ := am_ (Kd.R_elder' (Kd.R_p HO214) (Kd.R_base ho46) hb)
     have n1_ := am_ (Kd.R_elder' (Kd.R_p HO217) (Kd.R_base ho46) hb)
     have n2_ := am_ (Kd.R_elder' (Kd.R_p HO220) (Kd.R_base ho46) hb)
     have n3_ := am_ (Kd.R_lower (Kd.R_nw (Kd.R_nw (Kd.R_nw ho46 HO214) HO217) HO220) (keep_size (hk_ HK)))
     have n4_ := am_ (IsS75.below (IsS75.q HI0) hb)
     have n5_ := am_ (blk_below (kp_ BK208) hb)
     have n6_ := am_ (blk_below (kp_ BK223) hb)
     have n7_ := am_ (KeepBut.trans (hk_ HK) (KeepBut.of_below hb g none) (.inl rfl))
     have n8_ := am_ (below_step (hbI_ HB (IsS75.ge HI0.out)) hb)
     clear HO214
     clear HO217
     clear HO220
     clear HI0
     clear BK208
     clear BK223
     clear HK
     clear HB
     have HO214 := n0_
     have HO217 := n1_
     have HO220 := n2_
     have HO248 := n3_
     have HI0 := n4_
     have BK208 := n5_
     have BK223 := n6_
     have HK := n7_
     have HB := n8_
     clear n0_ n1_ n2_ n3_ n4_ n5_ n6_ n7_ n8_
     clear hb ho46
     refine hK.out _ _ ⟨(blk_cell BK223.out 0).trans rfl, (blk_cell BK223.out 1).trans rfl, (blk_cell BK223.out 2).trans rfl, (blk_cell BK223.out 3).trans rfl, (blk_cell BK223.out 4).trans rfl, (blk_cell BK223.out 5).trans rfl⟩ (fun hHeld => ?_)
     clear hK K
     refine nm_ (some 36) (h := ?_)
     exact norm_ (by simp only [putAll, Act.put, List.setIfInBounds_toArray, List.set_cons_zero, List.set_cons_succ]) (hCont (v247) _ ⟨hHeld, (rm_ (h := HO214.out)), (rm_ (h := HO217.out)), (rm_ (h := HO220.out)), (rm_ (h := HO248.out)), (kp_ BK208), (kp_ BK223), (IsS75.q HI0), (hk_ HK), (hbI_ HB (IsS75.ge HI0.out))⟩)
    skip
    refine Kd.R_lit_step (Kd.int .i64) _ 3 ?hg (N := 36) ?hd (xs := ([(-1), 1000, 1001] : List Int)) (inner := [.int .i64 (-1), .int .i64 1000, .int .i64 1001]) (ok := fun _ => True) (okp := fun _ => True) ?hr ?hp (fun _ hk => hk) trivial (Below.refl _ _) (Nat.le_refl _) (by simp) ?_; (case hd => rfl); (case hg => rfl); (case hr => first | (go_simp; done) | (go_simp; rfl)); (case hp => exact (Reps.one (show Kd.M (Kd.int .i64) _ _ _ (-1) [.int .i64 (-1)] from rfl) (Reps.one (show Kd.M (Kd.int .i64) _ _ _ 1000 [.int .i64 1000] from rfl) (Reps.one (show Kd.M (Kd.int .i64) _ _ _ 1001 [.int .i64 1001] from rfl) (Reps.none _ _)))))
    intro v247 w44 ho45 hb hg_ hnew_
    clear hg_ hnew_
    (first | rw [← Ny246.out] at ho45 | (simp only [Int.reduceToNat] at ho45; rw [← Ny246.out] at ho45))
    have n0_ := am_ (Kd.R_elder' (Kd.R_p HO214) (Kd.R_base ho45) hb)
    have n1_ := am_ (Kd.R_elder' (Kd.R_p HO217) (Kd.R_base ho45) hb)
    have n2_ := am_ (Kd.R_elder' (Kd.R_p HO220) (Kd.R_base ho45) hb)
    have n3_ := am_ (Kd.R_lower (Kd.R_nw (Kd.R_nw (Kd.R_nw ho45 HO214) HO217) HO220) (keep_size (hk_ HK)))
    have n4_ := am_ (IsS75.below (IsS75.q HI0) hb)
    have n5_ := am_ (blk_below (kp_ BK208) hb)
    have n6_ := am_ (blk_below (kp_ BK223) hb)
    have n7_ := am_ (KeepBut.trans (hk_ HK) (KeepBut.of_below hb g none) (.inl rfl))
    have n8_ := am_ (below_step (hbI_ HB (IsS75.ge HI0.out)) hb)
    clear HO214
    clear HO217
    clear HO220
    clear HI0
    clear BK208
    clear BK223
    clear HK
    clear HB
    have HO214 := n0_
    have HO217 := n1_
    have HO220 := n2_
    have HO248 := n3_
    have HI0 := n4_
    have BK208 := n5_
    have BK223 := n6_
    have HK := n7_
    have HB := n8_
    clear n0_ n1_ n2_ n3_ n4_ n5_ n6_ n7_ n8_
    clear hb ho45
    refine hK.out _ _ ⟨(blk_cell BK223.out 0).trans rfl, (blk_cell BK223.out 1).trans rfl, (blk_cell BK223.out 2).trans rfl, (blk_cell BK223.out 3).trans rfl, (blk_cell BK223.out 4).trans rfl, (blk_cell BK223.out 5).trans rfl⟩ (fun hHeld => ?_)
    clear hK K
    refine nm_ (some 36) (h := ?_)
    refine one_ (i := 4) (N := some 34) (bb 10 127) rfl rfl (one_of HT_.out (by kernel_rfl)) (by decide) (fun K hK => ?_)
    refine goes_ Tryz.func75 (by kernel_rfl) rfl #[.pointer (some ⟨g, 0, none⟩), .int .i64 t224] (by rfl) rfl rfl (by (try simp only [List.map_toArray, List.map_cons, List.map_nil]); first | done | rfl | (simp only [List.length_drop, List.length_take]; rfl)) ?_
    with_reducible refine (spec_l1Cur_pick.calls g s0_0 t226 t227 t224 t243 t244 t245 w0 _ ?side1 ?side2 A38.out).mono ?_
    (case side1 => exact IsS75.q HI0)
    (case side2 => exact hbI_ HB (IsS75.ge HI0.out))
    rintro e w46 ⟨rfl, hi, hb, hk⟩
    refine ⟨_, rfl, ?_⟩
    replace BK208 := am_ (KeepBut.blk hk (kp_ BK208) NB208_0.out (by simp))
    replace HO214 := IsS75.rk HI0 HO214 hk
    replace HO217 := IsS75.rk HI0 HO217 hk
    replace HO220 := IsS75.rk HI0 HO220 hk
    replace BK223 := am_ (KeepBut.blk hk (kp_ BK223) NB223_0.out (by simp))
    replace HO248 := IsS75.rk HI0 HO248 hk
    replace HK := kt_ HK hk
    replace HB := am_ (hb)
    replace HI0 := am_ (hi)
    refine hK.out _ _ ⟨(blk_cell BK223.out 0).trans rfl, (blk_cell BK223.out 1).trans rfl, (blk_cell BK223.out 2).trans rfl, (blk_cell BK223.out 3).trans rfl, (blk_cell BK223.out 4).trans rfl, (blk_cell BK223.out 5).trans rfl⟩ (fun hHeld => ?_)
    clear hK K
    refine nm_ (some 34) (h := ?_)
    exact norm_ (by simp only [putAll, Act.put, List.setIfInBounds_toArray, List.set_cons_zero, List.set_cons_succ]) (hCont (v247) _ ⟨hHeld, (rm_ (h := HO214.out)), (rm_ (h := HO217.out)), (rm_ (h := HO220.out)), (rm_ (h := HO248.out)), (kp_ BK208), (kp_ BK223), (IsS75.q HI0), (hk_ HK), (hbI_ HB (IsS75.ge HI0.out))⟩)
   rintro v247 w47 ⟨hS_, h0_, h1_, h2_, h3_, h4_, h5_, h6_, h7_, h8_⟩
   have n0_ : Aside0 (Kd.R (Kd.int .i64) 3 w47 w.heap.size (fun k_ => some k_ ≠ (.slice Ao13 t215.length co13 : Value).ownBlock ∧ some k_ ≠ (.slice Ao14 t218.length co14 : Value).ownBlock ∧ some k_ ≠ (v247 : Value).ownBlock) (.slice Ao12 t212.length co12) t212) := ⟨h0_⟩
   have n1_ : Aside0 (Kd.R (Kd.int .i64) 3 w47 w.heap.size (fun k_ => some k_ ≠ (.slice Ao12 t212.length co12 : Value).ownBlock ∧ some k_ ≠ (.slice Ao14 t218.length co14 : Value).ownBlock ∧ some k_ ≠ (v247 : Value).ownBlock) (.slice Ao13 t215.length co13) t215) := ⟨h1_⟩
   have n2_ : Aside0 (Kd.R (Kd.int .i64) 3 w47 w.heap.size (fun k_ => some k_ ≠ (.slice Ao12 t212.length co12 : Value).ownBlock ∧ some k_ ≠ (.slice Ao13 t215.length co13 : Value).ownBlock ∧ some k_ ≠ (v247 : Value).ownBlock) (.slice Ao14 t218.length co14) t218) := ⟨h2_⟩
   have n3_ : Aside0 (Kd.R (Kd.int .i64) 3 w47 w.heap.size (fun k_ => some k_ ≠ (.slice Ao12 t212.length co12 : Value).ownBlock ∧ some k_ ≠ (.slice Ao13 t215.length co13 : Value).ownBlock ∧ some k_ ≠ (.slice Ao14 t218.length co14 : Value).ownBlock) v247 y246) := ⟨h3_⟩
   have n4_ : Aside0 (w47.heap[gb208]? = some (.cells #[.int .i64 0, .int .i64 0, .int .i64 0, .slice none 0 0, .slice none 0 0, .slice none 0 0] 28 (0, 0))) := ⟨h4_⟩
   have n5_ : Aside0 (w47.heap[gb223]? = some (.cells #[.int .i64 t209, .int .i64 t210, .int .i64 t211, .slice Ao12 t212.length co12, .slice Ao13 t215.length co13, .slice Ao14 t218.length co14] 28 (0, 0))) := ⟨h5_⟩
   have n6_ : Aside0 (IsS75 w0 w47 g s0_0 t244 t245) := ⟨h6_⟩
   have n7_ : Aside0 (KeepBut w w47 g none) := ⟨h7_⟩
   have n8_ : Aside0 (Below w0.heap.size w0 w47) := ⟨h8_⟩
   clear HO214
   clear HO217
   clear HO220
   clear BK208
   clear BK223
   clear HI0
   clear HK
   clear HB
   clear h0_ h1_ h2_ h3_ h4_ h5_ h6_ h7_ h8_
   have HO214 := n0_
   have HO217 := n1_
   have HO220 := n2_
   have HO248 := n3_
   have BK208 := n4_
   have BK223 := n5_
   have HI0 := n6_
   have HK := n7_
   have HB := n8_
   clear n0_ n1_ n2_ n3_ n4_ n5_ n6_ n7_ n8_
   have hHeld : w47.cell? ⟨gb223, 0, none⟩ = some (.int .i64 t209) ∧ w47.cell? ⟨gb223, 1, none⟩ = some (.int .i64 t210) ∧ w47.cell? ⟨gb223, 2, none⟩ = some (.int .i64 t211) ∧ w47.cell? ⟨gb223, 3, none⟩ = some (.slice Ao12 t212.length co12) ∧ w47.cell? ⟨gb223, 4, none⟩ = some (.slice Ao13 t215.length co13) ∧ w47.cell? ⟨gb223, 5, none⟩ = some (.slice Ao14 t218.length co14) := hS_
   obtain ⟨Ao48, co48, eo48⟩ := Kd.R_slice HO248.out
   (first | subst eo48 | (injection eo48 with f1_ f2_ f3_; have f4_ := f1_.symm; have f5_ := f3_.symm; clear f1_ f2_ f3_; subst f4_; subst f5_))
   refine norm_ (a' := ?_) ?_ ?_
   rotate_left
   ·simp only [putAll, Act.put, List.setIfInBounds_toArray, List.set_cons_zero, List.set_cons_succ]
    rfl
   refine one_ (i := 7) (N := some 37) (bb 10 255) rfl rfl (one_of HT_.out (by kernel_rfl)) (by decide) (fun K hK => ?_)
   refine goes_ Tryz.func74 (by kernel_rfl) rfl #[.pointer (some ⟨g, 0, none⟩), .slice Ao48 y246.length co48] (by rfl) rfl rfl (by (try simp only [List.map_toArray, List.map_cons, List.map_nil]); first | done | rfl | (simp only [List.length_drop, List.length_take]; rfl)) ?_
   with_reducible refine (spec_l1Cur_among.calls g s0_0 t244 t245 _ _ y246 t249 t250 t251 w0 _ ?side1 ?side2 ?side3 ?side4 ?side5 A39.out).mono ?_
   (case side1 => exact IsS75.q HI0)
   (case side2 => exact hbI_ HB (IsS75.ge HI0.out))
   (case side3 => exact Kd.C_o HO248)
   (case side4 => exact (Kd.R_reads' HO248.out).2.1)
   (case side5 => exact far_slice (IsS75.own_ne HI0.out HO248.out (by decide)))
   rintro e w49 ⟨rfl, hi, hb, hk⟩
   refine ⟨_, rfl, ?_⟩
   replace BK208 := am_ (KeepBut.blk hk (kp_ BK208) NB208_0.out (by simp))
   replace HO214 := IsS75.rk HI0 HO214 hk
   replace HO217 := IsS75.rk HI0 HO217 hk
   replace HO220 := IsS75.rk HI0 HO220 hk
   replace BK223 := am_ (KeepBut.blk hk (kp_ BK223) NB223_0.out (by simp))
   replace HO248 := IsS75.rk HI0 HO248 hk
   replace HK := kt_ HK hk
   replace HB := am_ (hb)
   replace HI0 := am_ (hi)
   have p42 : 0 ≤ (t243 : Int) := od_
   have q42 : (t243 : Int) < ((t215.length : Int) : Int) := od_
   obtain ⟨go42, co42, eo42, gb42, gl42, cl42, HG42⟩ := Kd.R_form HO217.out (by omega)
   (first | cases eo42 | (injection eo42 with ea_ en_ ec_; (first | subst ea_ | (injection ea_ with ea_; subst ea_)); subst ec_; clear en_))
   have GB42 := am_ gb42
   have GG42 := am_ HG42
   clear gb42 gl42 HG42
   obtain ⟨hx42_0, hf42_0⟩ := Kd.R_celln 0 HO217.out (t243 : Int) p42 q42
   replace p42 := eq_true p42
   replace q42 := eq_true q42
   have HN0_go42 := am_ (show g ≠ go42 from by have h_ := IsS75.own_ne HI0.out HO217.out (by decide); intro e_; exact h_ (by rw [e_]; rfl))
   have HP50 := Kd.R_putn HO217.out (t243 : Int) t249
   rw [← Ny252.out] at HP50
   have HQ50 := am_ HP50
   clear HP50
   refine hK.out _ _ ⟨(blk_cell BK223.out 0).trans rfl, (blk_cell BK223.out 1).trans rfl, (blk_cell BK223.out 2).trans rfl, (blk_cell BK223.out 3).trans rfl, (blk_cell BK223.out 4).trans rfl, (blk_cell BK223.out 5).trans rfl⟩ (fun hHeld => ?_)
   clear hK K
   refine nm_ (some 37) (h := ?_)
   refine pm_ HT_ 8 38 10 511 ?_
   refine last_ (i := 9) (N := none) (bb 10 1023) rfl rfl (one_of HT_.out (by kernel_rfl)) (by decide) (fun K hK => ?_)
   refine skip_ (w1 := ?_) (by rfl) rfl ?_ ?_
   rotate_left
   ·go_simp
    rfl
   refine hK.out _ _ ?_
   clear hK K
   refine done_ (done_of HT_.out (by kernel_rfl)) ?_
   try go_wp2
   go_meet
   case rel => exact ⟨_, (t250), (t251), (t209), (t210), (t211), (t212), (y252), (t218), (.slice Ao12 t212.length co12), (.slice (some ⟨go42, 0, none⟩) t215.length co13), (.slice Ao14 t218.length co14), H', ⟨by first | omega | exact Nat.le_refl _⟩, ⟨Kd.R_pp (Kd.R_mono (Kd.R_far (p := ⟨go42, (t243 : Int).toNat, none⟩) (Kd.R_mono HO214.out (fun k_ hk => (⟨hk, fun e_ => hk.1 (by rw [e_]; rfl)⟩ : _ ∧ k_ ≠ go42))) (fun _ hk => hk.2) (.int .i64 t249)) (fun _ hk => ⟨hk.1.1, hk.1.2.1⟩))⟩, ⟨rm_ (h := HQ50.out)⟩, ⟨Kd.R_pp (Kd.R_mono (Kd.R_far (p := ⟨go42, (t243 : Int).toNat, none⟩) (Kd.R_mono HO220.out (fun k_ hk => (⟨hk, fun e_ => hk.2.1 (by rw [e_]; rfl)⟩ : _ ∧ k_ ≠ go42))) (fun _ hk => hk.2) (.int .i64 t249)) (fun _ hk => ⟨hk.1.1, hk.1.2.1⟩))⟩, ⟨by (with_reducible repeat (first | refine blk_drewN ?_ _ | refine blk_drew ?_ | refine blk_alloc ?_ _)); refine blk_far ?_ (by have h_ := Kd.R_ne HO217.out BK208.out (by decide); intro e_; exact h_ (by rw [e_]; rfl)) _; (with_reducible repeat (first | refine blk_drewN ?_ _ | refine blk_drew ?_ | refine blk_alloc ?_ _)); exact BK208.out⟩, ⟨by (with_reducible repeat (first | refine blk_drewN ?_ _ | refine blk_drew ?_ | refine blk_alloc ?_ _)); refine blk_far ?_ (by have h_ := Kd.R_ne HO217.out BK223.out (by decide); intro e_; exact h_ (by rw [e_]; rfl)) _; (with_reducible repeat (first | refine blk_drewN ?_ _ | refine blk_drew ?_ | refine blk_alloc ?_ _)); exact BK223.out⟩, ⟨IsS75.q HI0⟩, ⟨by repeat (first | (with_reducible first | exact HK.out | apply KeepBut.set_ | apply keep_drewN | apply keep_drew | apply keep_alloc | refine keep_far ?_ GB42.out _ | refine keep_far ?_ GW208.out _ | refine keep_far ?_ GW223.out _) | exact HK.out)⟩, ⟨by repeat (first | (with_reducible first | exact HB.out | apply below_alloc | apply pw_below_drewN | apply below_drew1 | refine below_set ?_ (Nat.le_trans HL.out GB42.out) | refine below_set ?_ (IsS75.ge HI0.out) | refine below_set ?_ GE208.out | refine below_set ?_ GE223.out) | exact HB.out)⟩⟩
  rw [if_neg c37] at H
  have c37b0 : (t225 == 2) = false := beq_eq_false_iff_ne.mpr c37
  have c37b1 : (t225 != 2) = true := bne_iff_ne.mpr c37
  by_cases c51 : t225 = 3
  ·rw [if_pos c51] at H
   have c51b0 : (t225 == 3) = true := beq_iff_eq.mpr c51
   have c51b1 : (t225 != 3) = false := bne_eq_false_iff_eq.mpr c51
   clear c51
   revert H; refine bn_ ?_; rintro ⟨t253, t254, t255⟩ A52 H; try dsimp only at H
   obtain ⟨y256, hy256⟩ : ∃ y_ : List Int, y_ = (([(-1), 4, 5] : List Int)) := ⟨_, rfl⟩
   (try with_reducible replace H := (Option.bind_some _ _).symm.trans H); (try dsimp only at H); (try rw [← hy256] at H)
   have Ny256 := am_ hy256
   clear hy256
   revert H; refine bn_ ?_; rintro ⟨t259, t260, t261⟩ A53 H; try dsimp only at H
   revert H; refine pd_ fun c54b0 H => ?_
   revert H; refine pd_ fun c55b0 H => ?_
   obtain ⟨y262, hy262⟩ : ∃ y_ : List Int, y_ = (t218.set (t253 : Int).toNat t259) := ⟨_, rfl⟩
   (try with_reducible replace H := (Option.bind_some _ _).symm.trans H); (try dsimp only at H); (try rw [← hy262] at H)
   have Ny262 := am_ hy262
   clear hy262
   have H' := am_ H
   clear H
   try go_wp2
   replace HO214 := am_ (Kd.R_drew HO214.out)
   replace HO217 := am_ (Kd.R_drew HO217.out)
   replace HO220 := am_ (Kd.R_drew HO220.out)
   replace BK208 := am_ (blk_drew BK208.out)
   replace BK223 := am_ (blk_drew BK223.out)
   replace HI0 := am_ (IsS75.drew HI0.out)
   replace HK := am_ (keep_drew HK.out)
   replace HB := am_ (below_drew1 HB.out)
   refine start_ (n := 10) (S := fun w' => w'.cell? ⟨gb223, 0, none⟩ = some (.int .i64 t209) ∧ w'.cell? ⟨gb223, 1, none⟩ = some (.int .i64 t210) ∧ w'.cell? ⟨gb223, 2, none⟩ = some (.int .i64 t211) ∧ w'.cell? ⟨gb223, 3, none⟩ = some (.slice Ao12 t212.length co12) ∧ w'.cell? ⟨gb223, 4, none⟩ = some (.slice Ao13 t215.length co13) ∧ w'.cell? ⟨gb223, 5, none⟩ = some (.slice Ao14 t218.length co14)) (ds := [9]) (bb 10 0) (by kernel_rfl) rfl rfl ⟨(blk_cell BK223.out 0).trans rfl, (blk_cell BK223.out 1).trans rfl, (blk_cell BK223.out 2).trans rfl, (blk_cell BK223.out 3).trans rfl, (blk_cell BK223.out 4).trans rfl, (blk_cell BK223.out 5).trans rfl⟩ (fun hHeld => ?_); refine with_tabW spec_l1Cur_anyModel.tab11 spec_l1Cur_anyModel.bits11 (fun HT_ HW_ => ?_)
   generalize w16.drew = w57 at HO214 HO217 HO220 BK208 BK223 HI0 HK HB hHeld ⊢
   refine pm_ HT_ 0 41 10 1 ?_
   refine pm_ HT_ 2 43 10 5 ?_
   refine pm_ HT_ 3 44 10 13 ?_
   refine pm_ HT_ 5 46 10 45 ?_
   refine tk_ HT_ HW_ hHeld 1 (some 42) (bb 10 47) (h := ?_)
   refine join_ (σ := Value) 3 (bb 10 127) (fun s_ => [(45, .int .i64 t253), (47, s_)]) (fun s_ w' => (w'.cell? ⟨gb223, 0, none⟩ = some (.int .i64 t209) ∧ w'.cell? ⟨gb223, 1, none⟩ = some (.int .i64 t210) ∧ w'.cell? ⟨gb223, 2, none⟩ = some (.int .i64 t211) ∧ w'.cell? ⟨gb223, 3, none⟩ = some (.slice Ao12 t212.length co12) ∧ w'.cell? ⟨gb223, 4, none⟩ = some (.slice Ao13 t215.length co13) ∧ w'.cell? ⟨gb223, 5, none⟩ = some (.slice Ao14 t218.length co14)) ∧ (Kd.R (Kd.int .i64) 3 w' w.heap.size (fun k_ => some k_ ≠ (.slice Ao13 t215.length co13 : Value).ownBlock ∧ some k_ ≠ (.slice Ao14 t218.length co14 : Value).ownBlock ∧ some k_ ≠ (s_ : Value).ownBlock) (.slice Ao12 t212.length co12) t212) ∧ (Kd.R (Kd.int .i64) 3 w' w.heap.size (fun k_ => some k_ ≠ (.slice Ao12 t212.length co12 : Value).ownBlock ∧ some k_ ≠ (.slice Ao14 t218.length co14 : Value).ownBlock ∧ some k_ ≠ (s_ : Value).ownBlock) (.slice Ao13 t215.length co13) t215) ∧ (Kd.R (Kd.int .i64) 3 w' w.heap.size (fun k_ => some k_ ≠ (.slice Ao12 t212.length co12 : Value).ownBlock ∧ some k_ ≠ (.slice Ao13 t215.length co13 : Value).ownBlock ∧ some k_ ≠ (s_ : Value).ownBlock) (.slice Ao14 t218.length co14) t218) ∧ (Kd.R (Kd.int .i64) 3 w' w.heap.size (fun k_ => some k_ ≠ (.slice Ao12 t212.length co12 : Value).ownBlock ∧ some k_ ≠ (.slice Ao13 t215.length co13 : Value).ownBlock ∧ some k_ ≠ (.slice Ao14 t218.length co14 : Value).ownBlock) s_ y256) ∧ (w'.heap[gb208]? = some (.cells #[.int .i64 0, .int .i64 0, .int .i64 0, .slice none 0 0, .slice none 0 0, .slice none 0 0] 28 (0, 0))) ∧ (w'.heap[gb223]? = some (.cells #[.int .i64 t209, .int .i64 t210, .int .i64 t211, .slice Ao12 t212.length co12, .slice Ao13 t215.length co13, .slice Ao14 t218.length co14] 28 (0, 0))) ∧ (IsS75 w0 w' g s0_0 t254 t255) ∧ (KeepBut w w' g none) ∧ (Below w0.heap.size w0 w')) ?_ ?_
   rotate_left
   ·intro hCont
    refine two_ (i := 4) (j := 6) (Ni := some 45) (Nj := some 47) (bb 10 63) (bb 10 111) rfl rfl rfl rfl (two_of HT_.out (by kernel_rfl)) (by decide) (by decide) (fun K hK => ?_) (fun K hK => ?_)
    ·skip
     refine goes_ Tryz.func75 (by kernel_rfl) rfl #[.pointer (some ⟨g, 0, none⟩), .int .i64 t224] (by rfl) rfl rfl (by (try simp only [List.map_toArray, List.map_cons, List.map_nil]); first | done | rfl | (simp only [List.length_drop, List.length_take]; rfl)) ?_
     with_reducible refine (spec_l1Cur_pick.calls g s0_0 t226 t227 t224 t253 t254 t255 w0 _ ?side1 ?side2 A52.out).mono ?_
     (case side1 => exact IsS75.q HI0)
     (case side2 => exact hbI_ HB (IsS75.ge HI0.out))
     rintro e w58 ⟨rfl, hi, hb, hk⟩
     refine ⟨_, rfl, ?_⟩
     replace BK208 := am_ (KeepBut.blk hk (kp_ BK208) NB208_0.out (by simp))
     replace HO214 := IsS75.rk HI0 HO214 hk
     replace HO217 := IsS75.rk HI0 HO217 hk
     replace HO220 := IsS75.rk HI0 HO220 hk
     replace BK223 := am_ (KeepBut.blk hk (kp_ BK223) NB223_0.out (by simp))
     replace HK := kt_ HK hk
     replace HB := am_ (hb)
     replace HI0 := am_ (hi)
     refine hK.out _ _ ⟨(blk_cell BK223.out 0).trans rfl, (blk_cell BK223.out 1).trans rfl, (blk_cell BK223.out 2).trans rfl, (blk_cell BK223.out 3).trans rfl, (blk_cell BK223.out 4).trans rfl, (blk_cell BK223.out 5).trans rfl⟩ (fun hHeld => ?_)
     clear hK K
     refine nm_ (some 45) (h := ?_)
     refine one_ (i := 6) (N := some 47) (bb 10 127) rfl rfl (one_of HT_.out (by kernel_rfl)) (by decide) (fun K hK => ?_)
     refine Kd.R_lit_step (Kd.int .i64) _ 3 ?hg (N := 47) ?hd (xs := ([(-1), 4, 5] : List Int)) (inner := [.int .i64 (-1), .int .i64 4, .int .i64 5]) (ok := fun _ => True) (okp := fun _ => True) ?hr ?hp (fun _ hk => hk) trivial (Below.refl _ _) (Nat.le_refl _) (by simp) ?_; (case hd => rfl); (case hg => rfl); (case hr => first | (go_simp; done) | (go_simp; rfl)); (case hp => exact (Reps.one (show Kd.M (Kd.int .i64) _ _ _ (-1) [.int .i64 (-1)] from rfl) (Reps.one (show Kd.M (Kd.int .i64) _ _ _ 4 [.int .i64 4] from rfl) (Reps.one (show Kd.M (Kd.int .i64) _ _ _ 5 [.int .i64 5] from rfl) (Reps.none _ _)))))
     intro v257 w59 ho60 hb hg_ hnew_
     clear hg_ hnew_
     (first | rw [← Ny256.out] at ho60 | (simp only [Int.reduceToNat] at ho60; rw [← Ny256.out] at ho60))
     have n0_ := am_ (Kd.R_elder' (Kd.R_p HO214) (Kd.R_base ho60) hb)
     have n1_ := am_ (Kd.R_elder' (Kd.R_p HO217) (Kd.R_base ho60) hb)
     have n2_ := am_ (Kd.R_elder' (Kd.R_p HO220) (Kd.R_base ho60) hb)
     have n3_ := am_ (Kd.R_lower (Kd.R_nw (Kd.R_nw (Kd.R_nw ho60 HO214) HO217) HO220) (keep_size (hk_ HK)))
     have n4_ := am_ (IsS75.below (IsS75.q HI0) hb)
     have n5_ := am_ (blk_below (kp_ BK208) hb)
     have n6_ := am_ (blk_below (kp_ BK223) hb)
     have n7_ := am_ (KeepBut.trans (hk_ HK) (KeepBut.of_below hb g none) (.inl rfl))
     have n8_ := am_ (below_step (hbI_ HB (IsS75.ge HI0.out)) hb)
     clear HO214
     clear HO217
     clear HO220
     clear HI0
     clear BK208
     clear BK223
     clear HK
     clear HB
     have HO214 := n0_
     have HO217 := n1_
     have HO220 := n2_
     have HO258 := n3_
     have HI0 := n4_
     have BK208 := n5_
     have BK223 := n6_
     have HK := n7_
     have HB := n8_
     clear n0_ n1_ n2_ n3_ n4_ n5_ n6_ n7_ n8_
     clear hb ho60
     refine hK.out _ _ ⟨(blk_cell BK223.out 0).trans rfl, (blk_cell BK223.out 1).trans rfl, (blk_cell BK223.out 2).trans rfl, (blk_cell BK223.out 3).trans rfl, (blk_cell BK223.out 4).trans rfl, (blk_cell BK223.out 5).trans rfl⟩ (fun hHeld => ?_)
     clear hK K
     refine nm_ (some 47) (h := ?_)
     exact norm_ (by simp only [putAll, Act.put, List.setIfInBounds_toArray, List.set_cons_zero, List.set_cons_succ]) (hCont (v257) _ ⟨hHeld, (rm_ (h := HO214.out)), (rm_ (h := HO217.out)), (rm_ (h := HO220.out)), (rm_ (h := HO258.out)), (kp_ BK208), (kp_ BK223), (IsS75.q HI0), (hk_ HK), (hbI_ HB (IsS75.ge HI0.out))⟩)
    skip
    refine Kd.R_lit_step (Kd.int .i64) _ 3 ?hg (N := 47) ?hd (xs := ([(-1), 4, 5] : List Int)) (inner := [.int .i64 (-1), .int .i64 4, .int .i64 5]) (ok := fun _ => True) (okp := fun _ => True) ?hr ?hp (fun _ hk => hk) trivial (Below.refl _ _) (Nat.le_refl _) (by simp) ?_; (case hd => rfl); (case hg => rfl); (case hr => first | (go_simp; done) | (go_simp; rfl)); (case hp => exact (Reps.one (show Kd.M (Kd.int .i64) _ _ _ (-1) [.int .i64 (-1)] from rfl) (Reps.one (show Kd.M (Kd.int .i64) _ _ _ 4 [.int .i64 4] from rfl) (Reps.one (show Kd.M (Kd.int .i64) _ _ _ 5 [.int .i64 5] from rfl) (Reps.none _ _)))))
    intro v257 w58 ho59 hb hg_ hnew_
    clear hg_ hnew_
    (first | rw [← Ny256.out] at ho59 | (simp only [Int.reduceToNat] at ho59; rw [← Ny256.out] at ho59))
    have n0_ := am_ (Kd.R_elder' (Kd.R_p HO214) (Kd.R_base ho59) hb)
    have n1_ := am_ (Kd.R_elder' (Kd.R_p HO217) (Kd.R_base ho59) hb)
    have n2_ := am_ (Kd.R_elder' (Kd.R_p HO220) (Kd.R_base ho59) hb)
    have n3_ := am_ (Kd.R_lower (Kd.R_nw (Kd.R_nw (Kd.R_nw ho59 HO214) HO217) HO220) (keep_size (hk_ HK)))
    have n4_ := am_ (IsS75.below (IsS75.q HI0) hb)
    have n5_ := am_ (blk_below (kp_ BK208) hb)
    have n6_ := am_ (blk_below (kp_ BK223) hb)
    have n7_ := am_ (KeepBut.trans (hk_ HK) (KeepBut.of_below hb g none) (.inl rfl))
    have n8_ := am_ (below_step (hbI_ HB (IsS75.ge HI0.out)) hb)
    clear HO214
    clear HO217
    clear HO220
    clear HI0
    clear BK208
    clear BK223
    clear HK
    clear HB
    have HO214 := n0_
    have HO217 := n1_
    have HO220 := n2_
    have HO258 := n3_
    have HI0 := n4_
    have BK208 := n5_
    have BK223 := n6_
    have HK := n7_
    have HB := n8_
    clear n0_ n1_ n2_ n3_ n4_ n5_ n6_ n7_ n8_
    clear hb ho59
    refine hK.out _ _ ⟨(blk_cell BK223.out 0).trans rfl, (blk_cell BK223.out 1).trans rfl, (blk_cell BK223.out 2).trans rfl, (blk_cell BK223.out 3).trans rfl, (blk_cell BK223.out 4).trans rfl, (blk_cell BK223.out 5).trans rfl⟩ (fun hHeld => ?_)
    clear hK K
    refine nm_ (some 47) (h := ?_)
    refine one_ (i := 4) (N := some 45) (bb 10 127) rfl rfl (one_of HT_.out (by kernel_rfl)) (by decide) (fun K hK => ?_)
    refine goes_ Tryz.func75 (by kernel_rfl) rfl #[.pointer (some ⟨g, 0, none⟩), .int .i64 t224] (by rfl) rfl rfl (by (try simp only [List.map_toArray, List.map_cons, List.map_nil]); first | done | rfl | (simp only [List.length_drop, List.length_take]; rfl)) ?_
    with_reducible refine (spec_l1Cur_pick.calls g s0_0 t226 t227 t224 t253 t254 t255 w0 _ ?side1 ?side2 A52.out).mono ?_
    (case side1 => exact IsS75.q HI0)
    (case side2 => exact hbI_ HB (IsS75.ge HI0.out))
    rintro e w60 ⟨rfl, hi, hb, hk⟩
    refine ⟨_, rfl, ?_⟩
    replace BK208 := am_ (KeepBut.blk hk (kp_ BK208) NB208_0.out (by simp))
    replace HO214 := IsS75.rk HI0 HO214 hk
    replace HO217 := IsS75.rk HI0 HO217 hk
    replace HO220 := IsS75.rk HI0 HO220 hk
    replace BK223 := am_ (KeepBut.blk hk (kp_ BK223) NB223_0.out (by simp))
    replace HO258 := IsS75.rk HI0 HO258 hk
    replace HK := kt_ HK hk
    replace HB := am_ (hb)
    replace HI0 := am_ (hi)
    refine hK.out _ _ ⟨(blk_cell BK223.out 0).trans rfl, (blk_cell BK223.out 1).trans rfl, (blk_cell BK223.out 2).trans rfl, (blk_cell BK223.out 3).trans rfl, (blk_cell BK223.out 4).trans rfl, (blk_cell BK223.out 5).trans rfl⟩ (fun hHeld => ?_)
    clear hK K
    refine nm_ (some 45) (h := ?_)
    exact norm_ (by simp only [putAll, Act.put, List.setIfInBounds_toArray, List.set_cons_zero, List.set_cons_succ]) (hCont (v257) _ ⟨hHeld, (rm_ (h := HO214.out)), (rm_ (h := HO217.out)), (rm_ (h := HO220.out)), (rm_ (h := HO258.out)), (kp_ BK208), (kp_ BK223), (IsS75.q HI0), (hk_ HK), (hbI_ HB (IsS75.ge HI0.out))⟩)
   rintro v257 w61 ⟨hS_, h0_, h1_, h2_, h3_, h4_, h5_, h6_, h7_, h8_⟩
   have n0_ : Aside0 (Kd.R (Kd.int .i64) 3 w61 w.heap.size (fun k_ => some k_ ≠ (.slice Ao13 t215.length co13 : Value).ownBlock ∧ some k_ ≠ (.slice Ao14 t218.length co14 : Value).ownBlock ∧ some k_ ≠ (v257 : Value).ownBlock) (.slice Ao12 t212.length co12) t212) := ⟨h0_⟩
   have n1_ : Aside0 (Kd.R (Kd.int .i64) 3 w61 w.heap.size (fun k_ => some k_ ≠ (.slice Ao12 t212.length co12 : Value).ownBlock ∧ some k_ ≠ (.slice Ao14 t218.length co14 : Value).ownBlock ∧ some k_ ≠ (v257 : Value).ownBlock) (.slice Ao13 t215.length co13) t215) := ⟨h1_⟩
   have n2_ : Aside0 (Kd.R (Kd.int .i64) 3 w61 w.heap.size (fun k_ => some k_ ≠ (.slice Ao12 t212.length co12 : Value).ownBlock ∧ some k_ ≠ (.slice Ao13 t215.length co13 : Value).ownBlock ∧ some k_ ≠ (v257 : Value).ownBlock) (.slice Ao14 t218.length co14) t218) := ⟨h2_⟩
   have n3_ : Aside0 (Kd.R (Kd.int .i64) 3 w61 w.heap.size (fun k_ => some k_ ≠ (.slice Ao12 t212.length co12 : Value).ownBlock ∧ some k_ ≠ (.slice Ao13 t215.length co13 : Value).ownBlock ∧ some k_ ≠ (.slice Ao14 t218.length co14 : Value).ownBlock) v257 y256) := ⟨h3_⟩
   have n4_ : Aside0 (w61.heap[gb208]? = some (.cells #[.int .i64 0, .int .i64 0, .int .i64 0, .slice none 0 0, .slice none 0 0, .slice none 0 0] 28 (0, 0))) := ⟨h4_⟩
   have n5_ : Aside0 (w61.heap[gb223]? = some (.cells #[.int .i64 t209, .int .i64 t210, .int .i64 t211, .slice Ao12 t212.length co12, .slice Ao13 t215.length co13, .slice Ao14 t218.length co14] 28 (0, 0))) := ⟨h5_⟩
   have n6_ : Aside0 (IsS75 w0 w61 g s0_0 t254 t255) := ⟨h6_⟩
   have n7_ : Aside0 (KeepBut w w61 g none) := ⟨h7_⟩
   have n8_ : Aside0 (Below w0.heap.size w0 w61) := ⟨h8_⟩
   clear HO214
   clear HO217
   clear HO220
   clear BK208
   clear BK223
   clear HI0
   clear HK
   clear HB
   clear h0_ h1_ h2_ h3_ h4_ h5_ h6_ h7_ h8_
   have HO214 := n0_
   have HO217 := n1_
   have HO220 := n2_
   have HO258 := n3_
   have BK208 := n4_
   have BK223 := n5_
   have HI0 := n6_
   have HK := n7_
   have HB := n8_
   clear n0_ n1_ n2_ n3_ n4_ n5_ n6_ n7_ n8_
   have hHeld : w61.cell? ⟨gb223, 0, none⟩ = some (.int .i64 t209) ∧ w61.cell? ⟨gb223, 1, none⟩ = some (.int .i64 t210) ∧ w61.cell? ⟨gb223, 2, none⟩ = some (.int .i64 t211) ∧ w61.cell? ⟨gb223, 3, none⟩ = some (.slice Ao12 t212.length co12) ∧ w61.cell? ⟨gb223, 4, none⟩ = some (.slice Ao13 t215.length co13) ∧ w61.cell? ⟨gb223, 5, none⟩ = some (.slice Ao14 t218.length co14) := hS_
   obtain ⟨Ao62, co62, eo62⟩ := Kd.R_slice HO258.out
   (first | subst eo62 | (injection eo62 with f1_ f2_ f3_; have f4_ := f1_.symm; have f5_ := f3_.symm; clear f1_ f2_ f3_; subst f4_; subst f5_))
   refine norm_ (a' := ?_) ?_ ?_
   rotate_left
   ·simp only [putAll, Act.put, List.setIfInBounds_toArray, List.set_cons_zero, List.set_cons_succ]
    rfl
   refine one_ (i := 7) (N := some 48) (bb 10 255) rfl rfl (one_of HT_.out (by kernel_rfl)) (by decide) (fun K hK => ?_)
   refine goes_ Tryz.func74 (by kernel_rfl) rfl #[.pointer (some ⟨g, 0, none⟩), .slice Ao62 y256.length co62] (by rfl) rfl rfl (by (try simp only [List.map_toArray, List.map_cons, List.map_nil]); first | done | rfl | (simp only [List.length_drop, List.length_take]; rfl)) ?_
   with_reducible refine (spec_l1Cur_among.calls g s0_0 t254 t255 _ _ y256 t259 t260 t261 w0 _ ?side1 ?side2 ?side3 ?side4 ?side5 A53.out).mono ?_
   (case side1 => exact IsS75.q HI0)
   (case side2 => exact hbI_ HB (IsS75.ge HI0.out))
   (case side3 => exact Kd.C_o HO258)
   (case side4 => exact (Kd.R_reads' HO258.out).2.1)
   (case side5 => exact far_slice (IsS75.own_ne HI0.out HO258.out (by decide)))
   rintro e w63 ⟨rfl, hi, hb, hk⟩
   refine ⟨_, rfl, ?_⟩
   replace BK208 := am_ (KeepBut.blk hk (kp_ BK208) NB208_0.out (by simp))
   replace HO214 := IsS75.rk HI0 HO214 hk
   replace HO217 := IsS75.rk HI0 HO217 hk
   replace HO220 := IsS75.rk HI0 HO220 hk
   replace BK223 := am_ (KeepBut.blk hk (kp_ BK223) NB223_0.out (by simp))
   replace HO258 := IsS75.rk HI0 HO258 hk
   replace HK := kt_ HK hk
   replace HB := am_ (hb)
   replace HI0 := am_ (hi)
   have p56 : 0 ≤ (t253 : Int) := od_
   have q56 : (t253 : Int) < ((t218.length : Int) : Int) := od_
   obtain ⟨go56, co56, eo56, gb56, gl56, cl56, HG56⟩ := Kd.R_form HO220.out (by omega)
   (first | cases eo56 | (injection eo56 with ea_ en_ ec_; (first | subst ea_ | (injection ea_ with ea_; subst ea_)); subst ec_; clear en_))
   have GB56 := am_ gb56
   have GG56 := am_ HG56
   clear gb56 gl56 HG56
   obtain ⟨hx56_0, hf56_0⟩ := Kd.R_celln 0 HO220.out (t253 : Int) p56 q56
   replace p56 := eq_true p56
   replace q56 := eq_true q56
   have HN0_go56 := am_ (show g ≠ go56 from by have h_ := IsS75.own_ne HI0.out HO220.out (by decide); intro e_; exact h_ (by rw [e_]; rfl))
   have HP64 := Kd.R_putn HO220.out (t253 : Int) t259
   rw [← Ny262.out] at HP64
   have HQ64 := am_ HP64
   clear HP64
   refine hK.out _ _ ⟨(blk_cell BK223.out 0).trans rfl, (blk_cell BK223.out 1).trans rfl, (blk_cell BK223.out 2).trans rfl, (blk_cell BK223.out 3).trans rfl, (blk_cell BK223.out 4).trans rfl, (blk_cell BK223.out 5).trans rfl⟩ (fun hHeld => ?_)
   clear hK K
   refine nm_ (some 48) (h := ?_)
   refine pm_ HT_ 8 49 10 511 ?_
   refine last_ (i := 9) (N := none) (bb 10 1023) rfl rfl (one_of HT_.out (by kernel_rfl)) (by decide) (fun K hK => ?_)
   refine skip_ (w1 := ?_) (by rfl) rfl ?_ ?_
   rotate_left
   ·go_simp
    rfl
   refine hK.out _ _ ?_
   clear hK K
   refine done_ (done_of HT_.out (by kernel_rfl)) ?_
   try go_wp2
   go_meet
   case rel => exact ⟨_, (t260), (t261), (t209), (t210), (t211), (t212), (t215), (y262), (.slice Ao12 t212.length co12), (.slice Ao13 t215.length co13), (.slice (some ⟨go56, 0, none⟩) t218.length co14), H', ⟨by first | omega | exact Nat.le_refl _⟩, ⟨Kd.R_pp (Kd.R_mono (Kd.R_far (p := ⟨go56, (t253 : Int).toNat, none⟩) (Kd.R_mono HO214.out (fun k_ hk => (⟨hk, fun e_ => hk.2.1 (by rw [e_]; rfl)⟩ : _ ∧ k_ ≠ go56))) (fun _ hk => hk.2) (.int .i64 t259)) (fun _ hk => ⟨hk.1.1, hk.1.2.1⟩))⟩, ⟨Kd.R_pp (Kd.R_mono (Kd.R_far (p := ⟨go56, (t253 : Int).toNat, none⟩) (Kd.R_mono HO217.out (fun k_ hk => (⟨hk, fun e_ => hk.2.1 (by rw [e_]; rfl)⟩ : _ ∧ k_ ≠ go56))) (fun _ hk => hk.2) (.int .i64 t259)) (fun _ hk => ⟨hk.1.1, hk.1.2.1⟩))⟩, ⟨rm_ (h := HQ64.out)⟩, ⟨by (with_reducible repeat (first | refine blk_drewN ?_ _ | refine blk_drew ?_ | refine blk_alloc ?_ _)); refine blk_far ?_ (by have h_ := Kd.R_ne HO220.out BK208.out (by decide); intro e_; exact h_ (by rw [e_]; rfl)) _; (with_reducible repeat (first | refine blk_drewN ?_ _ | refine blk_drew ?_ | refine blk_alloc ?_ _)); exact BK208.out⟩, ⟨by (with_reducible repeat (first | refine blk_drewN ?_ _ | refine blk_drew ?_ | refine blk_alloc ?_ _)); refine blk_far ?_ (by have h_ := Kd.R_ne HO220.out BK223.out (by decide); intro e_; exact h_ (by rw [e_]; rfl)) _; (with_reducible repeat (first | refine blk_drewN ?_ _ | refine blk_drew ?_ | refine blk_alloc ?_ _)); exact BK223.out⟩, ⟨IsS75.q HI0⟩, ⟨by repeat (first | (with_reducible first | exact HK.out | apply KeepBut.set_ | apply keep_drewN | apply keep_drew | apply keep_alloc | refine keep_far ?_ GB56.out _ | refine keep_far ?_ GW208.out _ | refine keep_far ?_ GW223.out _) | exact HK.out)⟩, ⟨by repeat (first | (with_reducible first | exact HB.out | apply below_alloc | apply pw_below_drewN | apply below_drew1 | refine below_set ?_ (Nat.le_trans HL.out GB56.out) | refine below_set ?_ (IsS75.ge HI0.out) | refine below_set ?_ GE208.out | refine below_set ?_ GE223.out) | exact HB.out)⟩⟩
  rw [if_neg c51] at H
  have c51b0 : (t225 == 3) = false := beq_eq_false_iff_ne.mpr c51
  have c51b1 : (t225 != 3) = true := bne_iff_ne.mpr c51
  by_cases c65 : t225 = 4
  ·rw [if_pos c65] at H
   have c65b0 : (t225 == 4) = true := beq_iff_eq.mpr c65
   have c65b1 : (t225 != 4) = false := bne_eq_false_iff_eq.mpr c65
   clear c65
   revert H; refine pf_ fun c66 H => ?_
   have LMc66 := am_ c66
   clear c66
   obtain ⟨y263, hy263⟩ : ∃ y_ : List Int, y_ = (t218 ++ [0]) := ⟨_, rfl⟩
   (try with_reducible replace H := (Option.bind_some _ _).symm.trans H); (try dsimp only at H); (try rw [← hy263] at H)
   have Ny263 := am_ hy263
   clear hy263
   have H' := am_ H
   clear H
   have := NB223_208.out
   have := NB208_223.out
   have := NB223_0.out
   have := NB0_223.out
   obtain ⟨hcz69_0, hcz69_1, hcz69_2, hcz69_3, hcz69_4, hcz69_5, hfz69_0, hfz69_1, hfz69_2, hfz69_3, hfz69_4, hfz69_5⟩ := bx6 BK223
   go_wp2_with (first | ((with_reducible refine gate_builtin (b := .append) (xs := #[.tmp 53, .tmp 54]) rfl ?_); at_builtin; refine Kd.R_append (Kd.int .i64) w.heap.size rfl (.tmp 53) (.tmp 54) 26 3 (.int .i64 0) 8 rfl Tryz.underlying26 info3 rfl (by decide) (by omega) (.slice Ao14 t218.length co14) t218 0 [.int .i64 0] (fun k_ => some k_ ≠ (.slice Ao12 t212.length co12 : Value).ownBlock ∧ some k_ ≠ (.slice Ao13 t215.length co13 : Value).ownBlock) (fun _ => False) rfl rfl ?aP (fun _ hk => hk.elim) ?aF ?aO (Below.refl _ _) ?aS ?aL ?_; (case aP => exact rfl); (case aF => exact (fun k_ hk => ⟨Kd.fresh' (Kd.R_lt (Kd.R_p HO214)) k_ hk, Kd.fresh' (Kd.R_lt (Kd.R_p HO217)) k_ hk⟩)); (case aO => exact (Kd.R_p HO220)); (case aS => exact (keep_size (hk_ HK))); (case aL => have := LMc66.out; omega); intro v264 w70 ho hb hg hat; rw [← Ny263.out] at ho; have HO265 := am_ (ho); replace BK208 := am_ (blk_grown (kp_ BK208) hg (Kd.R_ne HO220.out BK208.out (by decide))); replace HO214 := am_ (Kd.R_after (ok := (fun k_ => some k_ ≠ (.slice Ao13 t215.length co13 : Value).ownBlock)) (Kd.R_p HO214) hg hat); replace HO217 := am_ (Kd.R_after (ok := (fun k_ => some k_ ≠ (.slice Ao12 t212.length co12 : Value).ownBlock)) (Kd.R_p HO217) hg hat); replace BK223 := am_ (blk_grown (kp_ BK223) hg (Kd.R_ne HO220.out BK223.out (by decide))); replace HB := am_ (below_weaken (hbI_ HB (IsS75.ge HI0.out)) HL.out hb); replace HK := am_ (KeepBut.trans (hk_ HK) (KeepBut.of_grown hg g) (Kd.R_base2 HO220.out)); replace HI0 := am_ (IsS75.grown (IsS75.q HI0) hg (IsS75.own_ne HI0.out HO220.out (by decide))); clear HO220; clear ho hb hg hat; obtain ⟨Ao71, co71, eo71⟩ := Kd.R_slice HO265.out; subst eo71; obtain ⟨hcz72_0, hcz72_1, hcz72_2, hcz72_3, hcz72_4, hcz72_5, hfz72_0, hfz72_1, hfz72_2, hfz72_3, hfz72_4, hfz72_5⟩ := bx6 BK223))
   go_meet
   case rel => exact ⟨_, (t226), (t227), (t209), (t210), (t211), (t212), (t215), (y263), (.slice Ao12 t212.length co12), (.slice Ao13 t215.length co13), (.slice Ao71 y263.length co71), H', ⟨by first | omega | exact Nat.le_refl _⟩, ⟨Kd.R_mono (Kd.R_s HO214 BK223) (fun _ hk => ⟨hk.1, hk.2⟩)⟩, ⟨Kd.R_mono (Kd.R_s HO217 BK223) (fun _ hk => ⟨hk.1, hk.2⟩)⟩, ⟨Kd.R_mono (Kd.R_s HO265 BK223) (fun _ hk => ⟨hk.1, hk.2⟩)⟩, ⟨kf_ BK208 NB208_223⟩, ⟨kpq_ (kputs BK223 [(5, _)])⟩, ⟨IsS75.q HI0⟩, ⟨hk_ HK⟩, ⟨hbI_ HB (IsS75.ge HI0.out)⟩⟩
  rw [if_neg c65] at H
  have c65b0 : (t225 == 4) = false := beq_eq_false_iff_ne.mpr c65
  have c65b1 : (t225 != 4) = true := bne_iff_ne.mpr c65
  have H' := am_ H
  clear H
  go_wp2
  go_meet
  case rel => exact ⟨_, (t226), (t227), (t209), (t210), (t211), (t212), (t215), (t218), (.slice Ao12 t212.length co12), (.slice Ao13 t215.length co13), (.slice Ao14 t218.length co14), H', ⟨by first | omega | exact Nat.le_refl _⟩, ⟨Kd.R_p HO214⟩, ⟨Kd.R_p HO217⟩, ⟨Kd.R_p HO220⟩, ⟨kp_ BK208⟩, ⟨kp_ BK223⟩, ⟨IsS75.q HI0⟩, ⟨hk_ HK⟩, ⟨hbI_ HB (IsS75.ge HI0.out)⟩⟩
 clear HC5
 obtain ⟨kq, x1001_4, x1002_4, x224000_4, x224001_4, x224002_4, x224003_4, x224004_4, x224005_4, u224003, u224004, u224005, HA, HJ4, HO_224003, HO_224004, HO_224005, BK208, BK223, HI0, HK, HB⟩ := hcut
 cases kq with
 | zero => exact absurd HA.out (by simp [spec_l1Cur_anyModel.j0])
 | succ kj4 => ?_
 have H := HA.out
 clear HA
 simp only [spec_l1Cur_anyModel.j0] at H
 simp only [Option.some.injEq, Prod.mk.injEq] at H
 obtain ⟨rfl, rfl, rfl, rfl, rfl, rfl, rfl, rfl⟩ := H
 have := NB223_208.out
 have := NB208_223.out
 have := NB223_0.out
 have := NB0_223.out
 obtain ⟨hcz75_0, hcz75_1, hcz75_2, hcz75_3, hcz75_4, hcz75_5, hfz75_0, hfz75_1, hfz75_2, hfz75_3, hfz75_4, hfz75_5⟩ := bx6 BK223
 have := NB208_0.out
 have := NB0_208.out
 obtain ⟨hcz77_0, hcz77_1, hcz77_2, hcz77_3, hcz77_4, hcz77_5, hfz77_0, hfz77_1, hfz77_2, hfz77_3, hfz77_4, hfz77_5⟩ := bx6 BK208
 obtain ⟨Ao78, co78, eo78⟩ := Kd.R_slice HO_224003.out
 subst eo78
 obtain ⟨Ao79, co79, eo79⟩ := Kd.R_slice HO_224004.out
 subst eo79
 obtain ⟨Ao80, co80, eo80⟩ := Kd.R_slice HO_224005.out
 subst eo80
 go_wp2
 refine bodyPost_ret (results_cell_row rfl _ _ gb208 28 #[.int .i64 x224000_4, .int .i64 x224001_4, .int .i64 x224002_4, .slice Ao78 x224003_4.length co78, .slice Ao79 x224004_4.length co79, .slice Ao80 x224005_4.length co80] (0, 0) _ rfl (kpq_ (kputs BK208 [(0, _), (1, _), (2, _), (3, _), (4, _), (5, _)])) Tryz.underlying28 rfl (by kernel_rfl)) rfl ?_
 exact ⟨_, _, _, se_, Kd.R_mono (Kd.R_s HO_224003 BK208) (fun _ hk => ⟨hk.1, hk.2⟩), Kd.R_mono (Kd.R_s HO_224004 BK208) (fun _ hk => ⟨hk.1, hk.2⟩), Kd.R_mono (Kd.R_s HO_224005 BK208) (fun _ hk => ⟨hk.1, hk.2⟩), IsS75.q HI0, hbI_ HB (IsS75.ge HI0.out), hk_ HK⟩

end Go.Proofs.YthphbkkkbolcnaaGreatDoor.PFnModels
