-- Laid for this claim by wip/tools/print2.sh, a changed copy of the kit's print (wip/tools/patch_print.py): not by print.sh.
import Derived.Test.YtceajigggcihnaaPFnCoarsex15
import Derived.Test.YtceajigggcihnaaPFnCoarsex16
import Derived.Test.YtceajigggcihnaaVFnCoarse
namespace Go.Proofs.Ytceajigggcihnaa.PFnCoarse
open Go.RowKit Go.Proofs.YtceajigggcihnaaW.PrintWords Go.Proofs.YtceajigggcihnaaW.PrintLast Go.Proofs.YtceajigggcihnaaW.PrintMore
attribute [local go_sem] max2_int min2_int max_two min_two max_three min_three max_four min_four
set_option linter.unusedVariables false
set_option linter.unusedSimpArgs false

/-! ### spec_l1Cur_anyModel: function 94 -/
def spec_l1Cur_anyModel.j0 : Nat → List Int → Int → Int → Int → Int → Int → List Int → List Int → List Int → Option (Int × Int × Int × List Int × List Int × List Int × Int × Int)
 | 0, _, _, _, _, _, _, _, _, _ => none
 | k + 1, x1000, x1001, x1002, x544000, x544001, x544002, x544003, x544004, x544005 => some (x544000, x544001, x544002, x544003, x544004, x544005, x1001, x1002)
def spec_l1Cur_anyModel.f (k : Nat) (s0_0 : List Int) (s0_1 : Int) (s0_2 : Int) : Option (Int × Int × Int × List Int × List Int × List Int × Int × Int) := (spec_l1Cur_model.f k s0_0 s0_1 s0_2).bind fun bt529 => ((spec_grCount.f bt529.1 bt529.2.1 bt529.2.2.1).bind fun t544 => ((spec_l1Cur_pick.f s0_0 bt529.2.2.2.2.2.2.1 bt529.2.2.2.2.2.2.2 30).bind fun bt545 => (if bt545.1 = 0 then ((spec_l1Cur_anyGrid.f k s0_0 bt545.2.1 bt545.2.2).bind fun bt548 => (spec_l1Cur_anyModel.j0 k s0_0 bt548.2.2.2.1 bt548.2.2.2.2 bt548.1 bt548.2.1 bt548.2.2.1 bt529.2.2.2.1 bt529.2.2.2.2.1 bt529.2.2.2.2.2.1)) else (if bt545.1 = 1 then ((spec_l1Cur_pick.f s0_0 bt545.2.1 bt545.2.2 t544).bind fun bt553 => ((spec_l1Cur_among.f s0_0 bt553.2.1 bt553.2.2 (([(-1), 10000, 10001] : List Int))).bind fun bt559 => (if 0 ≤ bt553.1 then (if bt553.1 < (bt529.2.2.2.1.length : Int) then (spec_l1Cur_anyModel.j0 k s0_0 bt559.2.1 bt559.2.2 bt529.1 bt529.2.1 bt529.2.2.1 (bt529.2.2.2.1.set (bt553.1 : Int).toNat bt559.1) bt529.2.2.2.2.1 bt529.2.2.2.2.2.1) else (none)) else (none)))) else (if bt545.1 = 2 then ((spec_l1Cur_pick.f s0_0 bt545.2.1 bt545.2.2 t544).bind fun bt563 => ((spec_l1Cur_among.f s0_0 bt563.2.1 bt563.2.2 (([(-1), 1000, 1001] : List Int))).bind fun bt569 => (if 0 ≤ bt563.1 then (if bt563.1 < (bt529.2.2.2.2.1.length : Int) then (spec_l1Cur_anyModel.j0 k s0_0 bt569.2.1 bt569.2.2 bt529.1 bt529.2.1 bt529.2.2.1 bt529.2.2.2.1 (bt529.2.2.2.2.1.set (bt563.1 : Int).toNat bt569.1) bt529.2.2.2.2.2.1) else (none)) else (none)))) else (if bt545.1 = 3 then ((spec_l1Cur_pick.f s0_0 bt545.2.1 bt545.2.2 t544).bind fun bt573 => ((spec_l1Cur_among.f s0_0 bt573.2.1 bt573.2.2 (([(-1), 4, 5] : List Int))).bind fun bt579 => (if 0 ≤ bt573.1 then (if bt573.1 < (bt529.2.2.2.2.2.1.length : Int) then (spec_l1Cur_anyModel.j0 k s0_0 bt579.2.1 bt579.2.2 bt529.1 bt529.2.1 bt529.2.2.1 bt529.2.2.2.1 bt529.2.2.2.2.1 (bt529.2.2.2.2.2.1.set (bt573.1 : Int).toNat bt579.1)) else (none)) else (none)))) else (if bt545.1 = 4 then (if bt529.2.2.2.2.2.1.length < 17592186044416 then (spec_l1Cur_anyModel.j0 k s0_0 bt545.2.1 bt545.2.2 bt529.1 bt529.2.1 bt529.2.2.1 bt529.2.2.2.1 bt529.2.2.2.2.1 (bt529.2.2.2.2.2.1 ++ [0])) else (none)) else (spec_l1Cur_anyModel.j0 k s0_0 bt545.2.1 bt545.2.2 bt529.1 bt529.2.1 bt529.2.2.1 bt529.2.2.2.1 bt529.2.2.2.2.1 bt529.2.2.2.2.2.1))))))))
def spec_l1Cur_anyModel.T7 : Bool × List (List Nat × List Nat) := (true, [([], []), ([0], [0]), ([], []), ([], []), ([2, 3], [2, 3]), ([], []), ([], []), ([5, 6, 4], [5, 6]), ([1, 4, 0, 1, 2, 3, 4, 5, 6, 7], [1, 4]), ([8, 7, 7, 0, 1, 2, 3, 4, 5, 6, 7], [7, 8])])
def spec_l1Cur_anyModel.B7 : List Nat := [0, 1, 0, 0, 12, 0, 0, 124, 255, 511]
theorem spec_l1Cur_anyModel.tab7 : rtab .any (opsOf Try.f94 7) = spec_l1Cur_anyModel.T7 := by kernel_rfl
theorem spec_l1Cur_anyModel.bits7 : waitsOk spec_l1Cur_anyModel.T7.2 spec_l1Cur_anyModel.B7 = true := by kernel_rfl
def spec_l1Cur_anyModel.T9 : Bool × List (List Nat × List Nat) := (true, [([], []), ([0], [0]), ([], []), ([], []), ([2, 3], [2, 3]), ([], []), ([], []), ([5, 6, 4], [5, 6]), ([1, 4, 0, 1, 2, 3, 4, 5, 6, 7], [1, 4]), ([8, 7, 7, 0, 1, 2, 3, 4, 5, 6, 7], [7, 8])])
def spec_l1Cur_anyModel.B9 : List Nat := [0, 1, 0, 0, 12, 0, 0, 124, 255, 511]
theorem spec_l1Cur_anyModel.tab9 : rtab .any (opsOf Try.f94 9) = spec_l1Cur_anyModel.T9 := by kernel_rfl
theorem spec_l1Cur_anyModel.bits9 : waitsOk spec_l1Cur_anyModel.T9.2 spec_l1Cur_anyModel.B9 = true := by kernel_rfl
def spec_l1Cur_anyModel.T11 : Bool × List (List Nat × List Nat) := (true, [([], []), ([0], [0]), ([], []), ([], []), ([2, 3], [2, 3]), ([], []), ([], []), ([5, 6, 4], [5, 6]), ([1, 4, 0, 1, 2, 3, 4, 5, 6, 7], [1, 4]), ([8, 7, 7, 0, 1, 2, 3, 4, 5, 6, 7], [7, 8])])
def spec_l1Cur_anyModel.B11 : List Nat := [0, 1, 0, 0, 12, 0, 0, 124, 255, 511]
theorem spec_l1Cur_anyModel.tab11 : rtab .any (opsOf Try.f94 11) = spec_l1Cur_anyModel.T11 := by kernel_rfl
theorem spec_l1Cur_anyModel.bits11 : waitsOk spec_l1Cur_anyModel.T11.2 spec_l1Cur_anyModel.B11 = true := by kernel_rfl
set_option maxHeartbeats 8000000 in
set_option maxRecDepth 100000 in
theorem spec_l1Cur_anyModel.calls (k : Nat) (g : Nat) (s0_0 : List Int) (s0_1 : Int) (s0_2 : Int) (r1 : Int) (r2 : Int) (r3 : Int) (r4 : List Int) (r5 : List Int) (r6 : List Int) (r7 : Int) (r8 : Int) (w0 w : World) (hI : IsS106 w0 w g s0_0 s0_1 s0_2) (hB : Below w0.heap.size w0 w) (h : spec_l1Cur_anyModel.f k s0_0 s0_1 s0_2 = some (r1, r2, r3, r4, r5, r6, r7, r8)) :
  Calls Try.prog 94 #[.pointer (some ⟨g, 0, none⟩)] w fun e w' => ∃ v3_ v4_ v5_ : Value, e = .returned (.agg #[.int .i64 r1, .int .i64 r2, .int .i64 r3, v3_, v4_, v5_]) ∧ Kd.R (Kd.int .i64) 3 w' w.heap.size (fun k_ => some k_ ≠ (v4_ : Value).ownBlock ∧ some k_ ≠ (v5_ : Value).ownBlock) v3_ r4 ∧ Kd.R (Kd.int .i64) 3 w' w.heap.size (fun k_ => some k_ ≠ (v3_ : Value).ownBlock ∧ some k_ ≠ (v5_ : Value).ownBlock) v4_ r5 ∧ Kd.R (Kd.int .i64) 3 w' w.heap.size (fun k_ => some k_ ≠ (v3_ : Value).ownBlock ∧ some k_ ≠ (v4_ : Value).ownBlock) v5_ r6 ∧ IsS106 w0 w' g s0_0 r7 r8 ∧ Below w0.heap.size w0 w' ∧ KeepBut w w' g none := by
 have hu34 := Try.underlying34
 have hu32 := Try.underlying32
 have HI0 := Aside0.mk hI
 have HK := Aside0.mk (KeepBut.refl w g none)
 have HL := Aside0.mk hB.size
 clear hI
 have HW0 := Aside0.mk hB.size
 have HB := Aside0.mk hB
 clear hB
 have H := h
 unfold spec_l1Cur_anyModel.f at H
 clear h
 replace H := Option.bind_eq_some_iff.mp H
 obtain ⟨⟨t529, t530, t531, t532, t535, t538, t541, t542⟩, A20, H⟩ := H
 try dsimp only at H
 have A2 := Aside0.mk A20
 clear A20
 replace H := Option.bind_eq_some_iff.mp H
 obtain ⟨t544, A30, H⟩ := H
 try dsimp only at H
 have A3 := Aside0.mk A30
 clear A30
 replace H := Option.bind_eq_some_iff.mp H
 obtain ⟨⟨t545, t546, t547⟩, A40, H⟩ := H
 try dsimp only at H
 have A4 := Aside0.mk A40
 clear A40
 have HC5 := Aside0.mk H
 clear H
 go_enter Try.func94, Try.ntmps94
 go_upto_block 0 with (first | ((with_reducible refine gate_dst (N := 2) rfl ?_); refine bv_ 2 (cs := #[.int .i64 0, .int .i64 0, .int .i64 0, .slice none 0 0, .slice none 0 0, .slice none 0 0]) (t := 34) ?_; intro gb528 hg w6 hbox hb; have BK528 := Aside0.mk (hbox); have GW528 := Aside0.mk ((by rw [hg]; exact (keep_size (hk_ HK)) : w.heap.size ≤ gb528)); have GE528 := Aside0.mk ((Nat.le_trans HW0.out (by rw [hg]; exact (keep_size (hk_ HK)) : w.heap.size ≤ gb528) : w0.heap.size ≤ gb528)); have NB0_528 := Aside0.mk ((by rw [hg]; exact Nat.ne_of_lt (IsS106.lt (show IsS106 w0 _ g s0_0 s0_1 s0_2 from IsS106.q HI0)) : g ≠ gb528)); have NB528_0 := Aside0.mk ((by rw [hg]; exact Nat.ne_of_gt (IsS106.lt (show IsS106 w0 _ g s0_0 s0_1 s0_2 from IsS106.q HI0)) : gb528 ≠ g)); replace HK := hkb_ HK hb; replace HB := Aside0.mk (below_step (hbI_ HB (IsS106.ge HI0.out)) hb); replace HI0 := IsS106.b HI0 hb; clear hb hbox hg) | ((with_reducible refine gate_callee (f := 120) rfl ?_); refine gl_ (some 6) Try.func120 #[.pointer (some ⟨g, 0, none⟩)] rfl rfl rfl ?_; (with_reducible refine (spec_l1Cur_model.calls k g s0_0 s0_1 s0_2 t529 t530 t531 t532 t535 t538 t541 t542 w0 _ ?side1 ?side2 A2.out).mono ?_); (case side1 => exact IsS106.q HI0); (case side2 => exact hbI_ HB (IsS106.ge HI0.out)); rintro e w7 ⟨v533, v536, v539, rfl, ho0, ho1, ho2, hi, hb, hk⟩; refine ⟨_, rfl, ?_⟩; have HO534 := Aside0.mk (Kd.R_lower ho0 (keep_size (hk_ HK))); have HO537 := Aside0.mk (Kd.R_lower ho1 (keep_size (hk_ HK))); have HO540 := Aside0.mk (Kd.R_lower ho2 (keep_size (hk_ HK))); replace BK528 := kk_ BK528 hk NB528_0; replace HK := Aside0.mk (KeepBut.trans (hk_ HK) hk (.inl rfl)); replace HB := Aside0.mk (hb); replace HI0 := Aside0.mk (hi)) | ((with_reducible refine gate_dst (N := 3) rfl ?_); refine bv_ 3 (cs := #[.int .i64 0, .int .i64 0, .int .i64 0, .slice none 0 0, .slice none 0 0, .slice none 0 0]) (t := 34) ?_; intro gb543 hg w8 hbox hb; have BK543 := Aside0.mk (hbox); have GW543 := Aside0.mk ((by rw [hg]; exact (keep_size (hk_ HK)) : w.heap.size ≤ gb543)); have GE543 := Aside0.mk ((Nat.le_trans HW0.out (by rw [hg]; exact (keep_size (hk_ HK)) : w.heap.size ≤ gb543) : w0.heap.size ≤ gb543)); have NB528_543 := nl_ hg BK528; have NB543_528 := ng_ hg BK528; have NB0_543 := Aside0.mk ((by rw [hg]; exact Nat.ne_of_lt (IsS106.lt (show IsS106 w0 _ g s0_0 t541 t542 from IsS106.q HI0)) : g ≠ gb543)); have NB543_0 := Aside0.mk ((by rw [hg]; exact Nat.ne_of_gt (IsS106.lt (show IsS106 w0 _ g s0_0 t541 t542 from IsS106.q HI0)) : gb543 ≠ g)); replace HO534 := Kd.R_b HO534 hb; replace HO537 := Kd.R_b HO537 hb; replace HO540 := Kd.R_b HO540 hb; replace BK528 := kb_ BK528 hb; replace HK := hkb_ HK hb; replace HB := Aside0.mk (below_step (hbI_ HB (IsS106.ge HI0.out)) hb); replace HI0 := IsS106.b HI0 hb; clear hb hbox hg; have := NB543_528.out; have := NB528_543.out; have := NB543_0.out; have := NB0_543.out; obtain ⟨hcz11_0, hcz11_1, hcz11_2, hcz11_3, hcz11_4, hcz11_5, hfz11_0, hfz11_1, hfz11_2, hfz11_3, hfz11_4, hfz11_5⟩ := bx6 BK543; obtain ⟨Ao12, co12, eo12⟩ := Kd.R_slice HO534.out; subst eo12; obtain ⟨Ao13, co13, eo13⟩ := Kd.R_slice HO537.out; subst eo13; obtain ⟨Ao14, co14, eo14⟩ := Kd.R_slice HO540.out; subst eo14) | ((with_reducible refine gate_callee (f := 79) rfl ?_); refine gl_ (some 9) Try.func79 #[.agg #[.int .i64 t529, .int .i64 t530, .int .i64 t531]] rfl rfl rfl ?_; (with_reducible refine (spec_grCount.calls t529 t530 t531 t544 _ A3.out).mono ?_); rintro e w15 ⟨rfl, hb⟩; refine ⟨_, rfl, ?_⟩; replace HO534 := Kd.R_sb HO534 BK543 hb; replace HO537 := Kd.R_sb HO537 BK543 hb; replace HO540 := Kd.R_sb HO540 BK543 hb; replace BK528 := kfb_ BK528 NB528_543 hb; replace HK := hkb_ HK hb; replace HB := Aside0.mk (below_step (hbI_ HB (IsS106.ge HI0.out)) hb); replace HI0 := Aside0.mk (IsS106.below (show IsS106 w0 ((((((w8.setCell ⟨gb543, 0, none⟩ (.int .i64 t529)).setCell ⟨gb543, 1, none⟩ (.int .i64 t530)).setCell ⟨gb543, 2, none⟩ (.int .i64 t531)).setCell ⟨gb543, 3, none⟩ (.slice Ao12 t532.length co12)).setCell ⟨gb543, 4, none⟩ (.slice Ao13 t535.length co13)).setCell ⟨gb543, 5, none⟩ (.slice Ao14 t538.length co14)) g s0_0 t541 t542 from IsS106.q HI0) hb); replace BK543 := Aside0.mk (blk_below (g := gb543) (o := .cells #[.int .i64 t529, .int .i64 t530, .int .i64 t531, .slice Ao12 t532.length co12, .slice Ao13 t535.length co13, .slice Ao14 t538.length co14] 34 (0, 0)) (kpq_ (kputs BK543 [(0, _), (1, _), (2, _), (3, _), (4, _), (5, _)])) hb)) | ((with_reducible refine gate_callee (f := 87) rfl ?_); refine gl_ (some 11) Try.func87 #[.pointer (some ⟨g, 0, none⟩), .int .i64 30] rfl rfl rfl ?_; (with_reducible refine (spec_l1Cur_pick.calls g s0_0 t541 t542 30 t545 t546 t547 w0 _ ?side1 ?side2 A4.out).mono ?_); (case side1 => exact IsS106.q HI0); (case side2 => exact hbI_ HB (IsS106.ge HI0.out)); rintro e w16 ⟨rfl, hi, hb, hk⟩; refine ⟨_, rfl, ?_⟩; replace BK528 := Aside0.mk (KeepBut.blk hk (kp_ BK528) NB528_0.out (by simp)); replace HO534 := IsS106.rk HI0 HO534 hk; replace HO537 := IsS106.rk HI0 HO537 hk; replace HO540 := IsS106.rk HI0 HO540 hk; replace BK543 := Aside0.mk (KeepBut.blk hk (kp_ BK543) NB543_0.out (by simp)); replace HK := Aside0.mk (KeepBut.trans (hk_ HK) hk (.inl rfl)); replace HB := Aside0.mk (hb); replace HI0 := Aside0.mk (hi)))
 (try simp only [Act.put, List.setIfInBounds_toArray, List.set_cons_zero, List.set_cons_succ])
 go_cut [] (fun wc => ∃ (kq : Nat) (x1001_4 : Int) (x1002_4 : Int) (x544000_4 : Int) (x544001_4 : Int) (x544002_4 : Int) (x544003_4 : List Int) (x544004_4 : List Int) (x544005_4 : List Int) (u544003 : Value) (u544004 : Value) (u544005 : Value), Aside0 (spec_l1Cur_anyModel.j0 kq s0_0 x1001_4 x1002_4 x544000_4 x544001_4 x544002_4 x544003_4 x544004_4 x544005_4 = some (r1, r2, r3, r4, r5, r6, r7, r8)) ∧ Aside0 (kq ≤ k) ∧ Aside0 (Kd.R (Kd.int .i64) 3 wc w.heap.size (fun k_ => some k_ ≠ (u544004 : Value).ownBlock ∧ some k_ ≠ (u544005 : Value).ownBlock) u544003 x544003_4) ∧ Aside0 (Kd.R (Kd.int .i64) 3 wc w.heap.size (fun k_ => some k_ ≠ (u544003 : Value).ownBlock ∧ some k_ ≠ (u544005 : Value).ownBlock) u544004 x544004_4) ∧ Aside0 (Kd.R (Kd.int .i64) 3 wc w.heap.size (fun k_ => some k_ ≠ (u544003 : Value).ownBlock ∧ some k_ ≠ (u544004 : Value).ownBlock) u544005 x544005_4) ∧ Aside0 (wc.heap[gb528]? = some (.cells #[.int .i64 0, .int .i64 0, .int .i64 0, (.slice none 0 0), (.slice none 0 0), (.slice none 0 0)] 34 (0, 0))) ∧ Aside0 (wc.heap[gb543]? = some (.cells #[.int .i64 x544000_4, .int .i64 x544001_4, .int .i64 x544002_4, u544003, u544004, u544005] 34 (0, 0))) ∧ Aside0 (IsS106 w0 wc g s0_0 x1001_4 x1002_4) ∧ Aside0 (KeepBut w wc g none) ∧ Aside0 (Below w0.heap.size w0 wc))
 case first =>
  have H := HC5.out
  clear HC5
  by_cases c17 : t545 = 0
  ·rw [if_pos c17] at H
   have c17b0 : (t545 == 0) = true := beq_iff_eq.mpr c17
   have c17b1 : (t545 != 0) = false := bne_eq_false_iff_eq.mpr c17
   clear c17
   (first | rw [c17b0] | (simp only [i64_w, i32_w]; rw [c17b0]) | skip)
   replace H := Option.bind_eq_some_iff.mp H
   obtain ⟨⟨t548, t549, t550, t551, t552⟩, A180, H⟩ := H
   try dsimp only at H
   have A18 := Aside0.mk A180
   clear A180
   have H' := Aside0.mk H
   clear H
   go_wp2_with (first | ((with_reducible refine gate_callee (f := 97) rfl ?_); refine gl_ (some 15) Try.func97 #[.pointer (some ⟨g, 0, none⟩)] rfl rfl rfl ?_; (with_reducible refine (spec_l1Cur_anyGrid.calls k g s0_0 t546 t547 t548 t549 t550 t551 t552 w0 _ ?side1 ?side2 A18.out).mono ?_); (case side1 => exact IsS106.q HI0); (case side2 => exact hbI_ HB (IsS106.ge HI0.out)); rintro e w19 ⟨rfl, hi, hb, hk⟩; refine ⟨_, rfl, ?_⟩; replace BK528 := Aside0.mk (KeepBut.blk hk (kp_ BK528) NB528_0.out (by simp)); replace HO534 := IsS106.rk HI0 HO534 hk; replace HO537 := IsS106.rk HI0 HO537 hk; replace HO540 := IsS106.rk HI0 HO540 hk; replace BK543 := Aside0.mk (KeepBut.blk hk (kp_ BK543) NB543_0.out (by simp)); replace HK := Aside0.mk (KeepBut.trans (hk_ HK) hk (.inl rfl)); replace HB := Aside0.mk (hb); replace HI0 := Aside0.mk (hi); have := NB543_528.out; have := NB528_543.out; have := NB543_0.out; have := NB0_543.out; obtain ⟨hcz22_0, hcz22_1, hcz22_2, hcz22_3, hcz22_4, hcz22_5, hfz22_0, hfz22_1, hfz22_2, hfz22_3, hfz22_4, hfz22_5⟩ := bx6 BK543))
   go_meet
   case rel => exact ⟨_, (t551), (t552), (t548), (t549), (t550), (t532), (t535), (t538), (.slice Ao12 t532.length co12), (.slice Ao13 t535.length co13), (.slice Ao14 t538.length co14), H', ⟨by first | omega | exact Nat.le_refl _⟩, ⟨Kd.R_mono (Kd.R_s HO534 BK543) (fun _ hk => ⟨hk.1, hk.2⟩)⟩, ⟨Kd.R_mono (Kd.R_s HO537 BK543) (fun _ hk => ⟨hk.1, hk.2⟩)⟩, ⟨Kd.R_mono (Kd.R_s HO540 BK543) (fun _ hk => ⟨hk.1, hk.2⟩)⟩, ⟨kf_ BK528 NB528_543⟩, ⟨kpq_ (kputs BK543 [(0, _), (1, _), (2, _)])⟩, ⟨IsS106.q HI0⟩, ⟨hk_ HK⟩, ⟨hbI_ HB (IsS106.ge HI0.out)⟩⟩
  rw [if_neg c17] at H
  have c17b0 : (t545 == 0) = false := beq_eq_false_iff_ne.mpr c17
  have c17b1 : (t545 != 0) = true := bne_iff_ne.mpr c17
  (first | rw [c17b0] | (simp only [i64_w, i32_w]; rw [c17b0]) | skip)
  by_cases c23 : t545 = 1
  ·rw [if_pos c23] at H
   have c23b0 : (t545 == 1) = true := beq_iff_eq.mpr c23
   have c23b1 : (t545 != 1) = false := bne_eq_false_iff_eq.mpr c23
   clear c23
   replace H := Option.bind_eq_some_iff.mp H
   obtain ⟨⟨t553, t554, t555⟩, A240, H⟩ := H
   try dsimp only at H
   have A24 := Aside0.mk A240
   clear A240
   obtain ⟨y556, hy556⟩ : ∃ y_ : List Int, y_ = (([(-1), 10000, 10001] : List Int)) := ⟨_, rfl⟩
   (try with_reducible replace H := (Option.bind_some _ _).symm.trans H); (try dsimp only at H); (try rw [← hy556] at H)
   have Ny556 := Aside0.mk hy556
   clear hy556
   replace H := Option.bind_eq_some_iff.mp H
   obtain ⟨⟨t559, t560, t561⟩, A250, H⟩ := H
   try dsimp only at H
   have A25 := Aside0.mk A250
   clear A250
   by_cases c26 : 0 ≤ t553
   case neg => rw [if_neg c26] at H; exact absurd H (by simp)
   rw [if_pos c26] at H
   have c26b0 := decide_eq_true c26
   clear c26
   by_cases c27 : t553 < (t532.length : Int)
   case neg => rw [if_neg c27] at H; exact absurd H (by simp)
   rw [if_pos c27] at H
   have c27b0 := decide_eq_true c27
   clear c27
   obtain ⟨y562, hy562⟩ : ∃ y_ : List Int, y_ = (t532.set (t553 : Int).toNat t559) := ⟨_, rfl⟩
   (try with_reducible replace H := (Option.bind_some _ _).symm.trans H); (try dsimp only at H); (try rw [← hy562] at H)
   have Ny562 := Aside0.mk hy562
   clear hy562
   have H' := Aside0.mk H
   clear H
   try go_wp2
   replace HO534 := Aside0.mk (Kd.R_drew HO534.out)
   replace HO537 := Aside0.mk (Kd.R_drew HO537.out)
   replace HO540 := Aside0.mk (Kd.R_drew HO540.out)
   replace BK528 := Aside0.mk (blk_drew BK528.out)
   replace BK543 := Aside0.mk (blk_drew BK543.out)
   replace HI0 := Aside0.mk (IsS106.drew HI0.out)
   replace HK := Aside0.mk (keep_drew HK.out)
   replace HB := Aside0.mk (below_drew1 HB.out)
   refine start_ (n := 10) (S := fun w' => w'.cell? ⟨gb543, 0, none⟩ = some (.int .i64 t529) ∧ w'.cell? ⟨gb543, 1, none⟩ = some (.int .i64 t530) ∧ w'.cell? ⟨gb543, 2, none⟩ = some (.int .i64 t531) ∧ w'.cell? ⟨gb543, 3, none⟩ = some (.slice Ao12 t532.length co12) ∧ w'.cell? ⟨gb543, 4, none⟩ = some (.slice Ao13 t535.length co13) ∧ w'.cell? ⟨gb543, 5, none⟩ = some (.slice Ao14 t538.length co14)) (ds := [9]) (bb 10 0) (by kernel_rfl) rfl rfl ⟨(blk_cell BK543.out 0).trans rfl, (blk_cell BK543.out 1).trans rfl, (blk_cell BK543.out 2).trans rfl, (blk_cell BK543.out 3).trans rfl, (blk_cell BK543.out 4).trans rfl, (blk_cell BK543.out 5).trans rfl⟩ (fun hHeld => ?_); refine with_tabW spec_l1Cur_anyModel.tab7 spec_l1Cur_anyModel.bits7 (fun HT_ HW_ => ?_)
   generalize w16.drew = w29 at HO534 HO537 HO540 BK528 BK543 HI0 HK HB hHeld ⊢
   refine pl_ HT_ 0 (some 19) (bb 10 1) (h := ?_)
   refine pl_ HT_ 2 (some 21) (bb 10 5) (h := ?_)
   refine pl_ HT_ 3 (some 22) (bb 10 13) (h := ?_)
   refine pl_ HT_ 5 (some 24) (bb 10 45) (h := ?_)
   refine tk_ HT_ HW_ hHeld 1 (some 20) (bb 10 47) (h := ?_)
   refine join_ (σ := Value) 3 (bb 10 127) (fun s_ => [(23, .int .i64 t553), (25, s_)]) (fun s_ w' => (w'.cell? ⟨gb543, 0, none⟩ = some (.int .i64 t529) ∧ w'.cell? ⟨gb543, 1, none⟩ = some (.int .i64 t530) ∧ w'.cell? ⟨gb543, 2, none⟩ = some (.int .i64 t531) ∧ w'.cell? ⟨gb543, 3, none⟩ = some (.slice Ao12 t532.length co12) ∧ w'.cell? ⟨gb543, 4, none⟩ = some (.slice Ao13 t535.length co13) ∧ w'.cell? ⟨gb543, 5, none⟩ = some (.slice Ao14 t538.length co14)) ∧ (Kd.R (Kd.int .i64) 3 w' w.heap.size (fun k_ => some k_ ≠ (.slice Ao13 t535.length co13 : Value).ownBlock ∧ some k_ ≠ (.slice Ao14 t538.length co14 : Value).ownBlock ∧ some k_ ≠ (s_ : Value).ownBlock) (.slice Ao12 t532.length co12) t532) ∧ (Kd.R (Kd.int .i64) 3 w' w.heap.size (fun k_ => some k_ ≠ (.slice Ao12 t532.length co12 : Value).ownBlock ∧ some k_ ≠ (.slice Ao14 t538.length co14 : Value).ownBlock ∧ some k_ ≠ (s_ : Value).ownBlock) (.slice Ao13 t535.length co13) t535) ∧ (Kd.R (Kd.int .i64) 3 w' w.heap.size (fun k_ => some k_ ≠ (.slice Ao12 t532.length co12 : Value).ownBlock ∧ some k_ ≠ (.slice Ao13 t535.length co13 : Value).ownBlock ∧ some k_ ≠ (s_ : Value).ownBlock) (.slice Ao14 t538.length co14) t538) ∧ (Kd.R (Kd.int .i64) 3 w' w.heap.size (fun k_ => some k_ ≠ (.slice Ao12 t532.length co12 : Value).ownBlock ∧ some k_ ≠ (.slice Ao13 t535.length co13 : Value).ownBlock ∧ some k_ ≠ (.slice Ao14 t538.length co14 : Value).ownBlock) s_ y556) ∧ (w'.heap[gb528]? = some (.cells #[.int .i64 0, .int .i64 0, .int .i64 0, .slice none 0 0, .slice none 0 0, .slice none 0 0] 34 (0, 0))) ∧ (w'.heap[gb543]? = some (.cells #[.int .i64 t529, .int .i64 t530, .int .i64 t531, .slice Ao12 t532.length co12, .slice Ao13 t535.length co13, .slice Ao14 t538.length co14] 34 (0, 0))) ∧ (IsS106 w0 w' g s0_0 t554 t555) ∧ (KeepBut w w' g none) ∧ (Below w0.heap.size w0 w')) ?_ ?_
   rotate_left
   ·intro hCont
    refine two_ (i := 4) (j := 6) (Ni := some 23) (Nj := some 25) (bb 10 63) (bb 10 111) rfl rfl rfl rfl (two_of HT_.out (by kernel_rfl)) (by decide) (by decide) (fun K hK => ?_) (fun K hK => ?_)
    ·skip
     refine goes_ Try.func87 (by kernel_rfl) rfl #[.pointer (some ⟨g, 0, none⟩), .int .i64 t544] (by rfl) rfl rfl (by (try simp only [List.map_toArray, List.map_cons, List.map_nil]); first | done | rfl | (simp only [List.length_drop, List.length_take]; rfl)) ?_
     with_reducible refine (spec_l1Cur_pick.calls g s0_0 t546 t547 t544 t553 t554 t555 w0 _ ?side1 ?side2 A24.out).mono ?_
     (case side1 => exact IsS106.q HI0)
     (case side2 => exact hbI_ HB (IsS106.ge HI0.out))
     rintro e w30 ⟨rfl, hi, hb, hk⟩
     refine ⟨_, rfl, ?_⟩
     replace BK528 := Aside0.mk (KeepBut.blk hk (kp_ BK528) NB528_0.out (by simp))
     replace HO534 := IsS106.rk HI0 HO534 hk
     replace HO537 := IsS106.rk HI0 HO537 hk
     replace HO540 := IsS106.rk HI0 HO540 hk
     replace BK543 := Aside0.mk (KeepBut.blk hk (kp_ BK543) NB543_0.out (by simp))
     replace HK := Aside0.mk (KeepBut.trans (hk_ HK) hk (.inl rfl))
     replace HB := Aside0.mk (hb)
     replace HI0 := Aside0.mk (hi)
     refine hK.out _ _ ⟨(blk_cell BK543.out 0).trans rfl, (blk_cell BK543.out 1).trans rfl, (blk_cell BK543.out 2).trans rfl, (blk_cell BK543.out 3).trans rfl, (blk_cell BK543.out 4).trans rfl, (blk_cell BK543.out 5).trans rfl⟩ (fun hHeld => ?_)
     clear hK K
     refine nm_ (some 23) (h := ?_)
     refine one_ (i := 6) (N := some 25) (bb 10 127) rfl rfl (one_of HT_.out (by kernel_rfl)) (by decide) (fun K hK => ?_)
     refine Kd.R_lit_step (Kd.int .i64) _ 3 ?hg (N := 25) ?hd (xs := ([(-1), 10000, 10001] : List Int)) (inner := [.int .i64 (-1), .int .i64 10000, .int .i64 10001]) (ok := fun _ => True) (okp := fun _ => True) ?hr ?hp (fun _ hk => hk) trivial (Below.refl _ _) (Nat.le_refl _) (by simp) ?_; (case hd => rfl); (case hg => rfl); (case hr => first | (go_simp; done) | (go_simp; rfl)); (case hp => exact (Reps.one (show Kd.M (Kd.int .i64) _ _ _ (-1) [.int .i64 (-1)] from rfl) (Reps.one (show Kd.M (Kd.int .i64) _ _ _ 10000 [.int .i64 10000] from rfl) (Reps.one (show Kd.M (Kd.int .i64) _ _ _ 10001 [.int .i64 10001] from rfl) (Reps.none _ _)))))
     intro v557 w31 ho32 hb hg_ hnew_
     clear hg_ hnew_
     (first | rw [← Ny556.out] at ho32 | (simp only [Int.reduceToNat] at ho32; rw [← Ny556.out] at ho32))
     have n0_ := Aside0.mk (Kd.R_elder' (Kd.R_p HO534) (Kd.R_base ho32) hb)
     have n1_ := Aside0.mk (Kd.R_elder' (Kd.R_p HO537) (Kd.R_base ho32) hb)
     have n2_ := Aside0.mk (Kd.R_elder' (Kd.R_p HO540) (Kd.R_base ho32) hb)
     have n3_ := Aside0.mk (Kd.R_lower (Kd.R_nw (Kd.R_nw (Kd.R_nw ho32 HO534) HO537) HO540) (keep_size (hk_ HK)))
     have n4_ := Aside0.mk (IsS106.below (IsS106.q HI0) hb)
     have n5_ := Aside0.mk (blk_below (kp_ BK528) hb)
     have n6_ := Aside0.mk (blk_below (kp_ BK543) hb)
     have n7_ := Aside0.mk (KeepBut.trans (hk_ HK) (KeepBut.of_below hb g none) (.inl rfl))
     have n8_ := Aside0.mk (below_step (hbI_ HB (IsS106.ge HI0.out)) hb)
     clear HO534
     clear HO537
     clear HO540
     clear HI0
     clear BK528
     clear BK543
     clear HK
     clear HB
     have HO534 := n0_
     have HO537 := n1_
     have HO540 := n2_
     have HO558 := n3_
     have HI0 := n4_
     have BK528 := n5_
     have BK543 := n6_
     have HK := n7_
     have HB := n8_
     clear n0_ n1_ n2_ n3_ n4_ n5_ n6_ n7_ n8_
     clear hb ho32
     refine hK.out _ _ ⟨(blk_cell BK543.out 0).trans rfl, (blk_cell BK543.out 1).trans rfl, (blk_cell BK543.out 2).trans rfl, (blk_cell BK543.out 3).trans rfl, (blk_cell BK543.out 4).trans rfl, (blk_cell BK543.out 5).trans rfl⟩ (fun hHeld => ?_)
     clear hK K
     refine nm_ (some 25) (h := ?_)
     exact norm_ (by simp only [putAll, Act.put, List.setIfInBounds_toArray, List.set_cons_zero, List.set_cons_succ]) (hCont (v557) _ ⟨hHeld, (rm_ (h := HO534.out)), (rm_ (h := HO537.out)), (rm_ (h := HO540.out)), (rm_ (h := HO558.out)), (kp_ BK528), (kp_ BK543), (IsS106.q HI0), (hk_ HK), (hbI_ HB (IsS106.ge HI0.out))⟩)
    skip
    refine Kd.R_lit_step (Kd.int .i64) _ 3 ?hg (N := 25) ?hd (xs := ([(-1), 10000, 10001] : List Int)) (inner := [.int .i64 (-1), .int .i64 10000, .int .i64 10001]) (ok := fun _ => True) (okp := fun _ => True) ?hr ?hp (fun _ hk => hk) trivial (Below.refl _ _) (Nat.le_refl _) (by simp) ?_; (case hd => rfl); (case hg => rfl); (case hr => first | (go_simp; done) | (go_simp; rfl)); (case hp => exact (Reps.one (show Kd.M (Kd.int .i64) _ _ _ (-1) [.int .i64 (-1)] from rfl) (Reps.one (show Kd.M (Kd.int .i64) _ _ _ 10000 [.int .i64 10000] from rfl) (Reps.one (show Kd.M (Kd.int .i64) _ _ _ 10001 [.int .i64 10001] from rfl) (Reps.none _ _)))))
    intro v557 w30 ho31 hb hg_ hnew_
    clear hg_ hnew_
    (first | rw [← Ny556.out] at ho31 | (simp only [Int.reduceToNat] at ho31; rw [← Ny556.out] at ho31))
    have n0_ := Aside0.mk (Kd.R_elder' (Kd.R_p HO534) (Kd.R_base ho31) hb)
    have n1_ := Aside0.mk (Kd.R_elder' (Kd.R_p HO537) (Kd.R_base ho31) hb)
    have n2_ := Aside0.mk (Kd.R_elder' (Kd.R_p HO540) (Kd.R_base ho31) hb)
    have n3_ := Aside0.mk (Kd.R_lower (Kd.R_nw (Kd.R_nw (Kd.R_nw ho31 HO534) HO537) HO540) (keep_size (hk_ HK)))
    have n4_ := Aside0.mk (IsS106.below (IsS106.q HI0) hb)
    have n5_ := Aside0.mk (blk_below (kp_ BK528) hb)
    have n6_ := Aside0.mk (blk_below (kp_ BK543) hb)
    have n7_ := Aside0.mk (KeepBut.trans (hk_ HK) (KeepBut.of_below hb g none) (.inl rfl))
    have n8_ := Aside0.mk (below_step (hbI_ HB (IsS106.ge HI0.out)) hb)
    clear HO534
    clear HO537
    clear HO540
    clear HI0
    clear BK528
    clear BK543
    clear HK
    clear HB
    have HO534 := n0_
    have HO537 := n1_
    have HO540 := n2_
    have HO558 := n3_
    have HI0 := n4_
    have BK528 := n5_
    have BK543 := n6_
    have HK := n7_
    have HB := n8_
    clear n0_ n1_ n2_ n3_ n4_ n5_ n6_ n7_ n8_
    clear hb ho31
    refine hK.out _ _ ⟨(blk_cell BK543.out 0).trans rfl, (blk_cell BK543.out 1).trans rfl, (blk_cell BK543.out 2).trans rfl, (blk_cell BK543.out 3).trans rfl, (blk_cell BK543.out 4).trans rfl, (blk_cell BK543.out 5).trans rfl⟩ (fun hHeld => ?_)
    clear hK K
    refine nm_ (some 25) (h := ?_)
    refine one_ (i := 4) (N := some 23) (bb 10 127) rfl rfl (one_of HT_.out (by kernel_rfl)) (by decide) (fun K hK => ?_)
    refine goes_ Try.func87 (by kernel_rfl) rfl #[.pointer (some ⟨g, 0, none⟩), .int .i64 t544] (by rfl) rfl rfl (by (try simp only [List.map_toArray, List.map_cons, List.map_nil]); first | done | rfl | (simp only [List.length_drop, List.length_take]; rfl)) ?_
    with_reducible refine (spec_l1Cur_pick.calls g s0_0 t546 t547 t544 t553 t554 t555 w0 _ ?side1 ?side2 A24.out).mono ?_
    (case side1 => exact IsS106.q HI0)
    (case side2 => exact hbI_ HB (IsS106.ge HI0.out))
    rintro e w32 ⟨rfl, hi, hb, hk⟩
    refine ⟨_, rfl, ?_⟩
    replace BK528 := Aside0.mk (KeepBut.blk hk (kp_ BK528) NB528_0.out (by simp))
    replace HO534 := IsS106.rk HI0 HO534 hk
    replace HO537 := IsS106.rk HI0 HO537 hk
    replace HO540 := IsS106.rk HI0 HO540 hk
    replace BK543 := Aside0.mk (KeepBut.blk hk (kp_ BK543) NB543_0.out (by simp))
    replace HO558 := IsS106.rk HI0 HO558 hk
    replace HK := Aside0.mk (KeepBut.trans (hk_ HK) hk (.inl rfl))
    replace HB := Aside0.mk (hb)
    replace HI0 := Aside0.mk (hi)
    refine hK.out _ _ ⟨(blk_cell BK543.out 0).trans rfl, (blk_cell BK543.out 1).trans rfl, (blk_cell BK543.out 2).trans rfl, (blk_cell BK543.out 3).trans rfl, (blk_cell BK543.out 4).trans rfl, (blk_cell BK543.out 5).trans rfl⟩ (fun hHeld => ?_)
    clear hK K
    refine nm_ (some 23) (h := ?_)
    exact norm_ (by simp only [putAll, Act.put, List.setIfInBounds_toArray, List.set_cons_zero, List.set_cons_succ]) (hCont (v557) _ ⟨hHeld, (rm_ (h := HO534.out)), (rm_ (h := HO537.out)), (rm_ (h := HO540.out)), (rm_ (h := HO558.out)), (kp_ BK528), (kp_ BK543), (IsS106.q HI0), (hk_ HK), (hbI_ HB (IsS106.ge HI0.out))⟩)
   rintro v557 w33 ⟨hS_, h0_, h1_, h2_, h3_, h4_, h5_, h6_, h7_, h8_⟩
   have n0_ : Aside0 (Kd.R (Kd.int .i64) 3 w33 w.heap.size (fun k_ => some k_ ≠ (.slice Ao13 t535.length co13 : Value).ownBlock ∧ some k_ ≠ (.slice Ao14 t538.length co14 : Value).ownBlock ∧ some k_ ≠ (v557 : Value).ownBlock) (.slice Ao12 t532.length co12) t532) := ⟨h0_⟩
   have n1_ : Aside0 (Kd.R (Kd.int .i64) 3 w33 w.heap.size (fun k_ => some k_ ≠ (.slice Ao12 t532.length co12 : Value).ownBlock ∧ some k_ ≠ (.slice Ao14 t538.length co14 : Value).ownBlock ∧ some k_ ≠ (v557 : Value).ownBlock) (.slice Ao13 t535.length co13) t535) := ⟨h1_⟩
   have n2_ : Aside0 (Kd.R (Kd.int .i64) 3 w33 w.heap.size (fun k_ => some k_ ≠ (.slice Ao12 t532.length co12 : Value).ownBlock ∧ some k_ ≠ (.slice Ao13 t535.length co13 : Value).ownBlock ∧ some k_ ≠ (v557 : Value).ownBlock) (.slice Ao14 t538.length co14) t538) := ⟨h2_⟩
   have n3_ : Aside0 (Kd.R (Kd.int .i64) 3 w33 w.heap.size (fun k_ => some k_ ≠ (.slice Ao12 t532.length co12 : Value).ownBlock ∧ some k_ ≠ (.slice Ao13 t535.length co13 : Value).ownBlock ∧ some k_ ≠ (.slice Ao14 t538.length co14 : Value).ownBlock) v557 y556) := ⟨h3_⟩
   have n4_ : Aside0 (w33.heap[gb528]? = some (.cells #[.int .i64 0, .int .i64 0, .int .i64 0, .slice none 0 0, .slice none 0 0, .slice none 0 0] 34 (0, 0))) := ⟨h4_⟩
   have n5_ : Aside0 (w33.heap[gb543]? = some (.cells #[.int .i64 t529, .int .i64 t530, .int .i64 t531, .slice Ao12 t532.length co12, .slice Ao13 t535.length co13, .slice Ao14 t538.length co14] 34 (0, 0))) := ⟨h5_⟩
   have n6_ : Aside0 (IsS106 w0 w33 g s0_0 t554 t555) := ⟨h6_⟩
   have n7_ : Aside0 (KeepBut w w33 g none) := ⟨h7_⟩
   have n8_ : Aside0 (Below w0.heap.size w0 w33) := ⟨h8_⟩
   clear HO534
   clear HO537
   clear HO540
   clear BK528
   clear BK543
   clear HI0
   clear HK
   clear HB
   clear h0_ h1_ h2_ h3_ h4_ h5_ h6_ h7_ h8_
   have HO534 := n0_
   have HO537 := n1_
   have HO540 := n2_
   have HO558 := n3_
   have BK528 := n4_
   have BK543 := n5_
   have HI0 := n6_
   have HK := n7_
   have HB := n8_
   clear n0_ n1_ n2_ n3_ n4_ n5_ n6_ n7_ n8_
   have hHeld : w33.cell? ⟨gb543, 0, none⟩ = some (.int .i64 t529) ∧ w33.cell? ⟨gb543, 1, none⟩ = some (.int .i64 t530) ∧ w33.cell? ⟨gb543, 2, none⟩ = some (.int .i64 t531) ∧ w33.cell? ⟨gb543, 3, none⟩ = some (.slice Ao12 t532.length co12) ∧ w33.cell? ⟨gb543, 4, none⟩ = some (.slice Ao13 t535.length co13) ∧ w33.cell? ⟨gb543, 5, none⟩ = some (.slice Ao14 t538.length co14) := hS_
   obtain ⟨Ao34, co34, eo34⟩ := Kd.R_slice HO558.out
   (first | subst eo34 | (injection eo34 with f1_ f2_ f3_; have f4_ := f1_.symm; have f5_ := f3_.symm; clear f1_ f2_ f3_; subst f4_; subst f5_))
   refine norm_ (a' := ?_) ?_ ?_
   rotate_left
   ·simp only [putAll, Act.put, List.setIfInBounds_toArray, List.set_cons_zero, List.set_cons_succ]
    rfl
   refine one_ (i := 7) (N := some 26) (bb 10 255) rfl rfl (one_of HT_.out (by kernel_rfl)) (by decide) (fun K hK => ?_)
   refine goes_ Try.func89 (by kernel_rfl) rfl #[.pointer (some ⟨g, 0, none⟩), .slice Ao34 y556.length co34] (by rfl) rfl rfl (by (try simp only [List.map_toArray, List.map_cons, List.map_nil]); first | done | rfl | (simp only [List.length_drop, List.length_take]; rfl)) ?_
   with_reducible refine (spec_l1Cur_among.calls g s0_0 t554 t555 _ _ y556 t559 t560 t561 w0 _ ?side1 ?side2 ?side3 ?side4 ?side5 A25.out).mono ?_
   (case side1 => exact IsS106.q HI0)
   (case side2 => exact hbI_ HB (IsS106.ge HI0.out))
   (case side3 => exact Kd.C_o HO558)
   (case side4 => exact (Kd.R_reads' HO558.out).2.1)
   (case side5 => exact far_slice (IsS106.own_ne HI0.out HO558.out (by decide)))
   rintro e w35 ⟨rfl, hi, hb, hk⟩
   refine ⟨_, rfl, ?_⟩
   replace BK528 := Aside0.mk (KeepBut.blk hk (kp_ BK528) NB528_0.out (by simp))
   replace HO534 := IsS106.rk HI0 HO534 hk
   replace HO537 := IsS106.rk HI0 HO537 hk
   replace HO540 := IsS106.rk HI0 HO540 hk
   replace BK543 := Aside0.mk (KeepBut.blk hk (kp_ BK543) NB543_0.out (by simp))
   replace HO558 := IsS106.rk HI0 HO558 hk
   replace HK := Aside0.mk (KeepBut.trans (hk_ HK) hk (.inl rfl))
   replace HB := Aside0.mk (hb)
   replace HI0 := Aside0.mk (hi)
   have p28 : 0 ≤ (t553 : Int) := of_decide_eq_true (by first | (with_reducible assumption) | assumption)
   have q28 : (t553 : Int) < ((t532.length : Int) : Int) := of_decide_eq_true (by first | (with_reducible assumption) | assumption)
   obtain ⟨go28, co28, eo28, gb28, gl28, cl28, HG28⟩ := Kd.R_form HO534.out (by omega)
   (first | cases eo28 | (injection eo28 with ea_ en_ ec_; (first | subst ea_ | (injection ea_ with ea_; subst ea_)); subst ec_; clear en_))
   have GB28 := Aside0.mk gb28
   have GG28 := Aside0.mk HG28
   clear gb28 gl28 HG28
   obtain ⟨hx28_0, hf28_0⟩ := Kd.R_celln 0 HO534.out (t553 : Int) p28 q28
   replace p28 := eq_true p28
   replace q28 := eq_true q28
   have HN0_go28 := Aside0.mk (show g ≠ go28 from by have h_ := IsS106.own_ne HI0.out HO534.out (by decide); intro e_; exact h_ (by rw [e_]; rfl))
   have HP36 := Kd.R_putn HO534.out (t553 : Int) t559
   rw [← Ny562.out] at HP36
   have HQ36 := Aside0.mk HP36
   clear HP36
   refine hK.out _ _ ⟨(blk_cell BK543.out 0).trans rfl, (blk_cell BK543.out 1).trans rfl, (blk_cell BK543.out 2).trans rfl, (blk_cell BK543.out 3).trans rfl, (blk_cell BK543.out 4).trans rfl, (blk_cell BK543.out 5).trans rfl⟩ (fun hHeld => ?_)
   clear hK K
   refine nm_ (some 26) (h := ?_)
   refine pl_ HT_ 8 (some 27) (bb 10 511) (h := ?_)
   refine last_ (i := 9) (N := none) (bb 10 1023) rfl rfl (one_of HT_.out (by kernel_rfl)) (by decide) (fun K hK => ?_)
   refine skip_ (w1 := ?_) (by rfl) rfl ?_ ?_
   rotate_left
   ·go_simp
    rfl
   refine hK.out _ _ ?_
   clear hK K
   refine done_ (done_of HT_.out (by kernel_rfl)) ?_
   try go_wp2
   go_meet
   case rel => exact ⟨_, (t560), (t561), (t529), (t530), (t531), (y562), (t535), (t538), (.slice (some ⟨go28, 0, none⟩) t532.length co12), (.slice Ao13 t535.length co13), (.slice Ao14 t538.length co14), H', ⟨by first | omega | exact Nat.le_refl _⟩, ⟨rm_ (h := HQ36.out)⟩, ⟨Kd.R_pp (Kd.R_mono (Kd.R_far (p := ⟨go28, (t553 : Int).toNat, none⟩) (Kd.R_mono HO537.out (fun k_ hk => (⟨hk, fun e_ => hk.1 (by rw [e_]; rfl)⟩ : _ ∧ k_ ≠ go28))) (fun _ hk => hk.2) (.int .i64 t559)) (fun _ hk => ⟨hk.1.1, hk.1.2.1⟩))⟩, ⟨Kd.R_pp (Kd.R_mono (Kd.R_far (p := ⟨go28, (t553 : Int).toNat, none⟩) (Kd.R_mono HO540.out (fun k_ hk => (⟨hk, fun e_ => hk.1 (by rw [e_]; rfl)⟩ : _ ∧ k_ ≠ go28))) (fun _ hk => hk.2) (.int .i64 t559)) (fun _ hk => ⟨hk.1.1, hk.1.2.1⟩))⟩, ⟨by (with_reducible repeat (first | refine blk_drewN ?_ _ | refine blk_drew ?_ | refine blk_alloc ?_ _)); refine blk_far ?_ (by have h_ := Kd.R_ne HO534.out BK528.out (by decide); intro e_; exact h_ (by rw [e_]; rfl)) _; (with_reducible repeat (first | refine blk_drewN ?_ _ | refine blk_drew ?_ | refine blk_alloc ?_ _)); exact BK528.out⟩, ⟨by (with_reducible repeat (first | refine blk_drewN ?_ _ | refine blk_drew ?_ | refine blk_alloc ?_ _)); refine blk_far ?_ (by have h_ := Kd.R_ne HO534.out BK543.out (by decide); intro e_; exact h_ (by rw [e_]; rfl)) _; (with_reducible repeat (first | refine blk_drewN ?_ _ | refine blk_drew ?_ | refine blk_alloc ?_ _)); exact BK543.out⟩, ⟨IsS106.q HI0⟩, ⟨by repeat (first | (with_reducible first | exact HK.out | apply KeepBut.set_ | apply keep_drewN | apply keep_drew | apply keep_alloc | refine keep_far ?_ GB28.out _ | refine keep_far ?_ GW528.out _ | refine keep_far ?_ GW543.out _) | exact HK.out)⟩, ⟨by repeat (first | (with_reducible first | exact HB.out | apply below_alloc | apply pw_below_drewN | apply below_drew1 | refine below_set ?_ (Nat.le_trans HL.out GB28.out) | refine below_set ?_ (IsS106.ge HI0.out) | refine below_set ?_ GE528.out | refine below_set ?_ GE543.out) | exact HB.out)⟩⟩
  rw [if_neg c23] at H
  have c23b0 : (t545 == 1) = false := beq_eq_false_iff_ne.mpr c23
  have c23b1 : (t545 != 1) = true := bne_iff_ne.mpr c23
  by_cases c37 : t545 = 2
  ·rw [if_pos c37] at H
   have c37b0 : (t545 == 2) = true := beq_iff_eq.mpr c37
   have c37b1 : (t545 != 2) = false := bne_eq_false_iff_eq.mpr c37
   clear c37
   replace H := Option.bind_eq_some_iff.mp H
   obtain ⟨⟨t563, t564, t565⟩, A380, H⟩ := H
   try dsimp only at H
   have A38 := Aside0.mk A380
   clear A380
   obtain ⟨y566, hy566⟩ : ∃ y_ : List Int, y_ = (([(-1), 1000, 1001] : List Int)) := ⟨_, rfl⟩
   (try with_reducible replace H := (Option.bind_some _ _).symm.trans H); (try dsimp only at H); (try rw [← hy566] at H)
   have Ny566 := Aside0.mk hy566
   clear hy566
   replace H := Option.bind_eq_some_iff.mp H
   obtain ⟨⟨t569, t570, t571⟩, A390, H⟩ := H
   try dsimp only at H
   have A39 := Aside0.mk A390
   clear A390
   by_cases c40 : 0 ≤ t563
   case neg => rw [if_neg c40] at H; exact absurd H (by simp)
   rw [if_pos c40] at H
   have c40b0 := decide_eq_true c40
   clear c40
   by_cases c41 : t563 < (t535.length : Int)
   case neg => rw [if_neg c41] at H; exact absurd H (by simp)
   rw [if_pos c41] at H
   have c41b0 := decide_eq_true c41
   clear c41
   obtain ⟨y572, hy572⟩ : ∃ y_ : List Int, y_ = (t535.set (t563 : Int).toNat t569) := ⟨_, rfl⟩
   (try with_reducible replace H := (Option.bind_some _ _).symm.trans H); (try dsimp only at H); (try rw [← hy572] at H)
   have Ny572 := Aside0.mk hy572
   clear hy572
   have H' := Aside0.mk H
   clear H
   try go_wp2
   replace HO534 := Aside0.mk (Kd.R_drew HO534.out)
   replace HO537 := Aside0.mk (Kd.R_drew HO537.out)
   replace HO540 := Aside0.mk (Kd.R_drew HO540.out)
   replace BK528 := Aside0.mk (blk_drew BK528.out)
   replace BK543 := Aside0.mk (blk_drew BK543.out)
   replace HI0 := Aside0.mk (IsS106.drew HI0.out)
   replace HK := Aside0.mk (keep_drew HK.out)
   replace HB := Aside0.mk (below_drew1 HB.out)
   refine start_ (n := 10) (S := fun w' => w'.cell? ⟨gb543, 0, none⟩ = some (.int .i64 t529) ∧ w'.cell? ⟨gb543, 1, none⟩ = some (.int .i64 t530) ∧ w'.cell? ⟨gb543, 2, none⟩ = some (.int .i64 t531) ∧ w'.cell? ⟨gb543, 3, none⟩ = some (.slice Ao12 t532.length co12) ∧ w'.cell? ⟨gb543, 4, none⟩ = some (.slice Ao13 t535.length co13) ∧ w'.cell? ⟨gb543, 5, none⟩ = some (.slice Ao14 t538.length co14)) (ds := [9]) (bb 10 0) (by kernel_rfl) rfl rfl ⟨(blk_cell BK543.out 0).trans rfl, (blk_cell BK543.out 1).trans rfl, (blk_cell BK543.out 2).trans rfl, (blk_cell BK543.out 3).trans rfl, (blk_cell BK543.out 4).trans rfl, (blk_cell BK543.out 5).trans rfl⟩ (fun hHeld => ?_); refine with_tabW spec_l1Cur_anyModel.tab9 spec_l1Cur_anyModel.bits9 (fun HT_ HW_ => ?_)
   generalize w16.drew = w43 at HO534 HO537 HO540 BK528 BK543 HI0 HK HB hHeld ⊢
   refine pl_ HT_ 0 (some 30) (bb 10 1) (h := ?_)
   refine pl_ HT_ 2 (some 32) (bb 10 5) (h := ?_)
   refine pl_ HT_ 3 (some 33) (bb 10 13) (h := ?_)
   refine pl_ HT_ 5 (some 35) (bb 10 45) (h := ?_)
   refine tk_ HT_ HW_ hHeld 1 (some 31) (bb 10 47) (h := ?_)
   refine join_ (σ := Value) 3 (bb 10 127) (fun s_ => [(34, .int .i64 t563), (36, s_)]) (fun s_ w' => (w'.cell? ⟨gb543, 0, none⟩ = some (.int .i64 t529) ∧ w'.cell? ⟨gb543, 1, none⟩ = some (.int .i64 t530) ∧ w'.cell? ⟨gb543, 2, none⟩ = some (.int .i64 t531) ∧ w'.cell? ⟨gb543, 3, none⟩ = some (.slice Ao12 t532.length co12) ∧ w'.cell? ⟨gb543, 4, none⟩ = some (.slice Ao13 t535.length co13) ∧ w'.cell? ⟨gb543, 5, none⟩ = some (.slice Ao14 t538.length co14)) ∧ (Kd.R (Kd.int .i64) 3 w' w.heap.size (fun k_ => some k_ ≠ (.slice Ao13 t535.length co13 : Value).ownBlock ∧ some k_ ≠ (.slice Ao14 t538.length co14 : Value).ownBlock ∧ some k_ ≠ (s_ : Value).ownBlock) (.slice Ao12 t532.length co12) t532) ∧ (Kd.R (Kd.int .i64) 3 w' w.heap.size (fun k_ => some k_ ≠ (.slice Ao12 t532.length co12 : Value).ownBlock ∧ some k_ ≠ (.slice Ao14 t538.length co14 : Value).ownBlock ∧ some k_ ≠ (s_ : Value).ownBlock) (.slice Ao13 t535.length co13) t535) ∧ (Kd.R (Kd.int .i64) 3 w' w.heap.size (fun k_ => some k_ ≠ (.slice Ao12 t532.length co12 : Value).ownBlock ∧ some k_ ≠ (.slice Ao13 t535.length co13 : Value).ownBlock ∧ some k_ ≠ (s_ : Value).ownBlock) (.slice Ao14 t538.length co14) t538) ∧ (Kd.R (Kd.int .i64) 3 w' w.heap.size (fun k_ => some k_ ≠ (.slice Ao12 t532.length co12 : Value).ownBlock ∧ some k_ ≠ (.slice Ao13 t535.length co13 : Value).ownBlock ∧ some k_ ≠ (.slice Ao14 t538.length co14 : Value).ownBlock) s_ y566) ∧ (w'.heap[gb528]? = some (.cells #[.int .i64 0, .int .i64 0, .int .i64 0, .slice none 0 0, .slice none 0 0, .slice none 0 0] 34 (0, 0))) ∧ (w'.heap[gb543]? = some (.cells #[.int .i64 t529, .int .i64 t530, .int .i64 t531, .slice Ao12 t532.length co12, .slice Ao13 t535.length co13, .slice Ao14 t538.length co14] 34 (0, 0))) ∧ (IsS106 w0 w' g s0_0 t564 t565) ∧ (KeepBut w w' g none) ∧ (Below w0.heap.size w0 w')) ?_ ?_
   rotate_left
   ·intro hCont
    refine two_ (i := 4) (j := 6) (Ni := some 34) (Nj := some 36) (bb 10 63) (bb 10 111) rfl rfl rfl rfl (two_of HT_.out (by kernel_rfl)) (by decide) (by decide) (fun K hK => ?_) (fun K hK => ?_)
    ·skip
     refine goes_ Try.func87 (by kernel_rfl) rfl #[.pointer (some ⟨g, 0, none⟩), .int .i64 t544] (by rfl) rfl rfl (by (try simp only [List.map_toArray, List.map_cons, List.map_nil]); first | done | rfl | (simp only [List.length_drop, List.length_take]; rfl)) ?_
     with_reducible refine (spec_l1Cur_pick.calls g s0_0 t546 t547 t544 t563 t564 t565 w0 _ ?side1 ?side2 A38.out).mono ?_
     (case side1 => exact IsS106.q HI0)
     (case side2 => exact hbI_ HB (IsS106.ge HI0.out))
     rintro e w44 ⟨rfl, hi, hb, hk⟩
     refine ⟨_, rfl, ?_⟩
     replace BK528 := Aside0.mk (KeepBut.blk hk (kp_ BK528) NB528_0.out (by simp))
     replace HO534 := IsS106.rk HI0 HO534 hk
     replace HO537 := IsS106.rk HI0 HO537 hk
     replace HO540 := IsS106.rk HI0 HO540 hk
     replace BK543 := Aside0.mk (KeepBut.blk hk (kp_ BK543) NB543_0.out (by simp))
     replace HK := Aside0.mk (KeepBut.trans (hk_ HK) hk (.inl rfl))
     replace HB := Aside0.mk (hb)
     replace HI0 := Aside0.mk (hi)
     refine hK.out _ _ ⟨(blk_cell BK543.out 0).trans rfl, (blk_cell BK543.out 1).trans rfl, (blk_cell BK543.out 2).trans rfl, (blk_cell BK543.out 3).trans rfl, (blk_cell BK543.out 4).trans rfl, (blk_cell BK543.out 5).trans rfl⟩ (fun hHeld => ?_)
     clear hK K
     refine nm_ (some 34) (h := ?_)
     refine one_ (i := 6) (N := some 36) (bb 10 127) rfl rfl (one_of HT_.out (by kernel_rfl)) (by decide) (fun K hK => ?_)
     refine Kd.R_lit_step (Kd.int .i64) _ 3 ?hg (N := 36) ?hd (xs := ([(-1), 1000, 1001] : List Int)) (inner := [.int .i64 (-1), .int .i64 1000, .int .i64 1001]) (ok := fun _ => True) (okp := fun _ => True) ?hr ?hp (fun _ hk => hk) trivial (Below.refl _ _) (Nat.le_refl _) (by simp) ?_; (case hd => rfl); (case hg => rfl); (case hr => first | (go_simp; done) | (go_simp; rfl)); (case hp => exact (Reps.one (show Kd.M (Kd.int .i64) _ _ _ (-1) [.int .i64 (-1)] from rfl) (Reps.one (show Kd.M (Kd.int .i64) _ _ _ 1000 [.int .i64 1000] from rfl) (Reps.one (show Kd.M (Kd.int .i64) _ _ _ 1001 [.int .i64 1001] from rfl) (Reps.none _ _)))))
     intro v567 w45 ho46 hb hg_ hnew_
     clear hg_ hnew_
     (first | rw [← Ny566.out] at ho46 | (simp only [Int.reduceToNat] at ho46; rw [← Ny566.out] at ho46))
     have n0_ := Aside0.mk (Kd.R_elder' (Kd.R_p HO534) (Kd.R_base ho46) hb)
     have n1_ := Aside0.mk (Kd.R_elder' (Kd.R_p HO537) (Kd.R_base ho46) hb)
     have n2_ := Aside0.mk (Kd.R_elder' (Kd.R_p HO540) (Kd.R_base ho46) hb)
     have n3_ := Aside0.mk (Kd.R_lower (Kd.R_nw (Kd.R_nw (Kd.R_nw ho46 HO534) HO537) HO540) (keep_size (hk_ HK)))
     have n4_ := Aside0.mk (IsS106.below (IsS106.q HI0) hb)
     have n5_ := Aside0.mk (blk_below (kp_ BK528) hb)
     have n6_ := Aside0.mk (blk_below (kp_ BK543) hb)
     have n7_ := Aside0.mk (KeepBut.trans (hk_ HK) (KeepBut.of_below hb g none) (.inl rfl))
     have n8_ := Aside0.mk (below_step (hbI_ HB (IsS106.ge HI0.out)) hb)
     clear HO534
     clear HO537
     clear HO540
     clear HI0
     clear BK528
     clear BK543
     clear HK
     clear HB
     have HO534 := n0_
     have HO537 := n1_
     have HO540 := n2_
     have HO568 := n3_
     have HI0 := n4_
     have BK528 := n5_
     have BK543 := n6_
     have HK := n7_
     have HB := n8_
     clear n0_ n1_ n2_ n3_ n4_ n5_ n6_ n7_ n8_
     clear hb ho46
     refine hK.out _ _ ⟨(blk_cell BK543.out 0).trans rfl, (blk_cell BK543.out 1).trans rfl, (blk_cell BK543.out 2).trans rfl, (blk_cell BK543.out 3).trans rfl, (blk_cell BK543.out 4).trans rfl, (blk_cell BK543.out 5).trans rfl⟩ (fun hHeld => ?_)
     clear hK K
     refine nm_ (some 36) (h := ?_)
     exact norm_ (by simp only [putAll, Act.put, List.setIfInBounds_toArray, List.set_cons_zero, List.set_cons_succ]) (hCont (v567) _ ⟨hHeld, (rm_ (h := HO534.out)), (rm_ (h := HO537.out)), (rm_ (h := HO540.out)), (rm_ (h := HO568.out)), (kp_ BK528), (kp_ BK543), (IsS106.q HI0), (hk_ HK), (hbI_ HB (IsS106.ge HI0.out))⟩)
    skip
    refine Kd.R_lit_step (Kd.int .i64) _ 3 ?hg (N := 36) ?hd (xs := ([(-1), 1000, 1001] : List Int)) (inner := [.int .i64 (-1), .int .i64 1000, .int .i64 1001]) (ok := fun _ => True) (okp := fun _ => True) ?hr ?hp (fun _ hk => hk) trivial (Below.refl _ _) (Nat.le_refl _) (by simp) ?_; (case hd => rfl); (case hg => rfl); (case hr => first | (go_simp; done) | (go_simp; rfl)); (case hp => exact (Reps.one (show Kd.M (Kd.int .i64) _ _ _ (-1) [.int .i64 (-1)] from rfl) (Reps.one (show Kd.M (Kd.int .i64) _ _ _ 1000 [.int .i64 1000] from rfl) (Reps.one (show Kd.M (Kd.int .i64) _ _ _ 1001 [.int .i64 1001] from rfl) (Reps.none _ _)))))
    intro v567 w44 ho45 hb hg_ hnew_
    clear hg_ hnew_
    (first | rw [← Ny566.out] at ho45 | (simp only [Int.reduceToNat] at ho45; rw [← Ny566.out] at ho45))
    have n0_ := Aside0.mk (Kd.R_elder' (Kd.R_p HO534) (Kd.R_base ho45) hb)
    have n1_ := Aside0.mk (Kd.R_elder' (Kd.R_p HO537) (Kd.R_base ho45) hb)
    have n2_ := Aside0.mk (Kd.R_elder' (Kd.R_p HO540) (Kd.R_base ho45) hb)
    have n3_ := Aside0.mk (Kd.R_lower (Kd.R_nw (Kd.R_nw (Kd.R_nw ho45 HO534) HO537) HO540) (keep_size (hk_ HK)))
    have n4_ := Aside0.mk (IsS106.below (IsS106.q HI0) hb)
    have n5_ := Aside0.mk (blk_below (kp_ BK528) hb)
    have n6_ := Aside0.mk (blk_below (kp_ BK543) hb)
    have n7_ := Aside0.mk (KeepBut.trans (hk_ HK) (KeepBut.of_below hb g none) (.inl rfl))
    have n8_ := Aside0.mk (below_step (hbI_ HB (IsS106.ge HI0.out)) hb)
    clear HO534
    clear HO537
    clear HO540
    clear HI0
    clear BK528
    clear BK543
    clear HK
    clear HB
    have HO534 := n0_
    have HO537 := n1_
    have HO540 := n2_
    have HO568 := n3_
    have HI0 := n4_
    have BK528 := n5_
    have BK543 := n6_
    have HK := n7_
    have HB := n8_
    clear n0_ n1_ n2_ n3_ n4_ n5_ n6_ n7_ n8_
    clear hb ho45
    refine hK.out _ _ ⟨(blk_cell BK543.out 0).trans rfl, (blk_cell BK543.out 1).trans rfl, (blk_cell BK543.out 2).trans rfl, (blk_cell BK543.out 3).trans rfl, (blk_cell BK543.out 4).trans rfl, (blk_cell BK543.out 5).trans rfl⟩ (fun hHeld => ?_)
    clear hK K
    refine nm_ (some 36) (h := ?_)
    refine one_ (i := 4) (N := some 34) (bb 10 127) rfl rfl (one_of HT_.out (by kernel_rfl)) (by decide) (fun K hK => ?_)
    refine goes_ Try.func87 (by kernel_rfl) rfl #[.pointer (some ⟨g, 0, none⟩), .int .i64 t544] (by rfl) rfl rfl (by (try simp only [List.map_toArray, List.map_cons, List.map_nil]); first | done | rfl | (simp only [List.length_drop, List.length_take]; rfl)) ?_
    with_reducible refine (spec_l1Cur_pick.calls g s0_0 t546 t547 t544 t563 t564 t565 w0 _ ?side1 ?side2 A38.out).mono ?_
    (case side1 => exact IsS106.q HI0)
    (case side2 => exact hbI_ HB (IsS106.ge HI0.out))
    rintro e w46 ⟨rfl, hi, hb, hk⟩
    refine ⟨_, rfl, ?_⟩
    replace BK528 := Aside0.mk (KeepBut.blk hk (kp_ BK528) NB528_0.out (by simp))
    replace HO534 := IsS106.rk HI0 HO534 hk
    replace HO537 := IsS106.rk HI0 HO537 hk
    replace HO540 := IsS106.rk HI0 HO540 hk
    replace BK543 := Aside0.mk (KeepBut.blk hk (kp_ BK543) NB543_0.out (by simp))
    replace HO568 := IsS106.rk HI0 HO568 hk
    replace HK := Aside0.mk (KeepBut.trans (hk_ HK) hk (.inl rfl))
    replace HB := Aside0.mk (hb)
    replace HI0 := Aside0.mk (hi)
    refine hK.out _ _ ⟨(blk_cell BK543.out 0).trans rfl, (blk_cell BK543.out 1).trans rfl, (blk_cell BK543.out 2).trans rfl, (blk_cell BK543.out 3).trans rfl, (blk_cell BK543.out 4).trans rfl, (blk_cell BK543.out 5).trans rfl⟩ (fun hHeld => ?_)
    clear hK K
    refine nm_ (some 34) (h := ?_)
    exact norm_ (by simp only [putAll, Act.put, List.setIfInBounds_toArray, List.set_cons_zero, List.set_cons_succ]) (hCont (v567) _ ⟨hHeld, (rm_ (h := HO534.out)), (rm_ (h := HO537.out)), (rm_ (h := HO540.out)), (rm_ (h := HO568.out)), (kp_ BK528), (kp_ BK543), (IsS106.q HI0), (hk_ HK), (hbI_ HB (IsS106.ge HI0.out))⟩)
   rintro v567 w47 ⟨hS_, h0_, h1_, h2_, h3_, h4_, h5_, h6_, h7_, h8_⟩
   have n0_ : Aside0 (Kd.R (Kd.int .i64) 3 w47 w.heap.size (fun k_ => some k_ ≠ (.slice Ao13 t535.length co13 : Value).ownBlock ∧ some k_ ≠ (.slice Ao14 t538.length co14 : Value).ownBlock ∧ some k_ ≠ (v567 : Value).ownBlock) (.slice Ao12 t532.length co12) t532) := ⟨h0_⟩
   have n1_ : Aside0 (Kd.R (Kd.int .i64) 3 w47 w.heap.size (fun k_ => some k_ ≠ (.slice Ao12 t532.length co12 : Value).ownBlock ∧ some k_ ≠ (.slice Ao14 t538.length co14 : Value).ownBlock ∧ some k_ ≠ (v567 : Value).ownBlock) (.slice Ao13 t535.length co13) t535) := ⟨h1_⟩
   have n2_ : Aside0 (Kd.R (Kd.int .i64) 3 w47 w.heap.size (fun k_ => some k_ ≠ (.slice Ao12 t532.length co12 : Value).ownBlock ∧ some k_ ≠ (.slice Ao13 t535.length co13 : Value).ownBlock ∧ some k_ ≠ (v567 : Value).ownBlock) (.slice Ao14 t538.length co14) t538) := ⟨h2_⟩
   have n3_ : Aside0 (Kd.R (Kd.int .i64) 3 w47 w.heap.size (fun k_ => some k_ ≠ (.slice Ao12 t532.length co12 : Value).ownBlock ∧ some k_ ≠ (.slice Ao13 t535.length co13 : Value).ownBlock ∧ some k_ ≠ (.slice Ao14 t538.length co14 : Value).ownBlock) v567 y566) := ⟨h3_⟩
   have n4_ : Aside0 (w47.heap[gb528]? = some (.cells #[.int .i64 0, .int .i64 0, .int .i64 0, .slice none 0 0, .slice none 0 0, .slice none 0 0] 34 (0, 0))) := ⟨h4_⟩
   have n5_ : Aside0 (w47.heap[gb543]? = some (.cells #[.int .i64 t529, .int .i64 t530, .int .i64 t531, .slice Ao12 t532.length co12, .slice Ao13 t535.length co13, .slice Ao14 t538.length co14] 34 (0, 0))) := ⟨h5_⟩
   have n6_ : Aside0 (IsS106 w0 w47 g s0_0 t564 t565) := ⟨h6_⟩
   have n7_ : Aside0 (KeepBut w w47 g none) := ⟨h7_⟩
   have n8_ : Aside0 (Below w0.heap.size w0 w47) := ⟨h8_⟩
   clear HO534
   clear HO537
   clear HO540
   clear BK528
   clear BK543
   clear HI0
   clear HK
   clear HB
   clear h0_ h1_ h2_ h3_ h4_ h5_ h6_ h7_ h8_
   have HO534 := n0_
   have HO537 := n1_
   have HO540 := n2_
   have HO568 := n3_
   have BK528 := n4_
   have BK543 := n5_
   have HI0 := n6_
   have HK := n7_
   have HB := n8_
   clear n0_ n1_ n2_ n3_ n4_ n5_ n6_ n7_ n8_
   have hHeld : w47.cell? ⟨gb543, 0, none⟩ = some (.int .i64 t529) ∧ w47.cell? ⟨gb543, 1, none⟩ = some (.int .i64 t530) ∧ w47.cell? ⟨gb543, 2, none⟩ = some (.int .i64 t531) ∧ w47.cell? ⟨gb543, 3, none⟩ = some (.slice Ao12 t532.length co12) ∧ w47.cell? ⟨gb543, 4, none⟩ = some (.slice Ao13 t535.length co13) ∧ w47.cell? ⟨gb543, 5, none⟩ = some (.slice Ao14 t538.length co14) := hS_
   obtain ⟨Ao48, co48, eo48⟩ := Kd.R_slice HO568.out
   (first | subst eo48 | (injection eo48 with f1_ f2_ f3_; have f4_ := f1_.symm; have f5_ := f3_.symm; clear f1_ f2_ f3_; subst f4_; subst f5_))
   refine norm_ (a' := ?_) ?_ ?_
   rotate_left
   ·simp only [putAll, Act.put, List.setIfInBounds_toArray, List.set_cons_zero, List.set_cons_succ]
    rfl
   refine one_ (i := 7) (N := some 37) (bb 10 255) rfl rfl (one_of HT_.out (by kernel_rfl)) (by decide) (fun K hK => ?_)
   refine goes_ Try.func89 (by kernel_rfl) rfl #[.pointer (some ⟨g, 0, none⟩), .slice Ao48 y566.length co48] (by rfl) rfl rfl (by (try simp only [List.map_toArray, List.map_cons, List.map_nil]); first | done | rfl | (simp only [List.length_drop, List.length_take]; rfl)) ?_
   with_reducible refine (spec_l1Cur_among.calls g s0_0 t564 t565 _ _ y566 t569 t570 t571 w0 _ ?side1 ?side2 ?side3 ?side4 ?side5 A39.out).mono ?_
   (case side1 => exact IsS106.q HI0)
   (case side2 => exact hbI_ HB (IsS106.ge HI0.out))
   (case side3 => exact Kd.C_o HO568)
   (case side4 => exact (Kd.R_reads' HO568.out).2.1)
   (case side5 => exact far_slice (IsS106.own_ne HI0.out HO568.out (by decide)))
   rintro e w49 ⟨rfl, hi, hb, hk⟩
   refine ⟨_, rfl, ?_⟩
   replace BK528 := Aside0.mk (KeepBut.blk hk (kp_ BK528) NB528_0.out (by simp))
   replace HO534 := IsS106.rk HI0 HO534 hk
   replace HO537 := IsS106.rk HI0 HO537 hk
   replace HO540 := IsS106.rk HI0 HO540 hk
   replace BK543 := Aside0.mk (KeepBut.blk hk (kp_ BK543) NB543_0.out (by simp))
   replace HO568 := IsS106.rk HI0 HO568 hk
   replace HK := Aside0.mk (KeepBut.trans (hk_ HK) hk (.inl rfl))
   replace HB := Aside0.mk (hb)
   replace HI0 := Aside0.mk (hi)
   have p42 : 0 ≤ (t563 : Int) := of_decide_eq_true (by first | (with_reducible assumption) | assumption)
   have q42 : (t563 : Int) < ((t535.length : Int) : Int) := of_decide_eq_true (by first | (with_reducible assumption) | assumption)
   obtain ⟨go42, co42, eo42, gb42, gl42, cl42, HG42⟩ := Kd.R_form HO537.out (by omega)
   (first | cases eo42 | (injection eo42 with ea_ en_ ec_; (first | subst ea_ | (injection ea_ with ea_; subst ea_)); subst ec_; clear en_))
   have GB42 := Aside0.mk gb42
   have GG42 := Aside0.mk HG42
   clear gb42 gl42 HG42
   obtain ⟨hx42_0, hf42_0⟩ := Kd.R_celln 0 HO537.out (t563 : Int) p42 q42
   replace p42 := eq_true p42
   replace q42 := eq_true q42
   have HN0_go42 := Aside0.mk (show g ≠ go42 from by have h_ := IsS106.own_ne HI0.out HO537.out (by decide); intro e_; exact h_ (by rw [e_]; rfl))
   have HP50 := Kd.R_putn HO537.out (t563 : Int) t569
   rw [← Ny572.out] at HP50
   have HQ50 := Aside0.mk HP50
   clear HP50
   refine hK.out _ _ ⟨(blk_cell BK543.out 0).trans rfl, (blk_cell BK543.out 1).trans rfl, (blk_cell BK543.out 2).trans rfl, (blk_cell BK543.out 3).trans rfl, (blk_cell BK543.out 4).trans rfl, (blk_cell BK543.out 5).trans rfl⟩ (fun hHeld => ?_)
   clear hK K
   refine nm_ (some 37) (h := ?_)
   refine pl_ HT_ 8 (some 38) (bb 10 511) (h := ?_)
   refine last_ (i := 9) (N := none) (bb 10 1023) rfl rfl (one_of HT_.out (by kernel_rfl)) (by decide) (fun K hK => ?_)
   refine skip_ (w1 := ?_) (by rfl) rfl ?_ ?_
   rotate_left
   ·go_simp
    rfl
   refine hK.out _ _ ?_
   clear hK K
   refine done_ (done_of HT_.out (by kernel_rfl)) ?_
   try go_wp2
   go_meet
   case rel => exact ⟨_, (t570), (t571), (t529), (t530), (t531), (t532), (y572), (t538), (.slice Ao12 t532.length co12), (.slice (some ⟨go42, 0, none⟩) t535.length co13), (.slice Ao14 t538.length co14), H', ⟨by first | omega | exact Nat.le_refl _⟩, ⟨Kd.R_pp (Kd.R_mono (Kd.R_far (p := ⟨go42, (t563 : Int).toNat, none⟩) (Kd.R_mono HO534.out (fun k_ hk => (⟨hk, fun e_ => hk.1 (by rw [e_]; rfl)⟩ : _ ∧ k_ ≠ go42))) (fun _ hk => hk.2) (.int .i64 t569)) (fun _ hk => ⟨hk.1.1, hk.1.2.1⟩))⟩, ⟨rm_ (h := HQ50.out)⟩, ⟨Kd.R_pp (Kd.R_mono (Kd.R_far (p := ⟨go42, (t563 : Int).toNat, none⟩) (Kd.R_mono HO540.out (fun k_ hk => (⟨hk, fun e_ => hk.2.1 (by rw [e_]; rfl)⟩ : _ ∧ k_ ≠ go42))) (fun _ hk => hk.2) (.int .i64 t569)) (fun _ hk => ⟨hk.1.1, hk.1.2.1⟩))⟩, ⟨by (with_reducible repeat (first | refine blk_drewN ?_ _ | refine blk_drew ?_ | refine blk_alloc ?_ _)); refine blk_far ?_ (by have h_ := Kd.R_ne HO537.out BK528.out (by decide); intro e_; exact h_ (by rw [e_]; rfl)) _; (with_reducible repeat (first | refine blk_drewN ?_ _ | refine blk_drew ?_ | refine blk_alloc ?_ _)); exact BK528.out⟩, ⟨by (with_reducible repeat (first | refine blk_drewN ?_ _ | refine blk_drew ?_ | refine blk_alloc ?_ _)); refine blk_far ?_ (by have h_ := Kd.R_ne HO537.out BK543.out (by decide); intro e_; exact h_ (by rw [e_]; rfl)) _; (with_reducible repeat (first | refine blk_drewN ?_ _ | refine blk_drew ?_ | refine blk_alloc ?_ _)); exact BK543.out⟩, ⟨IsS106.q HI0⟩, ⟨by repeat (first | (with_reducible first | exact HK.out | apply KeepBut.set_ | apply keep_drewN | apply keep_drew | apply keep_alloc | refine keep_far ?_ GB42.out _ | refine keep_far ?_ GW528.out _ | refine keep_far ?_ GW543.out _) | exact HK.out)⟩, ⟨by repeat (first | (with_reducible first | exact HB.out | apply below_alloc | apply pw_below_drewN | apply below_drew1 | refine below_set ?_ (Nat.le_trans HL.out GB42.out) | refine below_set ?_ (IsS106.ge HI0.out) | refine below_set ?_ GE528.out | refine below_set ?_ GE543.out) | exact HB.out)⟩⟩
  rw [if_neg c37] at H
  have c37b0 : (t545 == 2) = false := beq_eq_false_iff_ne.mpr c37
  have c37b1 : (t545 != 2) = true := bne_iff_ne.mpr c37
  by_cases c51 : t545 = 3
  ·rw [if_pos c51] at H
   have c51b0 : (t545 == 3) = true := beq_iff_eq.mpr c51
   have c51b1 : (t545 != 3) = false := bne_eq_false_iff_eq.mpr c51
   clear c51
   replace H := Option.bind_eq_some_iff.mp H
   obtain ⟨⟨t573, t574, t575⟩, A520, H⟩ := H
   try dsimp only at H
   have A52 := Aside0.mk A520
   clear A520
   obtain ⟨y576, hy576⟩ : ∃ y_ : List Int, y_ = (([(-1), 4, 5] : List Int)) := ⟨_, rfl⟩
   (try with_reducible replace H := (Option.bind_some _ _).symm.trans H); (try dsimp only at H); (try rw [← hy576] at H)
   have Ny576 := Aside0.mk hy576
   clear hy576
   replace H := Option.bind_eq_some_iff.mp H
   obtain ⟨⟨t579, t580, t581⟩, A530, H⟩ := H
   try dsimp only at H
   have A53 := Aside0.mk A530
   clear A530
   by_cases c54 : 0 ≤ t573
   case neg => rw [if_neg c54] at H; exact absurd H (by simp)
   rw [if_pos c54] at H
   have c54b0 := decide_eq_true c54
   clear c54
   by_cases c55 : t573 < (t538.length : Int)
   case neg => rw [if_neg c55] at H; exact absurd H (by simp)
   rw [if_pos c55] at H
   have c55b0 := decide_eq_true c55
   clear c55
   obtain ⟨y582, hy582⟩ : ∃ y_ : List Int, y_ = (t538.set (t573 : Int).toNat t579) := ⟨_, rfl⟩
   (try with_reducible replace H := (Option.bind_some _ _).symm.trans H); (try dsimp only at H); (try rw [← hy582] at H)
   have Ny582 := Aside0.mk hy582
   clear hy582
   have H' := Aside0.mk H
   clear H
   try go_wp2
   replace HO534 := Aside0.mk (Kd.R_drew HO534.out)
   replace HO537 := Aside0.mk (Kd.R_drew HO537.out)
   replace HO540 := Aside0.mk (Kd.R_drew HO540.out)
   replace BK528 := Aside0.mk (blk_drew BK528.out)
   replace BK543 := Aside0.mk (blk_drew BK543.out)
   replace HI0 := Aside0.mk (IsS106.drew HI0.out)
   replace HK := Aside0.mk (keep_drew HK.out)
   replace HB := Aside0.mk (below_drew1 HB.out)
   refine start_ (n := 10) (S := fun w' => w'.cell? ⟨gb543, 0, none⟩ = some (.int .i64 t529) ∧ w'.cell? ⟨gb543, 1, none⟩ = some (.int .i64 t530) ∧ w'.cell? ⟨gb543, 2, none⟩ = some (.int .i64 t531) ∧ w'.cell? ⟨gb543, 3, none⟩ = some (.slice Ao12 t532.length co12) ∧ w'.cell? ⟨gb543, 4, none⟩ = some (.slice Ao13 t535.length co13) ∧ w'.cell? ⟨gb543, 5, none⟩ = some (.slice Ao14 t538.length co14)) (ds := [9]) (bb 10 0) (by kernel_rfl) rfl rfl ⟨(blk_cell BK543.out 0).trans rfl, (blk_cell BK543.out 1).trans rfl, (blk_cell BK543.out 2).trans rfl, (blk_cell BK543.out 3).trans rfl, (blk_cell BK543.out 4).trans rfl, (blk_cell BK543.out 5).trans rfl⟩ (fun hHeld => ?_); refine with_tabW spec_l1Cur_anyModel.tab11 spec_l1Cur_anyModel.bits11 (fun HT_ HW_ => ?_)
   generalize w16.drew = w57 at HO534 HO537 HO540 BK528 BK543 HI0 HK HB hHeld ⊢
   refine pl_ HT_ 0 (some 41) (bb 10 1) (h := ?_)
   refine pl_ HT_ 2 (some 43) (bb 10 5) (h := ?_)
   refine pl_ HT_ 3 (some 44) (bb 10 13) (h := ?_)
   refine pl_ HT_ 5 (some 46) (bb 10 45) (h := ?_)
   refine tk_ HT_ HW_ hHeld 1 (some 42) (bb 10 47) (h := ?_)
   refine join_ (σ := Value) 3 (bb 10 127) (fun s_ => [(45, .int .i64 t573), (47, s_)]) (fun s_ w' => (w'.cell? ⟨gb543, 0, none⟩ = some (.int .i64 t529) ∧ w'.cell? ⟨gb543, 1, none⟩ = some (.int .i64 t530) ∧ w'.cell? ⟨gb543, 2, none⟩ = some (.int .i64 t531) ∧ w'.cell? ⟨gb543, 3, none⟩ = some (.slice Ao12 t532.length co12) ∧ w'.cell? ⟨gb543, 4, none⟩ = some (.slice Ao13 t535.length co13) ∧ w'.cell? ⟨gb543, 5, none⟩ = some (.slice Ao14 t538.length co14)) ∧ (Kd.R (Kd.int .i64) 3 w' w.heap.size (fun k_ => some k_ ≠ (.slice Ao13 t535.length co13 : Value).ownBlock ∧ some k_ ≠ (.slice Ao14 t538.length co14 : Value).ownBlock ∧ some k_ ≠ (s_ : Value).ownBlock) (.slice Ao12 t532.length co12) t532) ∧ (Kd.R (Kd.int .i64) 3 w' w.heap.size (fun k_ => some k_ ≠ (.slice Ao12 t532.length co12 : Value).ownBlock ∧ some k_ ≠ (.slice Ao14 t538.length co14 : Value).ownBlock ∧ some k_ ≠ (s_ : Value).ownBlock) (.slice Ao13 t535.length co13) t535) ∧ (Kd.R (Kd.int .i64) 3 w' w.heap.size (fun k_ => some k_ ≠ (.slice Ao12 t532.length co12 : Value).ownBlock ∧ some k_ ≠ (.slice Ao13 t535.length co13 : Value).ownBlock ∧ some k_ ≠ (s_ : Value).ownBlock) (.slice Ao14 t538.length co14) t538) ∧ (Kd.R (Kd.int .i64) 3 w' w.heap.size (fun k_ => some k_ ≠ (.slice Ao12 t532.length co12 : Value).ownBlock ∧ some k_ ≠ (.slice Ao13 t535.length co13 : Value).ownBlock ∧ some k_ ≠ (.slice Ao14 t538.length co14 : Value).ownBlock) s_ y576) ∧ (w'.heap[gb528]? = some (.cells #[.int .i64 0, .int .i64 0, .int .i64 0, .slice none 0 0, .slice none 0 0, .slice none 0 0] 34 (0, 0))) ∧ (w'.heap[gb543]? = some (.cells #[.int .i64 t529, .int .i64 t530, .int .i64 t531, .slice Ao12 t532.length co12, .slice Ao13 t535.length co13, .slice Ao14 t538.length co14] 34 (0, 0))) ∧ (IsS106 w0 w' g s0_0 t574 t575) ∧ (KeepBut w w' g none) ∧ (Below w0.heap.size w0 w')) ?_ ?_
   rotate_left
   ·intro hCont
    refine two_ (i := 4) (j := 6) (Ni := some 45) (Nj := some 47) (bb 10 63) (bb 10 111) rfl rfl rfl rfl (two_of HT_.out (by kernel_rfl)) (by decide) (by decide) (fun K hK => ?_) (fun K hK => ?_)
    ·skip
     refine goes_ Try.func87 (by kernel_rfl) rfl #[.pointer (some ⟨g, 0, none⟩), .int .i64 t544] (by rfl) rfl rfl (by (try simp only [List.map_toArray, List.map_cons, List.map_nil]); first | done | rfl | (simp only [List.length_drop, List.length_take]; rfl)) ?_
     with_reducible refine (spec_l1Cur_pick.calls g s0_0 t546 t547 t544 t573 t574 t575 w0 _ ?side1 ?side2 A52.out).mono ?_
     (case side1 => exact IsS106.q HI0)
     (case side2 => exact hbI_ HB (IsS106.ge HI0.out))
     rintro e w58 ⟨rfl, hi, hb, hk⟩
     refine ⟨_, rfl, ?_⟩
     replace BK528 := Aside0.mk (KeepBut.blk hk (kp_ BK528) NB528_0.out (by simp))
     replace HO534 := IsS106.rk HI0 HO534 hk
     replace HO537 := IsS106.rk HI0 HO537 hk
     replace HO540 := IsS106.rk HI0 HO540 hk
     replace BK543 := Aside0.mk (KeepBut.blk hk (kp_ BK543) NB543_0.out (by simp))
     replace HK := Aside0.mk (KeepBut.trans (hk_ HK) hk (.inl rfl))
     replace HB := Aside0.mk (hb)
     replace HI0 := Aside0.mk (hi)
     refine hK.out _ _ ⟨(blk_cell BK543.out 0).trans rfl, (blk_cell BK543.out 1).trans rfl, (blk_cell BK543.out 2).trans rfl, (blk_cell BK543.out 3).trans rfl, (blk_cell BK543.out 4).trans rfl, (blk_cell BK543.out 5).trans rfl⟩ (fun hHeld => ?_)
     clear hK K
     refine nm_ (some 45) (h := ?_)
     refine one_ (i := 6) (N := some 47) (bb 10 127) rfl rfl (one_of HT_.out (by kernel_rfl)) (by decide) (fun K hK => ?_)
     refine Kd.R_lit_step (Kd.int .i64) _ 3 ?hg (N := 47) ?hd (xs := ([(-1), 4, 5] : List Int)) (inner := [.int .i64 (-1), .int .i64 4, .int .i64 5]) (ok := fun _ => True) (okp := fun _ => True) ?hr ?hp (fun _ hk => hk) trivial (Below.refl _ _) (Nat.le_refl _) (by simp) ?_; (case hd => rfl); (case hg => rfl); (case hr => first | (go_simp; done) | (go_simp; rfl)); (case hp => exact (Reps.one (show Kd.M (Kd.int .i64) _ _ _ (-1) [.int .i64 (-1)] from rfl) (Reps.one (show Kd.M (Kd.int .i64) _ _ _ 4 [.int .i64 4] from rfl) (Reps.one (show Kd.M (Kd.int .i64) _ _ _ 5 [.int .i64 5] from rfl) (Reps.none _ _)))))
     intro v577 w59 ho60 hb hg_ hnew_
     clear hg_ hnew_
     (first | rw [← Ny576.out] at ho60 | (simp only [Int.reduceToNat] at ho60; rw [← Ny576.out] at ho60))
     have n0_ := Aside0.mk (Kd.R_elder' (Kd.R_p HO534) (Kd.R_base ho60) hb)
     have n1_ := Aside0.mk (Kd.R_elder' (Kd.R_p HO537) (Kd.R_base ho60) hb)
     have n2_ := Aside0.mk (Kd.R_elder' (Kd.R_p HO540) (Kd.R_base ho60) hb)
     have n3_ := Aside0.mk (Kd.R_lower (Kd.R_nw (Kd.R_nw (Kd.R_nw ho60 HO534) HO537) HO540) (keep_size (hk_ HK)))
     have n4_ := Aside0.mk (IsS106.below (IsS106.q HI0) hb)
     have n5_ := Aside0.mk (blk_below (kp_ BK528) hb)
     have n6_ := Aside0.mk (blk_below (kp_ BK543) hb)
     have n7_ := Aside0.mk (KeepBut.trans (hk_ HK) (KeepBut.of_below hb g none) (.inl rfl))
     have n8_ := Aside0.mk (below_step (hbI_ HB (IsS106.ge HI0.out)) hb)
     clear HO534
     clear HO537
     clear HO540
     clear HI0
     clear BK528
     clear BK543
     clear HK
     clear HB
     have HO534 := n0_
     have HO537 := n1_
     have HO540 := n2_
     have HO578 := n3_
     have HI0 := n4_
     have BK528 := n5_
     have BK543 := n6_
     have HK := n7_
     have HB := n8_
     clear n0_ n1_ n2_ n3_ n4_ n5_ n6_ n7_ n8_
     clear hb ho60
     refine hK.out _ _ ⟨(blk_cell BK543.out 0).trans rfl, (blk_cell BK543.out 1).trans rfl, (blk_cell BK543.out 2).trans rfl, (blk_cell BK543.out 3).trans rfl, (blk_cell BK543.out 4).trans rfl, (blk_cell BK543.out 5).trans rfl⟩ (fun hHeld => ?_)
     clear hK K
     refine nm_ (some 47) (h := ?_)
     exact norm_ (by simp only [putAll, Act.put, List.setIfInBounds_toArray, List.set_cons_zero, List.set_cons_succ]) (hCont (v577) _ ⟨hHeld, (rm_ (h := HO534.out)), (rm_ (h := HO537.out)), (rm_ (h := HO540.out)), (rm_ (h := HO578.out)), (kp_ BK528), (kp_ BK543), (IsS106.q HI0), (hk_ HK), (hbI_ HB (IsS106.ge HI0.out))⟩)
    skip
    refine Kd.R_lit_step (Kd.int .i64) _ 3 ?hg (N := 47) ?hd (xs := ([(-1), 4, 5] : List Int)) (inner := [.int .i64 (-1), .int .i64 4, .int .i64 5]) (ok := fun _ => True) (okp := fun _ => True) ?hr ?hp (fun _ hk => hk) trivial (Below.refl _ _) (Nat.le_refl _) (by simp) ?_; (case hd => rfl); (case hg => rfl); (case hr => first | (go_simp; done) | (go_simp; rfl)); (case hp => exact (Reps.one (show Kd.M (Kd.int .i64) _ _ _ (-1) [.int .i64 (-1)] from rfl) (Reps.one (show Kd.M (Kd.int .i64) _ _ _ 4 [.int .i64 4] from rfl) (Reps.one (show Kd.M (Kd.int .i64) _ _ _ 5 [.int .i64 5] from rfl) (Reps.none _ _)))))
    intro v577 w58 ho59 hb hg_ hnew_
    clear hg_ hnew_
    (first | rw [← Ny576.out] at ho59 | (simp only [Int.reduceToNat] at ho59; rw [← Ny576.out] at ho59))
    have n0_ := Aside0.mk (Kd.R_elder' (Kd.R_p HO534) (Kd.R_base ho59) hb)
    have n1_ := Aside0.mk (Kd.R_elder' (Kd.R_p HO537) (Kd.R_base ho59) hb)
    have n2_ := Aside0.mk (Kd.R_elder' (Kd.R_p HO540) (Kd.R_base ho59) hb)
    have n3_ := Aside0.mk (Kd.R_lower (Kd.R_nw (Kd.R_nw (Kd.R_nw ho59 HO534) HO537) HO540) (keep_size (hk_ HK)))
    have n4_ := Aside0.mk (IsS106.below (IsS106.q HI0) hb)
    have n5_ := Aside0.mk (blk_below (kp_ BK528) hb)
    have n6_ := Aside0.mk (blk_below (kp_ BK543) hb)
    have n7_ := Aside0.mk (KeepBut.trans (hk_ HK) (KeepBut.of_below hb g none) (.inl rfl))
    have n8_ := Aside0.mk (below_step (hbI_ HB (IsS106.ge HI0.out)) hb)
    clear HO534
    clear HO537
    clear HO540
    clear HI0
    clear BK528
    clear BK543
    clear HK
    clear HB
    have HO534 := n0_
    have HO537 := n1_
    have HO540 := n2_
    have HO578 := n3_
    have HI0 := n4_
    have BK528 := n5_
    have BK543 := n6_
    have HK := n7_
    have HB := n8_
    clear n0_ n1_ n2_ n3_ n4_ n5_ n6_ n7_ n8_
    clear hb ho59
    refine hK.out _ _ ⟨(blk_cell BK543.out 0).trans rfl, (blk_cell BK543.out 1).trans rfl, (blk_cell BK543.out 2).trans rfl, (blk_cell BK543.out 3).trans rfl, (blk_cell BK543.out 4).trans rfl, (blk_cell BK543.out 5).trans rfl⟩ (fun hHeld => ?_)
    clear hK K
    refine nm_ (some 47) (h := ?_)
    refine one_ (i := 4) (N := some 45) (bb 10 127) rfl rfl (one_of HT_.out (by kernel_rfl)) (by decide) (fun K hK => ?_)
    refine goes_ Try.func87 (by kernel_rfl) rfl #[.pointer (some ⟨g, 0, none⟩), .int .i64 t544] (by rfl) rfl rfl (by (try simp only [List.map_toArray, List.map_cons, List.map_nil]); first | done | rfl | (simp only [List.length_drop, List.length_take]; rfl)) ?_
    with_reducible refine (spec_l1Cur_pick.calls g s0_0 t546 t547 t544 t573 t574 t575 w0 _ ?side1 ?side2 A52.out).mono ?_
    (case side1 => exact IsS106.q HI0)
    (case side2 => exact hbI_ HB (IsS106.ge HI0.out))
    rintro e w60 ⟨rfl, hi, hb, hk⟩
    refine ⟨_, rfl, ?_⟩
    replace BK528 := Aside0.mk (KeepBut.blk hk (kp_ BK528) NB528_0.out (by simp))
    replace HO534 := IsS106.rk HI0 HO534 hk
    replace HO537 := IsS106.rk HI0 HO537 hk
    replace HO540 := IsS106.rk HI0 HO540 hk
    replace BK543 := Aside0.mk (KeepBut.blk hk (kp_ BK543) NB543_0.out (by simp))
    replace HO578 := IsS106.rk HI0 HO578 hk
    replace HK := Aside0.mk (KeepBut.trans (hk_ HK) hk (.inl rfl))
    replace HB := Aside0.mk (hb)
    replace HI0 := Aside0.mk (hi)
    refine hK.out _ _ ⟨(blk_cell BK543.out 0).trans rfl, (blk_cell BK543.out 1).trans rfl, (blk_cell BK543.out 2).trans rfl, (blk_cell BK543.out 3).trans rfl, (blk_cell BK543.out 4).trans rfl, (blk_cell BK543.out 5).trans rfl⟩ (fun hHeld => ?_)
    clear hK K
    refine nm_ (some 45) (h := ?_)
    exact norm_ (by simp only [putAll, Act.put, List.setIfInBounds_toArray, List.set_cons_zero, List.set_cons_succ]) (hCont (v577) _ ⟨hHeld, (rm_ (h := HO534.out)), (rm_ (h := HO537.out)), (rm_ (h := HO540.out)), (rm_ (h := HO578.out)), (kp_ BK528), (kp_ BK543), (IsS106.q HI0), (hk_ HK), (hbI_ HB (IsS106.ge HI0.out))⟩)
   rintro v577 w61 ⟨hS_, h0_, h1_, h2_, h3_, h4_, h5_, h6_, h7_, h8_⟩
   have n0_ : Aside0 (Kd.R (Kd.int .i64) 3 w61 w.heap.size (fun k_ => some k_ ≠ (.slice Ao13 t535.length co13 : Value).ownBlock ∧ some k_ ≠ (.slice Ao14 t538.length co14 : Value).ownBlock ∧ some k_ ≠ (v577 : Value).ownBlock) (.slice Ao12 t532.length co12) t532) := ⟨h0_⟩
   have n1_ : Aside0 (Kd.R (Kd.int .i64) 3 w61 w.heap.size (fun k_ => some k_ ≠ (.slice Ao12 t532.length co12 : Value).ownBlock ∧ some k_ ≠ (.slice Ao14 t538.length co14 : Value).ownBlock ∧ some k_ ≠ (v577 : Value).ownBlock) (.slice Ao13 t535.length co13) t535) := ⟨h1_⟩
   have n2_ : Aside0 (Kd.R (Kd.int .i64) 3 w61 w.heap.size (fun k_ => some k_ ≠ (.slice Ao12 t532.length co12 : Value).ownBlock ∧ some k_ ≠ (.slice Ao13 t535.length co13 : Value).ownBlock ∧ some k_ ≠ (v577 : Value).ownBlock) (.slice Ao14 t538.length co14) t538) := ⟨h2_⟩
   have n3_ : Aside0 (Kd.R (Kd.int .i64) 3 w61 w.heap.size (fun k_ => some k_ ≠ (.slice Ao12 t532.length co12 : Value).ownBlock ∧ some k_ ≠ (.slice Ao13 t535.length co13 : Value).ownBlock ∧ some k_ ≠ (.slice Ao14 t538.length co14 : Value).ownBlock) v577 y576) := ⟨h3_⟩
   have n4_ : Aside0 (w61.heap[gb528]? = some (.cells #[.int .i64 0, .int .i64 0, .int .i64 0, .slice none 0 0, .slice none 0 0, .slice none 0 0] 34 (0, 0))) := ⟨h4_⟩
   have n5_ : Aside0 (w61.heap[gb543]? = some (.cells #[.int .i64 t529, .int .i64 t530, .int .i64 t531, .slice Ao12 t532.length co12, .slice Ao13 t535.length co13, .slice Ao14 t538.length co14] 34 (0, 0))) := ⟨h5_⟩
   have n6_ : Aside0 (IsS106 w0 w61 g s0_0 t574 t575) := ⟨h6_⟩
   have n7_ : Aside0 (KeepBut w w61 g none) := ⟨h7_⟩
   have n8_ : Aside0 (Below w0.heap.size w0 w61) := ⟨h8_⟩
   clear HO534
   clear HO537
   clear HO540
   clear BK528
   clear BK543
   clear HI0
   clear HK
   clear HB
   clear h0_ h1_ h2_ h3_ h4_ h5_ h6_ h7_ h8_
   have HO534 := n0_
   have HO537 := n1_
   have HO540 := n2_
   have HO578 := n3_
   have BK528 := n4_
   have BK543 := n5_
   have HI0 := n6_
   have HK := n7_
   have HB := n8_
   clear n0_ n1_ n2_ n3_ n4_ n5_ n6_ n7_ n8_
   have hHeld : w61.cell? ⟨gb543, 0, none⟩ = some (.int .i64 t529) ∧ w61.cell? ⟨gb543, 1, none⟩ = some (.int .i64 t530) ∧ w61.cell? ⟨gb543, 2, none⟩ = some (.int .i64 t531) ∧ w61.cell? ⟨gb543, 3, none⟩ = some (.slice Ao12 t532.length co12) ∧ w61.cell? ⟨gb543, 4, none⟩ = some (.slice Ao13 t535.length co13) ∧ w61.cell? ⟨gb543, 5, none⟩ = some (.slice Ao14 t538.length co14) := hS_
   obtain ⟨Ao62, co62, eo62⟩ := Kd.R_slice HO578.out
   (first | subst eo62 | (injection eo62 with f1_ f2_ f3_; have f4_ := f1_.symm; have f5_ := f3_.symm; clear f1_ f2_ f3_; subst f4_; subst f5_))
   refine norm_ (a' := ?_) ?_ ?_
   rotate_left
   ·simp only [putAll, Act.put, List.setIfInBounds_toArray, List.set_cons_zero, List.set_cons_succ]
    rfl
   refine one_ (i := 7) (N := some 48) (bb 10 255) rfl rfl (one_of HT_.out (by kernel_rfl)) (by decide) (fun K hK => ?_)
   refine goes_ Try.func89 (by kernel_rfl) rfl #[.pointer (some ⟨g, 0, none⟩), .slice Ao62 y576.length co62] (by rfl) rfl rfl (by (try simp only [List.map_toArray, List.map_cons, List.map_nil]); first | done | rfl | (simp only [List.length_drop, List.length_take]; rfl)) ?_
   with_reducible refine (spec_l1Cur_among.calls g s0_0 t574 t575 _ _ y576 t579 t580 t581 w0 _ ?side1 ?side2 ?side3 ?side4 ?side5 A53.out).mono ?_
   (case side1 => exact IsS106.q HI0)
   (case side2 => exact hbI_ HB (IsS106.ge HI0.out))
   (case side3 => exact Kd.C_o HO578)
   (case side4 => exact (Kd.R_reads' HO578.out).2.1)
   (case side5 => exact far_slice (IsS106.own_ne HI0.out HO578.out (by decide)))
   rintro e w63 ⟨rfl, hi, hb, hk⟩
   refine ⟨_, rfl, ?_⟩
   replace BK528 := Aside0.mk (KeepBut.blk hk (kp_ BK528) NB528_0.out (by simp))
   replace HO534 := IsS106.rk HI0 HO534 hk
   replace HO537 := IsS106.rk HI0 HO537 hk
   replace HO540 := IsS106.rk HI0 HO540 hk
   replace BK543 := Aside0.mk (KeepBut.blk hk (kp_ BK543) NB543_0.out (by simp))
   replace HO578 := IsS106.rk HI0 HO578 hk
   replace HK := Aside0.mk (KeepBut.trans (hk_ HK) hk (.inl rfl))
   replace HB := Aside0.mk (hb)
   replace HI0 := Aside0.mk (hi)
   have p56 : 0 ≤ (t573 : Int) := of_decide_eq_true (by first | (with_reducible assumption) | assumption)
   have q56 : (t573 : Int) < ((t538.length : Int) : Int) := of_decide_eq_true (by first | (with_reducible assumption) | assumption)
   obtain ⟨go56, co56, eo56, gb56, gl56, cl56, HG56⟩ := Kd.R_form HO540.out (by omega)
   (first | cases eo56 | (injection eo56 with ea_ en_ ec_; (first | subst ea_ | (injection ea_ with ea_; subst ea_)); subst ec_; clear en_))
   have GB56 := Aside0.mk gb56
   have GG56 := Aside0.mk HG56
   clear gb56 gl56 HG56
   obtain ⟨hx56_0, hf56_0⟩ := Kd.R_celln 0 HO540.out (t573 : Int) p56 q56
   replace p56 := eq_true p56
   replace q56 := eq_true q56
   have HN0_go56 := Aside0.mk (show g ≠ go56 from by have h_ := IsS106.own_ne HI0.out HO540.out (by decide); intro e_; exact h_ (by rw [e_]; rfl))
   have HP64 := Kd.R_putn HO540.out (t573 : Int) t579
   rw [← Ny582.out] at HP64
   have HQ64 := Aside0.mk HP64
   clear HP64
   refine hK.out _ _ ⟨(blk_cell BK543.out 0).trans rfl, (blk_cell BK543.out 1).trans rfl, (blk_cell BK543.out 2).trans rfl, (blk_cell BK543.out 3).trans rfl, (blk_cell BK543.out 4).trans rfl, (blk_cell BK543.out 5).trans rfl⟩ (fun hHeld => ?_)
   clear hK K
   refine nm_ (some 48) (h := ?_)
   refine pl_ HT_ 8 (some 49) (bb 10 511) (h := ?_)
   refine last_ (i := 9) (N := none) (bb 10 1023) rfl rfl (one_of HT_.out (by kernel_rfl)) (by decide) (fun K hK => ?_)
   refine skip_ (w1 := ?_) (by rfl) rfl ?_ ?_
   rotate_left
   ·go_simp
    rfl
   refine hK.out _ _ ?_
   clear hK K
   refine done_ (done_of HT_.out (by kernel_rfl)) ?_
   try go_wp2
   go_meet
   case rel => exact ⟨_, (t580), (t581), (t529), (t530), (t531), (t532), (t535), (y582), (.slice Ao12 t532.length co12), (.slice Ao13 t535.length co13), (.slice (some ⟨go56, 0, none⟩) t538.length co14), H', ⟨by first | omega | exact Nat.le_refl _⟩, ⟨Kd.R_pp (Kd.R_mono (Kd.R_far (p := ⟨go56, (t573 : Int).toNat, none⟩) (Kd.R_mono HO534.out (fun k_ hk => (⟨hk, fun e_ => hk.2.1 (by rw [e_]; rfl)⟩ : _ ∧ k_ ≠ go56))) (fun _ hk => hk.2) (.int .i64 t579)) (fun _ hk => ⟨hk.1.1, hk.1.2.1⟩))⟩, ⟨Kd.R_pp (Kd.R_mono (Kd.R_far (p := ⟨go56, (t573 : Int).toNat, none⟩) (Kd.R_mono HO537.out (fun k_ hk => (⟨hk, fun e_ => hk.2.1 (by rw [e_]; rfl)⟩ : _ ∧ k_ ≠ go56))) (fun _ hk => hk.2) (.int .i64 t579)) (fun _ hk => ⟨hk.1.1, hk.1.2.1⟩))⟩, ⟨rm_ (h := HQ64.out)⟩, ⟨by (with_reducible repeat (first | refine blk_drewN ?_ _ | refine blk_drew ?_ | refine blk_alloc ?_ _)); refine blk_far ?_ (by have h_ := Kd.R_ne HO540.out BK528.out (by decide); intro e_; exact h_ (by rw [e_]; rfl)) _; (with_reducible repeat (first | refine blk_drewN ?_ _ | refine blk_drew ?_ | refine blk_alloc ?_ _)); exact BK528.out⟩, ⟨by (with_reducible repeat (first | refine blk_drewN ?_ _ | refine blk_drew ?_ | refine blk_alloc ?_ _)); refine blk_far ?_ (by have h_ := Kd.R_ne HO540.out BK543.out (by decide); intro e_; exact h_ (by rw [e_]; rfl)) _; (with_reducible repeat (first | refine blk_drewN ?_ _ | refine blk_drew ?_ | refine blk_alloc ?_ _)); exact BK543.out⟩, ⟨IsS106.q HI0⟩, ⟨by repeat (first | (with_reducible first | exact HK.out | apply KeepBut.set_ | apply keep_drewN | apply keep_drew | apply keep_alloc | refine keep_far ?_ GB56.out _ | refine keep_far ?_ GW528.out _ | refine keep_far ?_ GW543.out _) | exact HK.out)⟩, ⟨by repeat (first | (with_reducible first | exact HB.out | apply below_alloc | apply pw_below_drewN | apply below_drew1 | refine below_set ?_ (Nat.le_trans HL.out GB56.out) | refine below_set ?_ (IsS106.ge HI0.out) | refine below_set ?_ GE528.out | refine below_set ?_ GE543.out) | exact HB.out)⟩⟩
  rw [if_neg c51] at H
  have c51b0 : (t545 == 3) = false := beq_eq_false_iff_ne.mpr c51
  have c51b1 : (t545 != 3) = true := bne_iff_ne.mpr c51
  by_cases c65 : t545 = 4
  ·rw [if_pos c65] at H
   have c65b0 : (t545 == 4) = true := beq_iff_eq.mpr c65
   have c65b1 : (t545 != 4) = false := bne_eq_false_iff_eq.mpr c65
   clear c65
   by_cases c66 : t538.length < 17592186044416
   case neg => rw [if_neg c66] at H; exact absurd H (by simp)
   rw [if_pos c66] at H
   have LMc66 := Aside0.mk c66
   clear c66
   obtain ⟨y583, hy583⟩ : ∃ y_ : List Int, y_ = (t538 ++ [0]) := ⟨_, rfl⟩
   (try with_reducible replace H := (Option.bind_some _ _).symm.trans H); (try dsimp only at H); (try rw [← hy583] at H)
   have Ny583 := Aside0.mk hy583
   clear hy583
   have H' := Aside0.mk H
   clear H
   have := NB543_528.out
   have := NB528_543.out
   have := NB543_0.out
   have := NB0_543.out
   obtain ⟨hcz69_0, hcz69_1, hcz69_2, hcz69_3, hcz69_4, hcz69_5, hfz69_0, hfz69_1, hfz69_2, hfz69_3, hfz69_4, hfz69_5⟩ := bx6 BK543
   go_wp2_with (first | ((with_reducible refine gate_builtin (b := .append) (xs := #[.tmp 53, .tmp 54]) rfl ?_); at_builtin; refine Kd.R_append (Kd.int .i64) w.heap.size rfl (.tmp 53) (.tmp 54) 24 3 (.int .i64 0) 8 rfl Try.underlying24 info3 rfl (by decide) (by omega) (.slice Ao14 t538.length co14) t538 0 [.int .i64 0] (fun k_ => some k_ ≠ (.slice Ao12 t532.length co12 : Value).ownBlock ∧ some k_ ≠ (.slice Ao13 t535.length co13 : Value).ownBlock) (fun _ => False) rfl rfl ?aP (fun _ hk => hk.elim) ?aF ?aO (Below.refl _ _) ?aS ?aL ?_; (case aP => exact rfl); (case aF => exact (fun k_ hk => ⟨Kd.fresh' (Kd.R_lt (Kd.R_p HO534)) k_ hk, Kd.fresh' (Kd.R_lt (Kd.R_p HO537)) k_ hk⟩)); (case aO => exact (Kd.R_p HO540)); (case aS => exact (keep_size (hk_ HK))); (case aL => have := LMc66.out; omega); intro v584 w70 ho hb hg hat; rw [← Ny583.out] at ho; have HO585 := Aside0.mk (ho); replace BK528 := Aside0.mk (blk_grown (kp_ BK528) hg (Kd.R_ne HO540.out BK528.out (by decide))); replace HO534 := Aside0.mk (Kd.R_after (ok := (fun k_ => some k_ ≠ (.slice Ao13 t535.length co13 : Value).ownBlock)) (Kd.R_p HO534) hg hat); replace HO537 := Aside0.mk (Kd.R_after (ok := (fun k_ => some k_ ≠ (.slice Ao12 t532.length co12 : Value).ownBlock)) (Kd.R_p HO537) hg hat); replace BK543 := Aside0.mk (blk_grown (kp_ BK543) hg (Kd.R_ne HO540.out BK543.out (by decide))); replace HB := Aside0.mk (below_weaken (hbI_ HB (IsS106.ge HI0.out)) HL.out hb); replace HK := Aside0.mk (KeepBut.trans (hk_ HK) (KeepBut.of_grown hg g) (Kd.R_base2 HO540.out)); replace HI0 := Aside0.mk (IsS106.grown (IsS106.q HI0) hg (IsS106.own_ne HI0.out HO540.out (by decide))); clear HO540; clear ho hb hg hat; obtain ⟨Ao71, co71, eo71⟩ := Kd.R_slice HO585.out; subst eo71; obtain ⟨hcz72_0, hcz72_1, hcz72_2, hcz72_3, hcz72_4, hcz72_5, hfz72_0, hfz72_1, hfz72_2, hfz72_3, hfz72_4, hfz72_5⟩ := bx6 BK543))
   go_meet
   case rel => exact ⟨_, (t546), (t547), (t529), (t530), (t531), (t532), (t535), (y583), (.slice Ao12 t532.length co12), (.slice Ao13 t535.length co13), (.slice Ao71 y583.length co71), H', ⟨by first | omega | exact Nat.le_refl _⟩, ⟨Kd.R_mono (Kd.R_s HO534 BK543) (fun _ hk => ⟨hk.1, hk.2⟩)⟩, ⟨Kd.R_mono (Kd.R_s HO537 BK543) (fun _ hk => ⟨hk.1, hk.2⟩)⟩, ⟨Kd.R_mono (Kd.R_s HO585 BK543) (fun _ hk => ⟨hk.1, hk.2⟩)⟩, ⟨kf_ BK528 NB528_543⟩, ⟨kpq_ (kputs BK543 [(5, _)])⟩, ⟨IsS106.q HI0⟩, ⟨hk_ HK⟩, ⟨hbI_ HB (IsS106.ge HI0.out)⟩⟩
  rw [if_neg c65] at H
  have c65b0 : (t545 == 4) = false := beq_eq_false_iff_ne.mpr c65
  have c65b1 : (t545 != 4) = true := bne_iff_ne.mpr c65
  have H' := Aside0.mk H
  clear H
  go_wp2
  go_meet
  case rel => exact ⟨_, (t546), (t547), (t529), (t530), (t531), (t532), (t535), (t538), (.slice Ao12 t532.length co12), (.slice Ao13 t535.length co13), (.slice Ao14 t538.length co14), H', ⟨by first | omega | exact Nat.le_refl _⟩, ⟨Kd.R_p HO534⟩, ⟨Kd.R_p HO537⟩, ⟨Kd.R_p HO540⟩, ⟨kp_ BK528⟩, ⟨kp_ BK543⟩, ⟨IsS106.q HI0⟩, ⟨hk_ HK⟩, ⟨hbI_ HB (IsS106.ge HI0.out)⟩⟩
 clear HC5
 obtain ⟨kq, x1001_4, x1002_4, x544000_4, x544001_4, x544002_4, x544003_4, x544004_4, x544005_4, u544003, u544004, u544005, HA, HJ4, HO_544003, HO_544004, HO_544005, BK528, BK543, HI0, HK, HB⟩ := hcut
 cases kq with
 | zero => exact absurd HA.out (by simp [spec_l1Cur_anyModel.j0])
 | succ kj4 => ?_
 have H := HA.out
 clear HA
 simp only [spec_l1Cur_anyModel.j0] at H
 simp only [Option.some.injEq, Prod.mk.injEq] at H
 obtain ⟨rfl, rfl, rfl, rfl, rfl, rfl, rfl, rfl⟩ := H
 have := NB543_528.out
 have := NB528_543.out
 have := NB543_0.out
 have := NB0_543.out
 obtain ⟨hcz75_0, hcz75_1, hcz75_2, hcz75_3, hcz75_4, hcz75_5, hfz75_0, hfz75_1, hfz75_2, hfz75_3, hfz75_4, hfz75_5⟩ := bx6 BK543
 have := NB528_0.out
 have := NB0_528.out
 obtain ⟨hcz77_0, hcz77_1, hcz77_2, hcz77_3, hcz77_4, hcz77_5, hfz77_0, hfz77_1, hfz77_2, hfz77_3, hfz77_4, hfz77_5⟩ := bx6 BK528
 obtain ⟨Ao78, co78, eo78⟩ := Kd.R_slice HO_544003.out
 subst eo78
 obtain ⟨Ao79, co79, eo79⟩ := Kd.R_slice HO_544004.out
 subst eo79
 obtain ⟨Ao80, co80, eo80⟩ := Kd.R_slice HO_544005.out
 subst eo80
 go_wp2
 refine bodyPost_ret (results_cell_row rfl _ _ gb528 34 #[.int .i64 x544000_4, .int .i64 x544001_4, .int .i64 x544002_4, .slice Ao78 x544003_4.length co78, .slice Ao79 x544004_4.length co79, .slice Ao80 x544005_4.length co80] (0, 0) _ rfl (kpq_ (kputs BK528 [(0, _), (1, _), (2, _), (3, _), (4, _), (5, _)])) Try.underlying34 rfl (by kernel_rfl)) rfl ?_
 exact ⟨_, _, _, by first | rfl | (simp [errW_none, errW_some] <;> rfl) | (simp [*, errW_none, errW_some] <;> rfl), Kd.R_mono (Kd.R_s HO_544003 BK528) (fun _ hk => ⟨hk.1, hk.2⟩), Kd.R_mono (Kd.R_s HO_544004 BK528) (fun _ hk => ⟨hk.1, hk.2⟩), Kd.R_mono (Kd.R_s HO_544005 BK528) (fun _ hk => ⟨hk.1, hk.2⟩), IsS106.q HI0, hbI_ HB (IsS106.ge HI0.out), hk_ HK⟩

end Go.Proofs.Ytceajigggcihnaa.PFnCoarse
