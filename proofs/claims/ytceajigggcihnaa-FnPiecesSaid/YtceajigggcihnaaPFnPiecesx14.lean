-- Laid for this claim by wip/tools/print2.sh, a changed copy of the kit's print (wip/tools/patch_print.py): not by print.sh.
import Derived.Test.YtceajigggcihnaaPFnPiecesx0
import Derived.Test.YtceajigggcihnaaPFnPiecesx2
import Derived.Test.YtceajigggcihnaaPFnPiecesx10
import Derived.Test.YtceajigggcihnaaPFnPiecesx12
import Derived.Test.YtceajigggcihnaaPFnPiecesx13
import Derived.Test.YtceajigggcihnaaVFnPieces
namespace Go.Proofs.Ytceajigggcihnaa.PFnPieces
open Go.RowKit Go.Proofs.YtceajigggcihnaaW.PrintWords Go.Proofs.YtceajigggcihnaaW.PrintLast Go.Proofs.YtceajigggcihnaaW.PrintMore
attribute [local go_sem] max2_int min2_int max_two min_two max_three min_three max_four min_four   -- for this text's walks alone
set_option linter.unusedVariables false
set_option linter.unusedSimpArgs false

/-! ### spec_l1Cur_anyModel: function 94 -/
def spec_l1Cur_anyModel.j0 : Nat → List Int → Int → Int → Int → Int → Int → List Int → List Int → List Int → Option (Int × Int × Int × List Int × List Int × List Int × Int × Int)
 | 0, _, _, _, _, _, _, _, _, _ => none
 | k + 1, x1000, x1001, x1002, x479000, x479001, x479002, x479003, x479004, x479005 => some (x479000, x479001, x479002, x479003, x479004, x479005, x1001, x1002)
def spec_l1Cur_anyModel.f (k : Nat) (s0_0 : List Int) (s0_1 : Int) (s0_2 : Int) : Option (Int × Int × Int × List Int × List Int × List Int × Int × Int) := (spec_l1Cur_model.f k s0_0 s0_1 s0_2).bind fun bt464 => ((spec_grCount.f bt464.1 bt464.2.1 bt464.2.2.1).bind fun t479 => ((spec_l1Cur_pick.f s0_0 bt464.2.2.2.2.2.2.1 bt464.2.2.2.2.2.2.2 30).bind fun bt480 => (if bt480.1 = 0 then ((spec_l1Cur_anyGrid.f k s0_0 bt480.2.1 bt480.2.2).bind fun bt483 => (spec_l1Cur_anyModel.j0 k s0_0 bt483.2.2.2.1 bt483.2.2.2.2 bt483.1 bt483.2.1 bt483.2.2.1 bt464.2.2.2.1 bt464.2.2.2.2.1 bt464.2.2.2.2.2.1)) else (if bt480.1 = 1 then ((spec_l1Cur_pick.f s0_0 bt480.2.1 bt480.2.2 t479).bind fun bt488 => ((spec_l1Cur_among.f s0_0 bt488.2.1 bt488.2.2 (([(-1), 10000, 10001] : List Int))).bind fun bt494 => (if 0 ≤ bt488.1 then (if bt488.1 < (bt464.2.2.2.1.length : Int) then (spec_l1Cur_anyModel.j0 k s0_0 bt494.2.1 bt494.2.2 bt464.1 bt464.2.1 bt464.2.2.1 (bt464.2.2.2.1.set (bt488.1 : Int).toNat bt494.1) bt464.2.2.2.2.1 bt464.2.2.2.2.2.1) else (none)) else (none)))) else (if bt480.1 = 2 then ((spec_l1Cur_pick.f s0_0 bt480.2.1 bt480.2.2 t479).bind fun bt498 => ((spec_l1Cur_among.f s0_0 bt498.2.1 bt498.2.2 (([(-1), 1000, 1001] : List Int))).bind fun bt504 => (if 0 ≤ bt498.1 then (if bt498.1 < (bt464.2.2.2.2.1.length : Int) then (spec_l1Cur_anyModel.j0 k s0_0 bt504.2.1 bt504.2.2 bt464.1 bt464.2.1 bt464.2.2.1 bt464.2.2.2.1 (bt464.2.2.2.2.1.set (bt498.1 : Int).toNat bt504.1) bt464.2.2.2.2.2.1) else (none)) else (none)))) else (if bt480.1 = 3 then ((spec_l1Cur_pick.f s0_0 bt480.2.1 bt480.2.2 t479).bind fun bt508 => ((spec_l1Cur_among.f s0_0 bt508.2.1 bt508.2.2 (([(-1), 4, 5] : List Int))).bind fun bt514 => (if 0 ≤ bt508.1 then (if bt508.1 < (bt464.2.2.2.2.2.1.length : Int) then (spec_l1Cur_anyModel.j0 k s0_0 bt514.2.1 bt514.2.2 bt464.1 bt464.2.1 bt464.2.2.1 bt464.2.2.2.1 bt464.2.2.2.2.1 (bt464.2.2.2.2.2.1.set (bt508.1 : Int).toNat bt514.1)) else (none)) else (none)))) else (if bt480.1 = 4 then (if bt464.2.2.2.2.2.1.length < 17592186044416 then (spec_l1Cur_anyModel.j0 k s0_0 bt480.2.1 bt480.2.2 bt464.1 bt464.2.1 bt464.2.2.1 bt464.2.2.2.1 bt464.2.2.2.2.1 (bt464.2.2.2.2.2.1 ++ [0])) else (none)) else (spec_l1Cur_anyModel.j0 k s0_0 bt480.2.1 bt480.2.2 bt464.1 bt464.2.1 bt464.2.2.1 bt464.2.2.2.1 bt464.2.2.2.2.1 bt464.2.2.2.2.2.1))))))))
def spec_l1Cur_anyModel.T7 : Bool × List (List Nat × List Nat) := (true, [([], []), ([0], [0]), ([], []), ([], []), ([2, 3], [2, 3]), ([], []), ([], []), ([5, 6, 4], [5, 6]), ([1, 4, 0, 1, 2, 3, 4, 5, 6, 7], [1, 4]), ([8, 7, 7, 0, 1, 2, 3, 4, 5, 6, 7], [7, 8])])
def spec_l1Cur_anyModel.B7 : List Nat := [0, 1, 0, 0, 12, 0, 0, 124, 255, 511]
theorem spec_l1Cur_anyModel.tab7 : rtab .any (opsOf Try.f94 7) = spec_l1Cur_anyModel.T7 := by kernel_rfl
theorem spec_l1Cur_anyModel.bits7 : waitsOk spec_l1Cur_anyModel.T7.2 spec_l1Cur_anyModel.B7 = true := by kernel_rfl
def spec_l1Cur_anyModel.T9 : Bool × List (List Nat × List Nat) := (true, [([], []), ([0], [0]), ([], []), ([], []), ([2, 3], [2, 3]), ([], []), ([], []), ([5, 6, 4], [5, 6]), ([1, 4, 0, 1, 2, 3, 4, 5, 6, 7], [1, 4]), ([8, 7, 7, 0, 1, 2, 3, 4, 5, 6, 7], [7, 8])])
def spec_l1Cur_anyModel.B9 : List Nat := [0, 1, 0, 0, 12, 0, 0, 124, 255, 511]
theorem spec_l1Cur_anyModel.tab9 : rtab .any (opsOf Try.f94 9) = spec_l1Cur_anyModel.T9 := by kernel_rfl
theorem spec_l1Cur_anyModel.bits9 : waitsOk spec_l1Cur_anyModel.T9.2 spec_l1Cur_anyModel.B9 = true := by kernel_rfl
def spec_l1Cur_anyModel.T11 : Bool × List (List Nat × List Nat) := (true, [([], []), ([0], [0]), ([], []), ([], []), ([2, 3], [2, 3]), ([], []), ([], []), ([5, 6, 4], [5, 6]), ([1, 4, 0, 1, 2, 3, 4, 5, 6, 7], [1, 4]), ([8, 7, 7, 0, 1, 2, 3, 4, 5, 6, 7], [7, 8])])
def spec_l1Cur_anyModel.B11 : List Nat := [0, 1, 0, 0, 12, 0, 0, 124, 255, 511]
theorem spec_l1Cur_anyModel.tab11 : rtab .any (opsOf Try.f94 11) = spec_l1Cur_anyModel.T11 := by kernel_rfl
theorem spec_l1Cur_anyModel.bits11 : waitsOk spec_l1Cur_anyModel.T11.2 spec_l1Cur_anyModel.B11 = true := by kernel_rfl
set_option maxHeartbeats 8000000 in
set_option maxRecDepth 100000 in
theorem spec_l1Cur_anyModel.calls (k : Nat) (g : Nat) (s0_0 : List Int) (s0_1 : Int) (s0_2 : Int) (r1 : Int) (r2 : Int) (r3 : Int) (r4 : List Int) (r5 : List Int) (r6 : List Int) (r7 : Int) (r8 : Int) (w0 w : World) (hI : IsS106 w0 w g s0_0 s0_1 s0_2) (hB : Below w0.heap.size w0 w) (h : spec_l1Cur_anyModel.f k s0_0 s0_1 s0_2 = some (r1, r2, r3, r4, r5, r6, r7, r8)) :
  Calls Try.prog 94 #[.pointer (some ⟨g, 0, none⟩)] w fun e w' => ∃ v3_ v4_ v5_ : Value, e = .returned (.agg #[.int .i64 r1, .int .i64 r2, .int .i64 r3, v3_, v4_, v5_]) ∧ Kd.R (Kd.int .i64) 3 w' w.heap.size (fun k_ => some k_ ≠ (v4_ : Value).ownBlock ∧ some k_ ≠ (v5_ : Value).ownBlock) v3_ r4 ∧ Kd.R (Kd.int .i64) 3 w' w.heap.size (fun k_ => some k_ ≠ (v3_ : Value).ownBlock ∧ some k_ ≠ (v5_ : Value).ownBlock) v4_ r5 ∧ Kd.R (Kd.int .i64) 3 w' w.heap.size (fun k_ => some k_ ≠ (v3_ : Value).ownBlock ∧ some k_ ≠ (v4_ : Value).ownBlock) v5_ r6 ∧ IsS106 w0 w' g s0_0 r7 r8 ∧ Below w0.heap.size w0 w' ∧ KeepBut w w' g none := by
 have hu34 := Try.underlying34
 have hu32 := Try.underlying32
 have HI0 := Aside0.mk hI
 have HK := Aside0.mk (KeepBut.refl w g none)
 have HL := Aside0.mk hB.size
 clear hI
 have HW0 := Aside0.mk hB.size
 have HB := Aside0.mk hB
 clear hB
 have H : ((spec_l1Cur_model.f k s0_0 s0_1 s0_2).bind fun bt464 => ((spec_grCount.f bt464.1 bt464.2.1 bt464.2.2.1).bind fun t479 => ((spec_l1Cur_pick.f s0_0 bt464.2.2.2.2.2.2.1 bt464.2.2.2.2.2.2.2 30).bind fun bt480 => (if bt480.1 = 0 then ((spec_l1Cur_anyGrid.f k s0_0 bt480.2.1 bt480.2.2).bind fun bt483 => (spec_l1Cur_anyModel.j0 k s0_0 bt483.2.2.2.1 bt483.2.2.2.2 bt483.1 bt483.2.1 bt483.2.2.1 bt464.2.2.2.1 bt464.2.2.2.2.1 bt464.2.2.2.2.2.1)) else (if bt480.1 = 1 then ((spec_l1Cur_pick.f s0_0 bt480.2.1 bt480.2.2 t479).bind fun bt488 => ((spec_l1Cur_among.f s0_0 bt488.2.1 bt488.2.2 (([(-1), 10000, 10001] : List Int))).bind fun bt494 => (if 0 ≤ bt488.1 then (if bt488.1 < (bt464.2.2.2.1.length : Int) then (spec_l1Cur_anyModel.j0 k s0_0 bt494.2.1 bt494.2.2 bt464.1 bt464.2.1 bt464.2.2.1 (bt464.2.2.2.1.set (bt488.1 : Int).toNat bt494.1) bt464.2.2.2.2.1 bt464.2.2.2.2.2.1) else (none)) else (none)))) else (if bt480.1 = 2 then ((spec_l1Cur_pick.f s0_0 bt480.2.1 bt480.2.2 t479).bind fun bt498 => ((spec_l1Cur_among.f s0_0 bt498.2.1 bt498.2.2 (([(-1), 1000, 1001] : List Int))).bind fun bt504 => (if 0 ≤ bt498.1 then (if bt498.1 < (bt464.2.2.2.2.1.length : Int) then (spec_l1Cur_anyModel.j0 k s0_0 bt504.2.1 bt504.2.2 bt464.1 bt464.2.1 bt464.2.2.1 bt464.2.2.2.1 (bt464.2.2.2.2.1.set (bt498.1 : Int).toNat bt504.1) bt464.2.2.2.2.2.1) else (none)) else (none)))) else (if bt480.1 = 3 then ((spec_l1Cur_pick.f s0_0 bt480.2.1 bt480.2.2 t479).bind fun bt508 => ((spec_l1Cur_among.f s0_0 bt508.2.1 bt508.2.2 (([(-1), 4, 5] : List Int))).bind fun bt514 => (if 0 ≤ bt508.1 then (if bt508.1 < (bt464.2.2.2.2.2.1.length : Int) then (spec_l1Cur_anyModel.j0 k s0_0 bt514.2.1 bt514.2.2 bt464.1 bt464.2.1 bt464.2.2.1 bt464.2.2.2.1 bt464.2.2.2.2.1 (bt464.2.2.2.2.2.1.set (bt508.1 : Int).toNat bt514.1)) else (none)) else (none)))) else (if bt480.1 = 4 then (if bt464.2.2.2.2.2.1.length < 17592186044416 then (spec_l1Cur_anyModel.j0 k s0_0 bt480.2.1 bt480.2.2 bt464.1 bt464.2.1 bt464.2.2.1 bt464.2.2.2.1 bt464.2.2.2.2.1 (bt464.2.2.2.2.2.1 ++ [0])) else (none)) else (spec_l1Cur_anyModel.j0 k s0_0 bt480.2.1 bt480.2.2 bt464.1 bt464.2.1 bt464.2.2.1 bt464.2.2.2.1 bt464.2.2.2.2.1 bt464.2.2.2.2.2.1))))))))) = some (r1, r2, r3, r4, r5, r6, r7, r8) := h
 clear h
 replace H := Option.bind_eq_some_iff.mp H
 obtain ⟨⟨t464, t465, t466, t467, t470, t473, t476, t477⟩, A20, H⟩ := H
 try dsimp only at H
 have A2 := Aside0.mk A20
 clear A20
 replace H := Option.bind_eq_some_iff.mp H
 obtain ⟨t479, A30, H⟩ := H
 try dsimp only at H
 have A3 := Aside0.mk A30
 clear A30
 replace H := Option.bind_eq_some_iff.mp H
 obtain ⟨⟨t480, t481, t482⟩, A40, H⟩ := H
 try dsimp only at H
 have A4 := Aside0.mk A40
 clear A40
 have HC5 := Aside0.mk H
 clear H
 go_enter Try.func94, Try.ntmps94
 go_upto_block 0 with (first | ((with_reducible refine gate_dst (N := 2) rfl ?_); refine box_event ?hg (N := 2) ?hd (cs := #[.int .i64 0, .int .i64 0, .int .i64 0, .slice none 0 0, .slice none 0 0, .slice none 0 0]) (t := 34) ?hr ?_; (case hd => rfl); (case hg => rfl); (case hr => first | (go_simp; done) | (go_simp; rfl)); intro gb463 hg w6 hbox hb; have BK463 := Aside0.mk (hbox); have GW463 := Aside0.mk ((by rw [hg]; exact (keep_size (hk_ HK)) : w.heap.size ≤ gb463)); have GE463 := Aside0.mk ((Nat.le_trans HW0.out (by rw [hg]; exact (keep_size (hk_ HK)) : w.heap.size ≤ gb463) : w0.heap.size ≤ gb463)); have NB0_463 := Aside0.mk ((by rw [hg]; exact Nat.ne_of_lt (IsS106.lt (show IsS106 w0 _ g s0_0 s0_1 s0_2 from IsS106.q HI0)) : g ≠ gb463)); have NB463_0 := Aside0.mk ((by rw [hg]; exact Nat.ne_of_gt (IsS106.lt (show IsS106 w0 _ g s0_0 s0_1 s0_2 from IsS106.q HI0)) : gb463 ≠ g)); replace HK := hkb_ HK hb; replace HB := Aside0.mk (below_step (hbI_ HB (IsS106.ge HI0.out)) hb); replace HI0 := IsS106.b HI0 hb; clear hb hbox hg) | ((with_reducible refine gate_callee (f := 120) rfl ?_); refine gl_ (some 6) Try.func120 #[.pointer (some ⟨g, 0, none⟩)] rfl rfl rfl ?_; (with_reducible refine (spec_l1Cur_model.calls k g s0_0 s0_1 s0_2 t464 t465 t466 t467 t470 t473 t476 t477 w0 _ ?side1 ?side2 A2.out).mono ?_); (case side1 => exact IsS106.q HI0); (case side2 => exact hbI_ HB (IsS106.ge HI0.out)); rintro e w7 ⟨v468, v471, v474, rfl, ho0, ho1, ho2, hi, hb, hk⟩; refine ⟨_, rfl, ?_⟩; have HO469 := Aside0.mk (Kd.R_lower ho0 (keep_size (hk_ HK))); have HO472 := Aside0.mk (Kd.R_lower ho1 (keep_size (hk_ HK))); have HO475 := Aside0.mk (Kd.R_lower ho2 (keep_size (hk_ HK))); replace BK463 := kk_ BK463 hk NB463_0; replace HK := Aside0.mk (KeepBut.trans (hk_ HK) hk (.inl rfl)); replace HB := Aside0.mk (hb); replace HI0 := Aside0.mk (hi); (try clear hb); (try clear hb2); (try clear hk); (try clear hi); (try clear ho0); (try clear ho1); (try clear ho2)) | ((with_reducible refine gate_dst (N := 3) rfl ?_); refine box_event ?hg (N := 3) ?hd (cs := #[.int .i64 0, .int .i64 0, .int .i64 0, .slice none 0 0, .slice none 0 0, .slice none 0 0]) (t := 34) ?hr ?_; (case hd => rfl); (case hg => rfl); (case hr => first | (go_simp; done) | (go_simp; rfl)); intro gb478 hg w8 hbox hb; have BK478 := Aside0.mk (hbox); have GW478 := Aside0.mk ((by rw [hg]; exact (keep_size (hk_ HK)) : w.heap.size ≤ gb478)); have GE478 := Aside0.mk ((Nat.le_trans HW0.out (by rw [hg]; exact (keep_size (hk_ HK)) : w.heap.size ≤ gb478) : w0.heap.size ≤ gb478)); have NB463_478 := nl_ hg BK463; have NB478_463 := ng_ hg BK463; have NB0_478 := Aside0.mk ((by rw [hg]; exact Nat.ne_of_lt (IsS106.lt (show IsS106 w0 _ g s0_0 t476 t477 from IsS106.q HI0)) : g ≠ gb478)); have NB478_0 := Aside0.mk ((by rw [hg]; exact Nat.ne_of_gt (IsS106.lt (show IsS106 w0 _ g s0_0 t476 t477 from IsS106.q HI0)) : gb478 ≠ g)); replace HO469 := Kd.R_b HO469 hb; replace HO472 := Kd.R_b HO472 hb; replace HO475 := Kd.R_b HO475 hb; replace BK463 := kb_ BK463 hb; replace HK := hkb_ HK hb; replace HB := Aside0.mk (below_step (hbI_ HB (IsS106.ge HI0.out)) hb); replace HI0 := IsS106.b HI0 hb; clear hb hbox hg; have hnb9 := NB478_463.out; have hnc9 := NB463_478.out; have hnb10 := NB478_0.out; have hnc10 := NB0_478.out; obtain ⟨hcz11_0, hcz11_1, hcz11_2, hcz11_3, hcz11_4, hcz11_5, hfz11_0, hfz11_1, hfz11_2, hfz11_3, hfz11_4, hfz11_5⟩ := bx6 BK478; obtain ⟨Ao12, co12, eo12⟩ := Kd.R_slice HO469.out; subst eo12; obtain ⟨Ao13, co13, eo13⟩ := Kd.R_slice HO472.out; subst eo13; obtain ⟨Ao14, co14, eo14⟩ := Kd.R_slice HO475.out; subst eo14) | ((with_reducible refine gate_callee (f := 79) rfl ?_); refine gl_ (some 9) Try.func79 #[.agg #[.int .i64 t464, .int .i64 t465, .int .i64 t466]] rfl rfl rfl ?_; (with_reducible refine (spec_grCount.calls t464 t465 t466 t479 _ A3.out).mono ?_); rintro e w15 ⟨rfl, hb⟩; refine ⟨_, rfl, ?_⟩; replace HO469 := Kd.R_sb HO469 BK478 hb; replace HO472 := Kd.R_sb HO472 BK478 hb; replace HO475 := Kd.R_sb HO475 BK478 hb; replace BK463 := kfb_ BK463 NB463_478 hb; replace HK := hkb_ HK hb; replace HB := Aside0.mk (below_step (hbI_ HB (IsS106.ge HI0.out)) hb); replace HI0 := Aside0.mk (IsS106.below (show IsS106 w0 ((((((w8.setCell ⟨gb478, 0, none⟩ (.int .i64 t464)).setCell ⟨gb478, 1, none⟩ (.int .i64 t465)).setCell ⟨gb478, 2, none⟩ (.int .i64 t466)).setCell ⟨gb478, 3, none⟩ (.slice Ao12 t467.length co12)).setCell ⟨gb478, 4, none⟩ (.slice Ao13 t470.length co13)).setCell ⟨gb478, 5, none⟩ (.slice Ao14 t473.length co14)) g s0_0 t476 t477 from IsS106.q HI0) hb); replace BK478 := Aside0.mk (blk_below (g := gb478) (o := .cells #[.int .i64 t464, .int .i64 t465, .int .i64 t466, .slice Ao12 t467.length co12, .slice Ao13 t470.length co13, .slice Ao14 t473.length co14] 34 (0, 0)) (kpq_ (kputs BK478 [(0, _), (1, _), (2, _), (3, _), (4, _), (5, _)])) hb); (try clear hb); (try clear hb2); (try clear hk); (try clear hi)) | ((with_reducible refine gate_callee (f := 87) rfl ?_); refine gl_ (some 11) Try.func87 #[.pointer (some ⟨g, 0, none⟩), .int .i64 30] rfl rfl rfl ?_; (with_reducible refine (spec_l1Cur_pick.calls g s0_0 t476 t477 30 t480 t481 t482 w0 _ ?side1 ?side2 A4.out).mono ?_); (case side1 => exact IsS106.q HI0); (case side2 => exact hbI_ HB (IsS106.ge HI0.out)); rintro e w16 ⟨rfl, hi, hb, hk⟩; refine ⟨_, rfl, ?_⟩; have n0_ := Aside0.mk (KeepBut.blk hk (kp_ BK463) NB463_0.out (by simp)); have n1_ := IsS106.rk HI0 HO469 hk; have n2_ := IsS106.rk HI0 HO472 hk; have n3_ := IsS106.rk HI0 HO475 hk; have n4_ := Aside0.mk (KeepBut.blk hk (kp_ BK478) NB478_0.out (by simp)); have n5_ := Aside0.mk (KeepBut.trans (hk_ HK) hk (.inl rfl)); have n6_ := Aside0.mk (hb); have n7_ := Aside0.mk (hi); clear BK463 HO469 HO472 HO475 BK478 HK HB HI0; have BK463 := n0_; have HO469 := n1_; have HO472 := n2_; have HO475 := n3_; have BK478 := n4_; have HK := n5_; have HB := n6_; have HI0 := n7_; clear n0_ n1_ n2_ n3_ n4_ n5_ n6_ n7_; (try clear hb); (try clear hb2); (try clear hk); (try clear hi)))
 (try simp only [Act.put, List.setIfInBounds_toArray, List.set_cons_zero, List.set_cons_succ])
 go_cut [] (fun wc => ∃ (kq : Nat) (x1001_4 : Int) (x1002_4 : Int) (x479000_4 : Int) (x479001_4 : Int) (x479002_4 : Int) (x479003_4 : List Int) (x479004_4 : List Int) (x479005_4 : List Int) (u479003 : Value) (u479004 : Value) (u479005 : Value), Aside0 (spec_l1Cur_anyModel.j0 kq s0_0 x1001_4 x1002_4 x479000_4 x479001_4 x479002_4 x479003_4 x479004_4 x479005_4 = some (r1, r2, r3, r4, r5, r6, r7, r8)) ∧ Aside0 (kq ≤ k) ∧ Aside0 (Kd.R (Kd.int .i64) 3 wc w.heap.size (fun k_ => some k_ ≠ (u479004 : Value).ownBlock ∧ some k_ ≠ (u479005 : Value).ownBlock) u479003 x479003_4) ∧ Aside0 (Kd.R (Kd.int .i64) 3 wc w.heap.size (fun k_ => some k_ ≠ (u479003 : Value).ownBlock ∧ some k_ ≠ (u479005 : Value).ownBlock) u479004 x479004_4) ∧ Aside0 (Kd.R (Kd.int .i64) 3 wc w.heap.size (fun k_ => some k_ ≠ (u479003 : Value).ownBlock ∧ some k_ ≠ (u479004 : Value).ownBlock) u479005 x479005_4) ∧ Aside0 (wc.heap[gb463]? = some (.cells #[.int .i64 0, .int .i64 0, .int .i64 0, (.slice none 0 0), (.slice none 0 0), (.slice none 0 0)] 34 (0, 0))) ∧ Aside0 (wc.heap[gb478]? = some (.cells #[.int .i64 x479000_4, .int .i64 x479001_4, .int .i64 x479002_4, u479003, u479004, u479005] 34 (0, 0))) ∧ Aside0 (IsS106 w0 wc g s0_0 x1001_4 x1002_4) ∧ Aside0 (KeepBut w wc g none) ∧ Aside0 (Below w0.heap.size w0 wc))
 case first =>
  have H := HC5.out
  clear HC5
  by_cases c17 : t480 = 0
  ·rw [if_pos c17] at H
   have c17b0 : (t480 == 0) = true := beq_iff_eq.mpr c17
   have c17b1 : (t480 != 0) = false := bne_eq_false_iff_eq.mpr c17
   clear c17
   (first | rw [c17b0] | (simp only [i64_w, i32_w]; rw [c17b0]) | skip)
   replace H := Option.bind_eq_some_iff.mp H
   obtain ⟨⟨t483, t484, t485, t486, t487⟩, A180, H⟩ := H
   try dsimp only at H
   have A18 := Aside0.mk A180
   clear A180
   have H' := Aside0.mk H
   clear H
   go_wp2_with (first | ((with_reducible refine gate_callee (f := 97) rfl ?_); refine gl_ (some 15) Try.func97 #[.pointer (some ⟨g, 0, none⟩)] rfl rfl rfl ?_; (with_reducible refine (spec_l1Cur_anyGrid.calls k g s0_0 t481 t482 t483 t484 t485 t486 t487 w0 _ ?side1 ?side2 A18.out).mono ?_); (case side1 => exact IsS106.q HI0); (case side2 => exact hbI_ HB (IsS106.ge HI0.out)); rintro e w19 ⟨rfl, hi, hb, hk⟩; refine ⟨_, rfl, ?_⟩; have n0_ := Aside0.mk (KeepBut.blk hk (kp_ BK463) NB463_0.out (by simp)); have n1_ := IsS106.rk HI0 HO469 hk; have n2_ := IsS106.rk HI0 HO472 hk; have n3_ := IsS106.rk HI0 HO475 hk; have n4_ := Aside0.mk (KeepBut.blk hk (kp_ BK478) NB478_0.out (by simp)); have n5_ := Aside0.mk (KeepBut.trans (hk_ HK) hk (.inl rfl)); have n6_ := Aside0.mk (hb); have n7_ := Aside0.mk (hi); clear BK463 HO469 HO472 HO475 BK478 HK HB HI0; have BK463 := n0_; have HO469 := n1_; have HO472 := n2_; have HO475 := n3_; have BK478 := n4_; have HK := n5_; have HB := n6_; have HI0 := n7_; clear n0_ n1_ n2_ n3_ n4_ n5_ n6_ n7_; (try clear hb); (try clear hb2); (try clear hk); (try clear hi); have hnb20 := NB478_463.out; have hnc20 := NB463_478.out; have hnb21 := NB478_0.out; have hnc21 := NB0_478.out; obtain ⟨hcz22_0, hcz22_1, hcz22_2, hcz22_3, hcz22_4, hcz22_5, hfz22_0, hfz22_1, hfz22_2, hfz22_3, hfz22_4, hfz22_5⟩ := bx6 BK478))
   go_meet
   case rel => exact ⟨_, (t486), (t487), (t483), (t484), (t485), (t467), (t470), (t473), (.slice Ao12 t467.length co12), (.slice Ao13 t470.length co13), (.slice Ao14 t473.length co14), H', ⟨by first | omega | exact Nat.le_refl _⟩, ⟨Kd.R_mono (Kd.R_s HO469 BK478) (fun _ hk => ⟨hk.1, hk.2⟩)⟩, ⟨Kd.R_mono (Kd.R_s HO472 BK478) (fun _ hk => ⟨hk.1, hk.2⟩)⟩, ⟨Kd.R_mono (Kd.R_s HO475 BK478) (fun _ hk => ⟨hk.1, hk.2⟩)⟩, ⟨kf_ BK463 NB463_478⟩, ⟨kpq_ (kputs BK478 [(0, _), (1, _), (2, _)])⟩, ⟨IsS106.q HI0⟩, ⟨hk_ HK⟩, ⟨hbI_ HB (IsS106.ge HI0.out)⟩⟩
  ·rw [if_neg c17] at H
   have c17b0 : (t480 == 0) = false := beq_eq_false_iff_ne.mpr c17
   have c17b1 : (t480 != 0) = true := bne_iff_ne.mpr c17
   (first | rw [c17b0] | (simp only [i64_w, i32_w]; rw [c17b0]) | skip)
   by_cases c23 : t480 = 1
   ·rw [if_pos c23] at H
    have c23b0 : (t480 == 1) = true := beq_iff_eq.mpr c23
    have c23b1 : (t480 != 1) = false := bne_eq_false_iff_eq.mpr c23
    clear c23
    replace H := Option.bind_eq_some_iff.mp H
    obtain ⟨⟨t488, t489, t490⟩, A240, H⟩ := H
    try dsimp only at H
    have A24 := Aside0.mk A240
    clear A240
    obtain ⟨y491, hy491⟩ : ∃ y_ : List Int, y_ = (([(-1), 10000, 10001] : List Int)) := ⟨_, rfl⟩
    replace H : ((spec_l1Cur_among.f s0_0 t489 t490 y491).bind fun bt494 => (if 0 ≤ t488 then (if t488 < (t467.length : Int) then (spec_l1Cur_anyModel.j0 k s0_0 bt494.2.1 bt494.2.2 t464 t465 t466 (t467.set (t488 : Int).toNat bt494.1) t470 t473) else (none)) else (none))) = some (r1, r2, r3, r4, r5, r6, r7, r8) := by first | (rw [hy491]; with_reducible exact H) | (have H2_ := (Option.bind_some _ _).symm.trans H; rw [hy491]; with_reducible exact H2_) | (have H2_ := (Option.bind_some _ _).symm.trans H; with_reducible exact H2_) | with_reducible exact H | (rw [hy491]; exact H) | exact H
    have Ny491 := Aside0.mk hy491
    clear hy491
    replace H := Option.bind_eq_some_iff.mp H
    obtain ⟨⟨t494, t495, t496⟩, A250, H⟩ := H
    try dsimp only at H
    have A25 := Aside0.mk A250
    clear A250
    by_cases c26 : 0 ≤ t488
    ·rw [if_pos c26] at H
     have c26b0 : decide (0 ≤ t488) = true := decide_eq_true c26
     clear c26
     by_cases c27 : t488 < (t467.length : Int)
     ·rw [if_pos c27] at H
      have c27b0 : decide (t488 < (t467.length : Int)) = true := decide_eq_true c27
      clear c27
      obtain ⟨y497, hy497⟩ : ∃ y_ : List Int, y_ = (t467.set (t488 : Int).toNat t494) := ⟨_, rfl⟩
      replace H : (spec_l1Cur_anyModel.j0 k s0_0 t495 t496 t464 t465 t466 y497 t470 t473) = some (r1, r2, r3, r4, r5, r6, r7, r8) := by first | (rw [hy497]; with_reducible exact H) | (have H2_ := (Option.bind_some _ _).symm.trans H; rw [hy497]; with_reducible exact H2_) | (have H2_ := (Option.bind_some _ _).symm.trans H; with_reducible exact H2_) | with_reducible exact H | (rw [hy497]; exact H) | exact H
      have Ny497 := Aside0.mk hy497
      clear hy497
      have H' := Aside0.mk H
      clear H
      try go_wp2
      have n0_ := Aside0.mk (Kd.R_drew HO469.out)
      have n1_ := Aside0.mk (Kd.R_drew HO472.out)
      have n2_ := Aside0.mk (Kd.R_drew HO475.out)
      have n3_ := Aside0.mk (blk_drew BK463.out)
      have n4_ := Aside0.mk (blk_drew BK478.out)
      have n5_ := Aside0.mk (IsS106.drew HI0.out)
      have n6_ := Aside0.mk (keep_drew HK.out)
      have n7_ := Aside0.mk (below_drew1 HB.out)
      clear HO469
      clear HO472
      clear HO475
      clear BK463
      clear BK478
      clear HI0
      clear HK
      clear HB
      have HO469 := n0_
      have HO472 := n1_
      have HO475 := n2_
      have BK463 := n3_
      have BK478 := n4_
      have HI0 := n5_
      have HK := n6_
      have HB := n7_
      clear n0_ n1_ n2_ n3_ n4_ n5_ n6_ n7_
      refine start_ (n := 10) (S := fun w' => w'.cell? ⟨gb478, 0, none⟩ = some (.int .i64 t464) ∧ w'.cell? ⟨gb478, 1, none⟩ = some (.int .i64 t465) ∧ w'.cell? ⟨gb478, 2, none⟩ = some (.int .i64 t466) ∧ w'.cell? ⟨gb478, 3, none⟩ = some (.slice Ao12 t467.length co12) ∧ w'.cell? ⟨gb478, 4, none⟩ = some (.slice Ao13 t470.length co13) ∧ w'.cell? ⟨gb478, 5, none⟩ = some (.slice Ao14 t473.length co14)) (ds := [9]) (bb 10 0) (by kernel_rfl) rfl rfl ⟨(blk_cell BK478.out 0).trans rfl, (blk_cell BK478.out 1).trans rfl, (blk_cell BK478.out 2).trans rfl, (blk_cell BK478.out 3).trans rfl, (blk_cell BK478.out 4).trans rfl, (blk_cell BK478.out 5).trans rfl⟩ (fun hHeld => ?_); refine with_tabW spec_l1Cur_anyModel.tab7 spec_l1Cur_anyModel.bits7 (fun HT_ HW_ => ?_)
      generalize w16.drew = w29 at HO469 HO472 HO475 BK463 BK478 HI0 HK HB hHeld ⊢
      refine pl_ HT_ 0 (some 19) (bb 10 1) (h := ?_)
      refine pl_ HT_ 2 (some 21) (bb 10 5) (h := ?_)
      refine pl_ HT_ 3 (some 22) (bb 10 13) (h := ?_)
      refine pl_ HT_ 5 (some 24) (bb 10 45) (h := ?_)
      refine take_ (i := 1) (N := some 20) (v := ?_) (a' := ?_) (bb 10 47) rfl rfl (take_ofW HT_.out HW_.out (by kernel_rfl)) (fun _ _ _ h => h) (Or.inl ⟨by rfl, ?_⟩) hHeld ?_ ?_
      rotate_left
      ·rintro w' ⟨s0, s1, s2, s3, s4, s5⟩
       go_simp
       with_reducible rfl
      rotate_left
      ·simp only [Act.put, List.setIfInBounds_toArray, List.set_cons_zero, List.set_cons_succ, i64_w, i32_w]
       rfl
      refine join_ (σ := Value) 3 (bb 10 127) (fun s_ => [(23, .int .i64 t488), (25, s_)]) (fun s_ w' => (w'.cell? ⟨gb478, 0, none⟩ = some (.int .i64 t464) ∧ w'.cell? ⟨gb478, 1, none⟩ = some (.int .i64 t465) ∧ w'.cell? ⟨gb478, 2, none⟩ = some (.int .i64 t466) ∧ w'.cell? ⟨gb478, 3, none⟩ = some (.slice Ao12 t467.length co12) ∧ w'.cell? ⟨gb478, 4, none⟩ = some (.slice Ao13 t470.length co13) ∧ w'.cell? ⟨gb478, 5, none⟩ = some (.slice Ao14 t473.length co14)) ∧ (Kd.R (Kd.int .i64) 3 w' w.heap.size (fun k_ => some k_ ≠ (.slice Ao13 t470.length co13 : Value).ownBlock ∧ some k_ ≠ (.slice Ao14 t473.length co14 : Value).ownBlock ∧ some k_ ≠ (s_ : Value).ownBlock) (.slice Ao12 t467.length co12) t467) ∧ (Kd.R (Kd.int .i64) 3 w' w.heap.size (fun k_ => some k_ ≠ (.slice Ao12 t467.length co12 : Value).ownBlock ∧ some k_ ≠ (.slice Ao14 t473.length co14 : Value).ownBlock ∧ some k_ ≠ (s_ : Value).ownBlock) (.slice Ao13 t470.length co13) t470) ∧ (Kd.R (Kd.int .i64) 3 w' w.heap.size (fun k_ => some k_ ≠ (.slice Ao12 t467.length co12 : Value).ownBlock ∧ some k_ ≠ (.slice Ao13 t470.length co13 : Value).ownBlock ∧ some k_ ≠ (s_ : Value).ownBlock) (.slice Ao14 t473.length co14) t473) ∧ (Kd.R (Kd.int .i64) 3 w' w.heap.size (fun k_ => some k_ ≠ (.slice Ao12 t467.length co12 : Value).ownBlock ∧ some k_ ≠ (.slice Ao13 t470.length co13 : Value).ownBlock ∧ some k_ ≠ (.slice Ao14 t473.length co14 : Value).ownBlock) s_ y491) ∧ (w'.heap[gb463]? = some (.cells #[.int .i64 0, .int .i64 0, .int .i64 0, .slice none 0 0, .slice none 0 0, .slice none 0 0] 34 (0, 0))) ∧ (w'.heap[gb478]? = some (.cells #[.int .i64 t464, .int .i64 t465, .int .i64 t466, .slice Ao12 t467.length co12, .slice Ao13 t470.length co13, .slice Ao14 t473.length co14] 34 (0, 0))) ∧ (IsS106 w0 w' g s0_0 t489 t490) ∧ (KeepBut w w' g none) ∧ (Below w0.heap.size w0 w')) ?_ ?_
      rotate_left
      ·intro hCont
       refine two_ (i := 4) (j := 6) (Ni := some 23) (Nj := some 25) (bb 10 63) (bb 10 111) rfl rfl rfl rfl (two_of HT_.out (by kernel_rfl)) (by decide) (by decide) (fun K hK => ?_) (fun K hK => ?_)
       ·skip
        refine goes_ Try.func87 (by kernel_rfl) rfl #[.pointer (some ⟨g, 0, none⟩), .int .i64 t479] (by rfl) rfl rfl (by (try simp only [List.map_toArray, List.map_cons, List.map_nil]); first | done | rfl | (simp only [List.length_drop, List.length_take]; rfl)) ?_
        with_reducible refine (spec_l1Cur_pick.calls g s0_0 t481 t482 t479 t488 t489 t490 w0 _ ?side1 ?side2 A24.out).mono ?_
        (case side1 => exact IsS106.q HI0)
        (case side2 => exact hbI_ HB (IsS106.ge HI0.out))
        rintro e w30 ⟨rfl, hi, hb, hk⟩
        refine ⟨_, rfl, ?_⟩
        have n0_ := Aside0.mk (KeepBut.blk hk (kp_ BK463) NB463_0.out (by simp))
        have n1_ := IsS106.rk HI0 HO469 hk
        have n2_ := IsS106.rk HI0 HO472 hk
        have n3_ := IsS106.rk HI0 HO475 hk
        have n4_ := Aside0.mk (KeepBut.blk hk (kp_ BK478) NB478_0.out (by simp))
        have n5_ := Aside0.mk (KeepBut.trans (hk_ HK) hk (.inl rfl))
        have n6_ := Aside0.mk (hb)
        have n7_ := Aside0.mk (hi)
        clear BK463
        clear HO469
        clear HO472
        clear HO475
        clear BK478
        clear HK
        clear HB
        clear HI0
        have BK463 := n0_
        have HO469 := n1_
        have HO472 := n2_
        have HO475 := n3_
        have BK478 := n4_
        have HK := n5_
        have HB := n6_
        have HI0 := n7_
        clear n0_ n1_ n2_ n3_ n4_ n5_ n6_ n7_
        (try clear hb)
        (try clear hb2)
        (try clear hk)
        (try clear hi)
        refine hK.out _ _ ⟨(blk_cell BK478.out 0).trans rfl, (blk_cell BK478.out 1).trans rfl, (blk_cell BK478.out 2).trans rfl, (blk_cell BK478.out 3).trans rfl, (blk_cell BK478.out 4).trans rfl, (blk_cell BK478.out 5).trans rfl⟩ (fun hHeld => ?_)
        clear hK K
        refine norm_ (a' := ?_) ?_ ?_
        rotate_left
        ·show Act.put _ (some 23) _ = _
         simp only [Act.put, List.setIfInBounds_toArray, List.set_cons_zero, List.set_cons_succ, i64_w, i32_w]
         rfl
        refine one_ (i := 6) (N := some 25) (bb 10 127) rfl rfl (one_of HT_.out (by kernel_rfl)) (by decide) (fun K hK => ?_)
        refine Kd.R_lit_step (Kd.int .i64) _ 3 ?hg (N := 25) ?hd (xs := ([(-1), 10000, 10001] : List Int)) (inner := [.int .i64 (-1), .int .i64 10000, .int .i64 10001]) (ok := fun _ => True) (okp := fun _ => True) ?hr ?hp (fun _ hk => hk) trivial (Below.refl _ _) (Nat.le_refl _) (by simp) ?_; (case hd => rfl); (case hg => rfl); (case hr => first | (go_simp; done) | (go_simp; rfl)); (case hp => exact (Reps.one (show Kd.M (Kd.int .i64) _ _ _ (-1) [.int .i64 (-1)] from rfl) (Reps.one (show Kd.M (Kd.int .i64) _ _ _ 10000 [.int .i64 10000] from rfl) (Reps.one (show Kd.M (Kd.int .i64) _ _ _ 10001 [.int .i64 10001] from rfl) (Reps.none _ _)))))
        intro v492 w31 ho32 hb hg_ hnew_
        clear hg_ hnew_
        (first | rw [← Ny491.out] at ho32 | (simp only [Int.reduceToNat] at ho32; rw [← Ny491.out] at ho32))
        have n0_ := Aside0.mk (Kd.R_elder' (Kd.R_p HO469) (Kd.R_base ho32) hb)
        have n1_ := Aside0.mk (Kd.R_elder' (Kd.R_p HO472) (Kd.R_base ho32) hb)
        have n2_ := Aside0.mk (Kd.R_elder' (Kd.R_p HO475) (Kd.R_base ho32) hb)
        have n3_ := Aside0.mk (Kd.R_lower (Kd.R_nw (Kd.R_nw (Kd.R_nw ho32 HO469) HO472) HO475) (keep_size (hk_ HK)))
        have n4_ := Aside0.mk (IsS106.below (IsS106.q HI0) hb)
        have n5_ := Aside0.mk (blk_below (kp_ BK463) hb)
        have n6_ := Aside0.mk (blk_below (kp_ BK478) hb)
        have n7_ := Aside0.mk (KeepBut.trans (hk_ HK) (KeepBut.of_below hb g none) (.inl rfl))
        have n8_ := Aside0.mk (below_step (hbI_ HB (IsS106.ge HI0.out)) hb)
        clear HO469
        clear HO472
        clear HO475
        clear HI0
        clear BK463
        clear BK478
        clear HK
        clear HB
        have HO469 := n0_
        have HO472 := n1_
        have HO475 := n2_
        have HO493 := n3_
        have HI0 := n4_
        have BK463 := n5_
        have BK478 := n6_
        have HK := n7_
        have HB := n8_
        clear n0_ n1_ n2_ n3_ n4_ n5_ n6_ n7_ n8_
        clear hb ho32
        refine hK.out _ _ ⟨(blk_cell BK478.out 0).trans rfl, (blk_cell BK478.out 1).trans rfl, (blk_cell BK478.out 2).trans rfl, (blk_cell BK478.out 3).trans rfl, (blk_cell BK478.out 4).trans rfl, (blk_cell BK478.out 5).trans rfl⟩ (fun hHeld => ?_)
        clear hK K
        refine norm_ (a' := ?_) ?_ ?_
        rotate_left
        ·show Act.put _ (some 25) _ = _
         simp only [Act.put, List.setIfInBounds_toArray, List.set_cons_zero, List.set_cons_succ, i64_w, i32_w]
         rfl
        exact norm_ (by simp only [putAll, Act.put, List.setIfInBounds_toArray, List.set_cons_zero, List.set_cons_succ]) (hCont (v492) _ ⟨hHeld, (Kd.R_pp (Kd.R_mono HO469.out (fun _ hk => ⟨hk.1.1, ⟨hk.1.2, hk.2⟩⟩))), (Kd.R_pp (Kd.R_mono HO472.out (fun _ hk => ⟨hk.1.1, ⟨hk.1.2, hk.2⟩⟩))), (Kd.R_pp (Kd.R_mono HO475.out (fun _ hk => ⟨hk.1.1, ⟨hk.1.2, hk.2⟩⟩))), (Kd.R_pp (Kd.R_mono HO493.out (fun _ hk => ⟨hk.1.1.2, ⟨hk.1.2, hk.2⟩⟩))), (kp_ BK463), (kp_ BK478), (IsS106.q HI0), (hk_ HK), (hbI_ HB (IsS106.ge HI0.out))⟩)
       ·skip
        refine Kd.R_lit_step (Kd.int .i64) _ 3 ?hg (N := 25) ?hd (xs := ([(-1), 10000, 10001] : List Int)) (inner := [.int .i64 (-1), .int .i64 10000, .int .i64 10001]) (ok := fun _ => True) (okp := fun _ => True) ?hr ?hp (fun _ hk => hk) trivial (Below.refl _ _) (Nat.le_refl _) (by simp) ?_; (case hd => rfl); (case hg => rfl); (case hr => first | (go_simp; done) | (go_simp; rfl)); (case hp => exact (Reps.one (show Kd.M (Kd.int .i64) _ _ _ (-1) [.int .i64 (-1)] from rfl) (Reps.one (show Kd.M (Kd.int .i64) _ _ _ 10000 [.int .i64 10000] from rfl) (Reps.one (show Kd.M (Kd.int .i64) _ _ _ 10001 [.int .i64 10001] from rfl) (Reps.none _ _)))))
        intro v492 w30 ho31 hb hg_ hnew_
        clear hg_ hnew_
        (first | rw [← Ny491.out] at ho31 | (simp only [Int.reduceToNat] at ho31; rw [← Ny491.out] at ho31))
        have n0_ := Aside0.mk (Kd.R_elder' (Kd.R_p HO469) (Kd.R_base ho31) hb)
        have n1_ := Aside0.mk (Kd.R_elder' (Kd.R_p HO472) (Kd.R_base ho31) hb)
        have n2_ := Aside0.mk (Kd.R_elder' (Kd.R_p HO475) (Kd.R_base ho31) hb)
        have n3_ := Aside0.mk (Kd.R_lower (Kd.R_nw (Kd.R_nw (Kd.R_nw ho31 HO469) HO472) HO475) (keep_size (hk_ HK)))
        have n4_ := Aside0.mk (IsS106.below (IsS106.q HI0) hb)
        have n5_ := Aside0.mk (blk_below (kp_ BK463) hb)
        have n6_ := Aside0.mk (blk_below (kp_ BK478) hb)
        have n7_ := Aside0.mk (KeepBut.trans (hk_ HK) (KeepBut.of_below hb g none) (.inl rfl))
        have n8_ := Aside0.mk (below_step (hbI_ HB (IsS106.ge HI0.out)) hb)
        clear HO469
        clear HO472
        clear HO475
        clear HI0
        clear BK463
        clear BK478
        clear HK
        clear HB
        have HO469 := n0_
        have HO472 := n1_
        have HO475 := n2_
        have HO493 := n3_
        have HI0 := n4_
        have BK463 := n5_
        have BK478 := n6_
        have HK := n7_
        have HB := n8_
        clear n0_ n1_ n2_ n3_ n4_ n5_ n6_ n7_ n8_
        clear hb ho31
        refine hK.out _ _ ⟨(blk_cell BK478.out 0).trans rfl, (blk_cell BK478.out 1).trans rfl, (blk_cell BK478.out 2).trans rfl, (blk_cell BK478.out 3).trans rfl, (blk_cell BK478.out 4).trans rfl, (blk_cell BK478.out 5).trans rfl⟩ (fun hHeld => ?_)
        clear hK K
        refine norm_ (a' := ?_) ?_ ?_
        rotate_left
        ·show Act.put _ (some 25) _ = _
         simp only [Act.put, List.setIfInBounds_toArray, List.set_cons_zero, List.set_cons_succ, i64_w, i32_w]
         rfl
        refine one_ (i := 4) (N := some 23) (bb 10 127) rfl rfl (one_of HT_.out (by kernel_rfl)) (by decide) (fun K hK => ?_)
        refine goes_ Try.func87 (by kernel_rfl) rfl #[.pointer (some ⟨g, 0, none⟩), .int .i64 t479] (by rfl) rfl rfl (by (try simp only [List.map_toArray, List.map_cons, List.map_nil]); first | done | rfl | (simp only [List.length_drop, List.length_take]; rfl)) ?_
        with_reducible refine (spec_l1Cur_pick.calls g s0_0 t481 t482 t479 t488 t489 t490 w0 _ ?side1 ?side2 A24.out).mono ?_
        (case side1 => exact IsS106.q HI0)
        (case side2 => exact hbI_ HB (IsS106.ge HI0.out))
        rintro e w32 ⟨rfl, hi, hb, hk⟩
        refine ⟨_, rfl, ?_⟩
        have n0_ := Aside0.mk (KeepBut.blk hk (kp_ BK463) NB463_0.out (by simp))
        have n1_ := IsS106.rk HI0 HO469 hk
        have n2_ := IsS106.rk HI0 HO472 hk
        have n3_ := IsS106.rk HI0 HO475 hk
        have n4_ := Aside0.mk (KeepBut.blk hk (kp_ BK478) NB478_0.out (by simp))
        have n5_ := IsS106.rk HI0 HO493 hk
        have n6_ := Aside0.mk (KeepBut.trans (hk_ HK) hk (.inl rfl))
        have n7_ := Aside0.mk (hb)
        have n8_ := Aside0.mk (hi)
        clear BK463
        clear HO469
        clear HO472
        clear HO475
        clear BK478
        clear HO493
        clear HK
        clear HB
        clear HI0
        have BK463 := n0_
        have HO469 := n1_
        have HO472 := n2_
        have HO475 := n3_
        have BK478 := n4_
        have HO493 := n5_
        have HK := n6_
        have HB := n7_
        have HI0 := n8_
        clear n0_ n1_ n2_ n3_ n4_ n5_ n6_ n7_ n8_
        (try clear hb)
        (try clear hb2)
        (try clear hk)
        (try clear hi)
        refine hK.out _ _ ⟨(blk_cell BK478.out 0).trans rfl, (blk_cell BK478.out 1).trans rfl, (blk_cell BK478.out 2).trans rfl, (blk_cell BK478.out 3).trans rfl, (blk_cell BK478.out 4).trans rfl, (blk_cell BK478.out 5).trans rfl⟩ (fun hHeld => ?_)
        clear hK K
        refine norm_ (a' := ?_) ?_ ?_
        rotate_left
        ·show Act.put _ (some 23) _ = _
         simp only [Act.put, List.setIfInBounds_toArray, List.set_cons_zero, List.set_cons_succ, i64_w, i32_w]
         rfl
        exact norm_ (by simp only [putAll, Act.put, List.setIfInBounds_toArray, List.set_cons_zero, List.set_cons_succ]) (hCont (v492) _ ⟨hHeld, (Kd.R_pp (Kd.R_mono HO469.out (fun _ hk => ⟨hk.1.1, ⟨hk.1.2, hk.2⟩⟩))), (Kd.R_pp (Kd.R_mono HO472.out (fun _ hk => ⟨hk.1.1, ⟨hk.1.2, hk.2⟩⟩))), (Kd.R_pp (Kd.R_mono HO475.out (fun _ hk => ⟨hk.1.1, ⟨hk.1.2, hk.2⟩⟩))), (Kd.R_pp (Kd.R_mono HO493.out (fun _ hk => ⟨hk.1.1.2, ⟨hk.1.2, hk.2⟩⟩))), (kp_ BK463), (kp_ BK478), (IsS106.q HI0), (hk_ HK), (hbI_ HB (IsS106.ge HI0.out))⟩)
      rintro v492 w33 ⟨hS_, h0_, h1_, h2_, h3_, h4_, h5_, h6_, h7_, h8_⟩
      have n0_ : Aside0 (Kd.R (Kd.int .i64) 3 w33 w.heap.size (fun k_ => some k_ ≠ (.slice Ao13 t470.length co13 : Value).ownBlock ∧ some k_ ≠ (.slice Ao14 t473.length co14 : Value).ownBlock ∧ some k_ ≠ (v492 : Value).ownBlock) (.slice Ao12 t467.length co12) t467) := ⟨h0_⟩
      have n1_ : Aside0 (Kd.R (Kd.int .i64) 3 w33 w.heap.size (fun k_ => some k_ ≠ (.slice Ao12 t467.length co12 : Value).ownBlock ∧ some k_ ≠ (.slice Ao14 t473.length co14 : Value).ownBlock ∧ some k_ ≠ (v492 : Value).ownBlock) (.slice Ao13 t470.length co13) t470) := ⟨h1_⟩
      have n2_ : Aside0 (Kd.R (Kd.int .i64) 3 w33 w.heap.size (fun k_ => some k_ ≠ (.slice Ao12 t467.length co12 : Value).ownBlock ∧ some k_ ≠ (.slice Ao13 t470.length co13 : Value).ownBlock ∧ some k_ ≠ (v492 : Value).ownBlock) (.slice Ao14 t473.length co14) t473) := ⟨h2_⟩
      have n3_ : Aside0 (Kd.R (Kd.int .i64) 3 w33 w.heap.size (fun k_ => some k_ ≠ (.slice Ao12 t467.length co12 : Value).ownBlock ∧ some k_ ≠ (.slice Ao13 t470.length co13 : Value).ownBlock ∧ some k_ ≠ (.slice Ao14 t473.length co14 : Value).ownBlock) v492 y491) := ⟨h3_⟩
      have n4_ : Aside0 (w33.heap[gb463]? = some (.cells #[.int .i64 0, .int .i64 0, .int .i64 0, .slice none 0 0, .slice none 0 0, .slice none 0 0] 34 (0, 0))) := ⟨h4_⟩
      have n5_ : Aside0 (w33.heap[gb478]? = some (.cells #[.int .i64 t464, .int .i64 t465, .int .i64 t466, .slice Ao12 t467.length co12, .slice Ao13 t470.length co13, .slice Ao14 t473.length co14] 34 (0, 0))) := ⟨h5_⟩
      have n6_ : Aside0 (IsS106 w0 w33 g s0_0 t489 t490) := ⟨h6_⟩
      have n7_ : Aside0 (KeepBut w w33 g none) := ⟨h7_⟩
      have n8_ : Aside0 (Below w0.heap.size w0 w33) := ⟨h8_⟩
      clear HO469
      clear HO472
      clear HO475
      clear BK463
      clear BK478
      clear HI0
      clear HK
      clear HB
      clear h0_ h1_ h2_ h3_ h4_ h5_ h6_ h7_ h8_
      have HO469 := n0_
      have HO472 := n1_
      have HO475 := n2_
      have HO493 := n3_
      have BK463 := n4_
      have BK478 := n5_
      have HI0 := n6_
      have HK := n7_
      have HB := n8_
      clear n0_ n1_ n2_ n3_ n4_ n5_ n6_ n7_ n8_
      have hHeld : w33.cell? ⟨gb478, 0, none⟩ = some (.int .i64 t464) ∧ w33.cell? ⟨gb478, 1, none⟩ = some (.int .i64 t465) ∧ w33.cell? ⟨gb478, 2, none⟩ = some (.int .i64 t466) ∧ w33.cell? ⟨gb478, 3, none⟩ = some (.slice Ao12 t467.length co12) ∧ w33.cell? ⟨gb478, 4, none⟩ = some (.slice Ao13 t470.length co13) ∧ w33.cell? ⟨gb478, 5, none⟩ = some (.slice Ao14 t473.length co14) := hS_
      obtain ⟨Ao34, co34, eo34⟩ := Kd.R_slice HO493.out
      (first | subst eo34 | (injection eo34 with f1_ f2_ f3_; have f4_ := f1_.symm; have f5_ := f3_.symm; clear f1_ f2_ f3_; subst f4_; subst f5_))
      refine norm_ (a' := ?_) ?_ ?_
      rotate_left
      ·simp only [putAll, Act.put, List.setIfInBounds_toArray, List.set_cons_zero, List.set_cons_succ]
       rfl
      refine one_ (i := 7) (N := some 26) (bb 10 255) rfl rfl (one_of HT_.out (by kernel_rfl)) (by decide) (fun K hK => ?_)
      refine goes_ Try.func89 (by kernel_rfl) rfl #[.pointer (some ⟨g, 0, none⟩), .slice Ao34 y491.length co34] (by rfl) rfl rfl (by (try simp only [List.map_toArray, List.map_cons, List.map_nil]); first | done | rfl | (simp only [List.length_drop, List.length_take]; rfl)) ?_
      with_reducible refine (spec_l1Cur_among.calls g s0_0 t489 t490 _ _ y491 t494 t495 t496 w0 _ ?side1 ?side2 ?side3 ?side4 ?side5 A25.out).mono ?_
      (case side1 => exact IsS106.q HI0)
      (case side2 => exact hbI_ HB (IsS106.ge HI0.out))
      (case side3 => exact Kd.C_o HO493)
      (case side4 => exact (Kd.R_reads' HO493.out).2.1)
      (case side5 => exact far_slice (IsS106.own_ne HI0.out HO493.out (by decide)))
      rintro e w35 ⟨rfl, hi, hb, hk⟩
      refine ⟨_, rfl, ?_⟩
      have n0_ := Aside0.mk (KeepBut.blk hk (kp_ BK463) NB463_0.out (by simp))
      have n1_ := IsS106.rk HI0 HO469 hk
      have n2_ := IsS106.rk HI0 HO472 hk
      have n3_ := IsS106.rk HI0 HO475 hk
      have n4_ := Aside0.mk (KeepBut.blk hk (kp_ BK478) NB478_0.out (by simp))
      have n5_ := IsS106.rk HI0 HO493 hk
      have n6_ := Aside0.mk (KeepBut.trans (hk_ HK) hk (.inl rfl))
      have n7_ := Aside0.mk (hb)
      have n8_ := Aside0.mk (hi)
      clear BK463
      clear HO469
      clear HO472
      clear HO475
      clear BK478
      clear HO493
      clear HK
      clear HB
      clear HI0
      have BK463 := n0_
      have HO469 := n1_
      have HO472 := n2_
      have HO475 := n3_
      have BK478 := n4_
      have HO493 := n5_
      have HK := n6_
      have HB := n7_
      have HI0 := n8_
      clear n0_ n1_ n2_ n3_ n4_ n5_ n6_ n7_ n8_
      (try clear hb)
      (try clear hb2)
      (try clear hk)
      (try clear hi)
      have p28 : 0 ≤ (t488 : Int) := of_decide_eq_true (by first | (with_reducible assumption) | assumption)
      have q28 : (t488 : Int) < ((t467.length : Int) : Int) := of_decide_eq_true (by first | (with_reducible assumption) | assumption)
      obtain ⟨go28, co28, eo28, gb28, gl28, cl28, HG28⟩ := Kd.R_form HO469.out (by omega)
      (first | cases eo28 | (injection eo28 with ea_ en_ ec_; (first | subst ea_ | (injection ea_ with ea_; subst ea_)); subst ec_; clear en_))
      have GB28 := Aside0.mk gb28
      have GG28 := Aside0.mk HG28
      clear gb28 gl28 HG28
      obtain ⟨hx28_0, hf28_0⟩ := Kd.R_celln 0 HO469.out (t488 : Int) p28 q28
      replace p28 := eq_true p28
      replace q28 := eq_true q28
      have HN0_go28 := Aside0.mk (show g ≠ go28 from by have h_ := IsS106.own_ne HI0.out HO469.out (by decide); intro e_; exact h_ (by rw [e_]; rfl))
      have HP36 := Kd.R_putn HO469.out (t488 : Int) t494
      rw [← Ny497.out] at HP36
      have HQ36 := Aside0.mk HP36
      clear HP36
      refine hK.out _ _ ⟨(blk_cell BK478.out 0).trans rfl, (blk_cell BK478.out 1).trans rfl, (blk_cell BK478.out 2).trans rfl, (blk_cell BK478.out 3).trans rfl, (blk_cell BK478.out 4).trans rfl, (blk_cell BK478.out 5).trans rfl⟩ (fun hHeld => ?_)
      clear hK K
      refine norm_ (a' := ?_) ?_ ?_
      rotate_left
      ·show Act.put _ (some 26) _ = _
       simp only [Act.put, List.setIfInBounds_toArray, List.set_cons_zero, List.set_cons_succ, i64_w, i32_w]
       rfl
      refine pl_ HT_ 8 (some 27) (bb 10 511) (h := ?_)
      refine last_ (i := 9) (N := none) (bb 10 1023) rfl rfl (one_of HT_.out (by kernel_rfl)) (by decide) (fun K hK => ?_)
      refine skip_ (w1 := ?_) (by rfl) rfl ?_ ?_
      rotate_left
      ·go_simp
       rfl
      refine hK.out _ _ ?_
      clear hK K
      refine done_ (done_of HT_.out (by kernel_rfl)) ?_
      try go_wp2
      go_meet
      case rel => exact ⟨_, (t495), (t496), (t464), (t465), (t466), (y497), (t470), (t473), (.slice (some ⟨go28, 0, none⟩) t467.length co12), (.slice Ao13 t470.length co13), (.slice Ao14 t473.length co14), H', ⟨by first | omega | exact Nat.le_refl _⟩, ⟨Kd.R_pp (Kd.R_mono HQ36.out (fun _ hk => ⟨hk.1, hk.2.1⟩))⟩, ⟨Kd.R_pp (Kd.R_mono (Kd.R_far (p := ⟨go28, (t488 : Int).toNat, none⟩) (Kd.R_mono HO472.out (fun k_ hk => (⟨hk, fun e_ => hk.1 (by rw [e_]; rfl)⟩ : _ ∧ k_ ≠ go28))) (fun _ hk => hk.2) (.int .i64 t494)) (fun _ hk => ⟨hk.1.1, hk.1.2.1⟩))⟩, ⟨Kd.R_pp (Kd.R_mono (Kd.R_far (p := ⟨go28, (t488 : Int).toNat, none⟩) (Kd.R_mono HO475.out (fun k_ hk => (⟨hk, fun e_ => hk.1 (by rw [e_]; rfl)⟩ : _ ∧ k_ ≠ go28))) (fun _ hk => hk.2) (.int .i64 t494)) (fun _ hk => ⟨hk.1.1, hk.1.2.1⟩))⟩, ⟨by (with_reducible repeat (first | refine blk_drewN ?_ _ | refine blk_drew ?_ | refine blk_alloc ?_ _)); refine blk_far ?_ (by have h_ := Kd.R_ne HO469.out BK463.out (by decide); intro e_; exact h_ (by rw [e_]; rfl)) _; (with_reducible repeat (first | refine blk_drewN ?_ _ | refine blk_drew ?_ | refine blk_alloc ?_ _)); exact BK463.out⟩, ⟨by (with_reducible repeat (first | refine blk_drewN ?_ _ | refine blk_drew ?_ | refine blk_alloc ?_ _)); refine blk_far ?_ (by have h_ := Kd.R_ne HO469.out BK478.out (by decide); intro e_; exact h_ (by rw [e_]; rfl)) _; (with_reducible repeat (first | refine blk_drewN ?_ _ | refine blk_drew ?_ | refine blk_alloc ?_ _)); exact BK478.out⟩, ⟨IsS106.q HI0⟩, ⟨by repeat (first | (with_reducible first | exact HK.out | apply KeepBut.set_ | apply keep_drewN | apply keep_drew | apply keep_alloc | refine keep_far ?_ GB28.out _ | refine keep_far ?_ GW463.out _ | refine keep_far ?_ GW478.out _) | exact HK.out)⟩, ⟨by repeat (first | (with_reducible first | exact HB.out | apply below_alloc | apply pw_below_drewN | apply below_drew1 | refine below_set ?_ (Nat.le_trans HL.out GB28.out) | refine below_set ?_ (IsS106.ge HI0.out) | refine below_set ?_ GE463.out | refine below_set ?_ GE478.out) | exact HB.out)⟩⟩
     ·rw [if_neg c27] at H
      exact absurd H (by simp)
    ·rw [if_neg c26] at H
     exact absurd H (by simp)
   ·rw [if_neg c23] at H
    have c23b0 : (t480 == 1) = false := beq_eq_false_iff_ne.mpr c23
    have c23b1 : (t480 != 1) = true := bne_iff_ne.mpr c23
    by_cases c37 : t480 = 2
    ·rw [if_pos c37] at H
     have c37b0 : (t480 == 2) = true := beq_iff_eq.mpr c37
     have c37b1 : (t480 != 2) = false := bne_eq_false_iff_eq.mpr c37
     clear c37
     replace H := Option.bind_eq_some_iff.mp H
     obtain ⟨⟨t498, t499, t500⟩, A380, H⟩ := H
     try dsimp only at H
     have A38 := Aside0.mk A380
     clear A380
     obtain ⟨y501, hy501⟩ : ∃ y_ : List Int, y_ = (([(-1), 1000, 1001] : List Int)) := ⟨_, rfl⟩
     replace H : ((spec_l1Cur_among.f s0_0 t499 t500 y501).bind fun bt504 => (if 0 ≤ t498 then (if t498 < (t470.length : Int) then (spec_l1Cur_anyModel.j0 k s0_0 bt504.2.1 bt504.2.2 t464 t465 t466 t467 (t470.set (t498 : Int).toNat bt504.1) t473) else (none)) else (none))) = some (r1, r2, r3, r4, r5, r6, r7, r8) := by first | (rw [hy501]; with_reducible exact H) | (have H2_ := (Option.bind_some _ _).symm.trans H; rw [hy501]; with_reducible exact H2_) | (have H2_ := (Option.bind_some _ _).symm.trans H; with_reducible exact H2_) | with_reducible exact H | (rw [hy501]; exact H) | exact H
     have Ny501 := Aside0.mk hy501
     clear hy501
     replace H := Option.bind_eq_some_iff.mp H
     obtain ⟨⟨t504, t505, t506⟩, A390, H⟩ := H
     try dsimp only at H
     have A39 := Aside0.mk A390
     clear A390
     by_cases c40 : 0 ≤ t498
     ·rw [if_pos c40] at H
      have c40b0 : decide (0 ≤ t498) = true := decide_eq_true c40
      clear c40
      by_cases c41 : t498 < (t470.length : Int)
      ·rw [if_pos c41] at H
       have c41b0 : decide (t498 < (t470.length : Int)) = true := decide_eq_true c41
       clear c41
       obtain ⟨y507, hy507⟩ : ∃ y_ : List Int, y_ = (t470.set (t498 : Int).toNat t504) := ⟨_, rfl⟩
       replace H : (spec_l1Cur_anyModel.j0 k s0_0 t505 t506 t464 t465 t466 t467 y507 t473) = some (r1, r2, r3, r4, r5, r6, r7, r8) := by first | (rw [hy507]; with_reducible exact H) | (have H2_ := (Option.bind_some _ _).symm.trans H; rw [hy507]; with_reducible exact H2_) | (have H2_ := (Option.bind_some _ _).symm.trans H; with_reducible exact H2_) | with_reducible exact H | (rw [hy507]; exact H) | exact H
       have Ny507 := Aside0.mk hy507
       clear hy507
       have H' := Aside0.mk H
       clear H
       try go_wp2
       have n0_ := Aside0.mk (Kd.R_drew HO469.out)
       have n1_ := Aside0.mk (Kd.R_drew HO472.out)
       have n2_ := Aside0.mk (Kd.R_drew HO475.out)
       have n3_ := Aside0.mk (blk_drew BK463.out)
       have n4_ := Aside0.mk (blk_drew BK478.out)
       have n5_ := Aside0.mk (IsS106.drew HI0.out)
       have n6_ := Aside0.mk (keep_drew HK.out)
       have n7_ := Aside0.mk (below_drew1 HB.out)
       clear HO469
       clear HO472
       clear HO475
       clear BK463
       clear BK478
       clear HI0
       clear HK
       clear HB
       have HO469 := n0_
       have HO472 := n1_
       have HO475 := n2_
       have BK463 := n3_
       have BK478 := n4_
       have HI0 := n5_
       have HK := n6_
       have HB := n7_
       clear n0_ n1_ n2_ n3_ n4_ n5_ n6_ n7_
       refine start_ (n := 10) (S := fun w' => w'.cell? ⟨gb478, 0, none⟩ = some (.int .i64 t464) ∧ w'.cell? ⟨gb478, 1, none⟩ = some (.int .i64 t465) ∧ w'.cell? ⟨gb478, 2, none⟩ = some (.int .i64 t466) ∧ w'.cell? ⟨gb478, 3, none⟩ = some (.slice Ao12 t467.length co12) ∧ w'.cell? ⟨gb478, 4, none⟩ = some (.slice Ao13 t470.length co13) ∧ w'.cell? ⟨gb478, 5, none⟩ = some (.slice Ao14 t473.length co14)) (ds := [9]) (bb 10 0) (by kernel_rfl) rfl rfl ⟨(blk_cell BK478.out 0).trans rfl, (blk_cell BK478.out 1).trans rfl, (blk_cell BK478.out 2).trans rfl, (blk_cell BK478.out 3).trans rfl, (blk_cell BK478.out 4).trans rfl, (blk_cell BK478.out 5).trans rfl⟩ (fun hHeld => ?_); refine with_tabW spec_l1Cur_anyModel.tab9 spec_l1Cur_anyModel.bits9 (fun HT_ HW_ => ?_)
       generalize w16.drew = w43 at HO469 HO472 HO475 BK463 BK478 HI0 HK HB hHeld ⊢
       refine pl_ HT_ 0 (some 30) (bb 10 1) (h := ?_)
       refine pl_ HT_ 2 (some 32) (bb 10 5) (h := ?_)
       refine pl_ HT_ 3 (some 33) (bb 10 13) (h := ?_)
       refine pl_ HT_ 5 (some 35) (bb 10 45) (h := ?_)
       refine take_ (i := 1) (N := some 31) (v := ?_) (a' := ?_) (bb 10 47) rfl rfl (take_ofW HT_.out HW_.out (by kernel_rfl)) (fun _ _ _ h => h) (Or.inl ⟨by rfl, ?_⟩) hHeld ?_ ?_
       rotate_left
       ·rintro w' ⟨s0, s1, s2, s3, s4, s5⟩
        go_simp
        with_reducible rfl
       rotate_left
       ·simp only [Act.put, List.setIfInBounds_toArray, List.set_cons_zero, List.set_cons_succ, i64_w, i32_w]
        rfl
       refine join_ (σ := Value) 3 (bb 10 127) (fun s_ => [(34, .int .i64 t498), (36, s_)]) (fun s_ w' => (w'.cell? ⟨gb478, 0, none⟩ = some (.int .i64 t464) ∧ w'.cell? ⟨gb478, 1, none⟩ = some (.int .i64 t465) ∧ w'.cell? ⟨gb478, 2, none⟩ = some (.int .i64 t466) ∧ w'.cell? ⟨gb478, 3, none⟩ = some (.slice Ao12 t467.length co12) ∧ w'.cell? ⟨gb478, 4, none⟩ = some (.slice Ao13 t470.length co13) ∧ w'.cell? ⟨gb478, 5, none⟩ = some (.slice Ao14 t473.length co14)) ∧ (Kd.R (Kd.int .i64) 3 w' w.heap.size (fun k_ => some k_ ≠ (.slice Ao13 t470.length co13 : Value).ownBlock ∧ some k_ ≠ (.slice Ao14 t473.length co14 : Value).ownBlock ∧ some k_ ≠ (s_ : Value).ownBlock) (.slice Ao12 t467.length co12) t467) ∧ (Kd.R (Kd.int .i64) 3 w' w.heap.size (fun k_ => some k_ ≠ (.slice Ao12 t467.length co12 : Value).ownBlock ∧ some k_ ≠ (.slice Ao14 t473.length co14 : Value).ownBlock ∧ some k_ ≠ (s_ : Value).ownBlock) (.slice Ao13 t470.length co13) t470) ∧ (Kd.R (Kd.int .i64) 3 w' w.heap.size (fun k_ => some k_ ≠ (.slice Ao12 t467.length co12 : Value).ownBlock ∧ some k_ ≠ (.slice Ao13 t470.length co13 : Value).ownBlock ∧ some k_ ≠ (s_ : Value).ownBlock) (.slice Ao14 t473.length co14) t473) ∧ (Kd.R (Kd.int .i64) 3 w' w.heap.size (fun k_ => some k_ ≠ (.slice Ao12 t467.length co12 : Value).ownBlock ∧ some k_ ≠ (.slice Ao13 t470.length co13 : Value).ownBlock ∧ some k_ ≠ (.slice Ao14 t473.length co14 : Value).ownBlock) s_ y501) ∧ (w'.heap[gb463]? = some (.cells #[.int .i64 0, .int .i64 0, .int .i64 0, .slice none 0 0, .slice none 0 0, .slice none 0 0] 34 (0, 0))) ∧ (w'.heap[gb478]? = some (.cells #[.int .i64 t464, .int .i64 t465, .int .i64 t466, .slice Ao12 t467.length co12, .slice Ao13 t470.length co13, .slice Ao14 t473.length co14] 34 (0, 0))) ∧ (IsS106 w0 w' g s0_0 t499 t500) ∧ (KeepBut w w' g none) ∧ (Below w0.heap.size w0 w')) ?_ ?_
       rotate_left
       ·intro hCont
        refine two_ (i := 4) (j := 6) (Ni := some 34) (Nj := some 36) (bb 10 63) (bb 10 111) rfl rfl rfl rfl (two_of HT_.out (by kernel_rfl)) (by decide) (by decide) (fun K hK => ?_) (fun K hK => ?_)
        ·skip
         refine goes_ Try.func87 (by kernel_rfl) rfl #[.pointer (some ⟨g, 0, none⟩), .int .i64 t479] (by rfl) rfl rfl (by (try simp only [List.map_toArray, List.map_cons, List.map_nil]); first | done | rfl | (simp only [List.length_drop, List.length_take]; rfl)) ?_
         with_reducible refine (spec_l1Cur_pick.calls g s0_0 t481 t482 t479 t498 t499 t500 w0 _ ?side1 ?side2 A38.out).mono ?_
         (case side1 => exact IsS106.q HI0)
         (case side2 => exact hbI_ HB (IsS106.ge HI0.out))
         rintro e w44 ⟨rfl, hi, hb, hk⟩
         refine ⟨_, rfl, ?_⟩
         have n0_ := Aside0.mk (KeepBut.blk hk (kp_ BK463) NB463_0.out (by simp))
         have n1_ := IsS106.rk HI0 HO469 hk
         have n2_ := IsS106.rk HI0 HO472 hk
         have n3_ := IsS106.rk HI0 HO475 hk
         have n4_ := Aside0.mk (KeepBut.blk hk (kp_ BK478) NB478_0.out (by simp))
         have n5_ := Aside0.mk (KeepBut.trans (hk_ HK) hk (.inl rfl))
         have n6_ := Aside0.mk (hb)
         have n7_ := Aside0.mk (hi)
         clear BK463
         clear HO469
         clear HO472
         clear HO475
         clear BK478
         clear HK
         clear HB
         clear HI0
         have BK463 := n0_
         have HO469 := n1_
         have HO472 := n2_
         have HO475 := n3_
         have BK478 := n4_
         have HK := n5_
         have HB := n6_
         have HI0 := n7_
         clear n0_ n1_ n2_ n3_ n4_ n5_ n6_ n7_
         (try clear hb)
         (try clear hb2)
         (try clear hk)
         (try clear hi)
         refine hK.out _ _ ⟨(blk_cell BK478.out 0).trans rfl, (blk_cell BK478.out 1).trans rfl, (blk_cell BK478.out 2).trans rfl, (blk_cell BK478.out 3).trans rfl, (blk_cell BK478.out 4).trans rfl, (blk_cell BK478.out 5).trans rfl⟩ (fun hHeld => ?_)
         clear hK K
         refine norm_ (a' := ?_) ?_ ?_
         rotate_left
         ·show Act.put _ (some 34) _ = _
          simp only [Act.put, List.setIfInBounds_toArray, List.set_cons_zero, List.set_cons_succ, i64_w, i32_w]
          rfl
         refine one_ (i := 6) (N := some 36) (bb 10 127) rfl rfl (one_of HT_.out (by kernel_rfl)) (by decide) (fun K hK => ?_)
         refine Kd.R_lit_step (Kd.int .i64) _ 3 ?hg (N := 36) ?hd (xs := ([(-1), 1000, 1001] : List Int)) (inner := [.int .i64 (-1), .int .i64 1000, .int .i64 1001]) (ok := fun _ => True) (okp := fun _ => True) ?hr ?hp (fun _ hk => hk) trivial (Below.refl _ _) (Nat.le_refl _) (by simp) ?_; (case hd => rfl); (case hg => rfl); (case hr => first | (go_simp; done) | (go_simp; rfl)); (case hp => exact (Reps.one (show Kd.M (Kd.int .i64) _ _ _ (-1) [.int .i64 (-1)] from rfl) (Reps.one (show Kd.M (Kd.int .i64) _ _ _ 1000 [.int .i64 1000] from rfl) (Reps.one (show Kd.M (Kd.int .i64) _ _ _ 1001 [.int .i64 1001] from rfl) (Reps.none _ _)))))
         intro v502 w45 ho46 hb hg_ hnew_
         clear hg_ hnew_
         (first | rw [← Ny501.out] at ho46 | (simp only [Int.reduceToNat] at ho46; rw [← Ny501.out] at ho46))
         have n0_ := Aside0.mk (Kd.R_elder' (Kd.R_p HO469) (Kd.R_base ho46) hb)
         have n1_ := Aside0.mk (Kd.R_elder' (Kd.R_p HO472) (Kd.R_base ho46) hb)
         have n2_ := Aside0.mk (Kd.R_elder' (Kd.R_p HO475) (Kd.R_base ho46) hb)
         have n3_ := Aside0.mk (Kd.R_lower (Kd.R_nw (Kd.R_nw (Kd.R_nw ho46 HO469) HO472) HO475) (keep_size (hk_ HK)))
         have n4_ := Aside0.mk (IsS106.below (IsS106.q HI0) hb)
         have n5_ := Aside0.mk (blk_below (kp_ BK463) hb)
         have n6_ := Aside0.mk (blk_below (kp_ BK478) hb)
         have n7_ := Aside0.mk (KeepBut.trans (hk_ HK) (KeepBut.of_below hb g none) (.inl rfl))
         have n8_ := Aside0.mk (below_step (hbI_ HB (IsS106.ge HI0.out)) hb)
         clear HO469
         clear HO472
         clear HO475
         clear HI0
         clear BK463
         clear BK478
         clear HK
         clear HB
         have HO469 := n0_
         have HO472 := n1_
         have HO475 := n2_
         have HO503 := n3_
         have HI0 := n4_
         have BK463 := n5_
         have BK478 := n6_
         have HK := n7_
         have HB := n8_
         clear n0_ n1_ n2_ n3_ n4_ n5_ n6_ n7_ n8_
         clear hb ho46
         refine hK.out _ _ ⟨(blk_cell BK478.out 0).trans rfl, (blk_cell BK478.out 1).trans rfl, (blk_cell BK478.out 2).trans rfl, (blk_cell BK478.out 3).trans rfl, (blk_cell BK478.out 4).trans rfl, (blk_cell BK478.out 5).trans rfl⟩ (fun hHeld => ?_)
         clear hK K
         refine norm_ (a' := ?_) ?_ ?_
         rotate_left
         ·show Act.put _ (some 36) _ = _
          simp only [Act.put, List.setIfInBounds_toArray, List.set_cons_zero, List.set_cons_succ, i64_w, i32_w]
          rfl
         exact norm_ (by simp only [putAll, Act.put, List.setIfInBounds_toArray, List.set_cons_zero, List.set_cons_succ]) (hCont (v502) _ ⟨hHeld, (Kd.R_pp (Kd.R_mono HO469.out (fun _ hk => ⟨hk.1.1, ⟨hk.1.2, hk.2⟩⟩))), (Kd.R_pp (Kd.R_mono HO472.out (fun _ hk => ⟨hk.1.1, ⟨hk.1.2, hk.2⟩⟩))), (Kd.R_pp (Kd.R_mono HO475.out (fun _ hk => ⟨hk.1.1, ⟨hk.1.2, hk.2⟩⟩))), (Kd.R_pp (Kd.R_mono HO503.out (fun _ hk => ⟨hk.1.1.2, ⟨hk.1.2, hk.2⟩⟩))), (kp_ BK463), (kp_ BK478), (IsS106.q HI0), (hk_ HK), (hbI_ HB (IsS106.ge HI0.out))⟩)
        ·skip
         refine Kd.R_lit_step (Kd.int .i64) _ 3 ?hg (N := 36) ?hd (xs := ([(-1), 1000, 1001] : List Int)) (inner := [.int .i64 (-1), .int .i64 1000, .int .i64 1001]) (ok := fun _ => True) (okp := fun _ => True) ?hr ?hp (fun _ hk => hk) trivial (Below.refl _ _) (Nat.le_refl _) (by simp) ?_; (case hd => rfl); (case hg => rfl); (case hr => first | (go_simp; done) | (go_simp; rfl)); (case hp => exact (Reps.one (show Kd.M (Kd.int .i64) _ _ _ (-1) [.int .i64 (-1)] from rfl) (Reps.one (show Kd.M (Kd.int .i64) _ _ _ 1000 [.int .i64 1000] from rfl) (Reps.one (show Kd.M (Kd.int .i64) _ _ _ 1001 [.int .i64 1001] from rfl) (Reps.none _ _)))))
         intro v502 w44 ho45 hb hg_ hnew_
         clear hg_ hnew_
         (first | rw [← Ny501.out] at ho45 | (simp only [Int.reduceToNat] at ho45; rw [← Ny501.out] at ho45))
         have n0_ := Aside0.mk (Kd.R_elder' (Kd.R_p HO469) (Kd.R_base ho45) hb)
         have n1_ := Aside0.mk (Kd.R_elder' (Kd.R_p HO472) (Kd.R_base ho45) hb)
         have n2_ := Aside0.mk (Kd.R_elder' (Kd.R_p HO475) (Kd.R_base ho45) hb)
         have n3_ := Aside0.mk (Kd.R_lower (Kd.R_nw (Kd.R_nw (Kd.R_nw ho45 HO469) HO472) HO475) (keep_size (hk_ HK)))
         have n4_ := Aside0.mk (IsS106.below (IsS106.q HI0) hb)
         have n5_ := Aside0.mk (blk_below (kp_ BK463) hb)
         have n6_ := Aside0.mk (blk_below (kp_ BK478) hb)
         have n7_ := Aside0.mk (KeepBut.trans (hk_ HK) (KeepBut.of_below hb g none) (.inl rfl))
         have n8_ := Aside0.mk (below_step (hbI_ HB (IsS106.ge HI0.out)) hb)
         clear HO469
         clear HO472
         clear HO475
         clear HI0
         clear BK463
         clear BK478
         clear HK
         clear HB
         have HO469 := n0_
         have HO472 := n1_
         have HO475 := n2_
         have HO503 := n3_
         have HI0 := n4_
         have BK463 := n5_
         have BK478 := n6_
         have HK := n7_
         have HB := n8_
         clear n0_ n1_ n2_ n3_ n4_ n5_ n6_ n7_ n8_
         clear hb ho45
         refine hK.out _ _ ⟨(blk_cell BK478.out 0).trans rfl, (blk_cell BK478.out 1).trans rfl, (blk_cell BK478.out 2).trans rfl, (blk_cell BK478.out 3).trans rfl, (blk_cell BK478.out 4).trans rfl, (blk_cell BK478.out 5).trans rfl⟩ (fun hHeld => ?_)
         clear hK K
         refine norm_ (a' := ?_) ?_ ?_
         rotate_left
         ·show Act.put _ (some 36) _ = _
          simp only [Act.put, List.setIfInBounds_toArray, List.set_cons_zero, List.set_cons_succ, i64_w, i32_w]
          rfl
         refine one_ (i := 4) (N := some 34) (bb 10 127) rfl rfl (one_of HT_.out (by kernel_rfl)) (by decide) (fun K hK => ?_)
         refine goes_ Try.func87 (by kernel_rfl) rfl #[.pointer (some ⟨g, 0, none⟩), .int .i64 t479] (by rfl) rfl rfl (by (try simp only [List.map_toArray, List.map_cons, List.map_nil]); first | done | rfl | (simp only [List.length_drop, List.length_take]; rfl)) ?_
         with_reducible refine (spec_l1Cur_pick.calls g s0_0 t481 t482 t479 t498 t499 t500 w0 _ ?side1 ?side2 A38.out).mono ?_
         (case side1 => exact IsS106.q HI0)
         (case side2 => exact hbI_ HB (IsS106.ge HI0.out))
         rintro e w46 ⟨rfl, hi, hb, hk⟩
         refine ⟨_, rfl, ?_⟩
         have n0_ := Aside0.mk (KeepBut.blk hk (kp_ BK463) NB463_0.out (by simp))
         have n1_ := IsS106.rk HI0 HO469 hk
         have n2_ := IsS106.rk HI0 HO472 hk
         have n3_ := IsS106.rk HI0 HO475 hk
         have n4_ := Aside0.mk (KeepBut.blk hk (kp_ BK478) NB478_0.out (by simp))
         have n5_ := IsS106.rk HI0 HO503 hk
         have n6_ := Aside0.mk (KeepBut.trans (hk_ HK) hk (.inl rfl))
         have n7_ := Aside0.mk (hb)
         have n8_ := Aside0.mk (hi)
         clear BK463
         clear HO469
         clear HO472
         clear HO475
         clear BK478
         clear HO503
         clear HK
         clear HB
         clear HI0
         have BK463 := n0_
         have HO469 := n1_
         have HO472 := n2_
         have HO475 := n3_
         have BK478 := n4_
         have HO503 := n5_
         have HK := n6_
         have HB := n7_
         have HI0 := n8_
         clear n0_ n1_ n2_ n3_ n4_ n5_ n6_ n7_ n8_
         (try clear hb)
         (try clear hb2)
         (try clear hk)
         (try clear hi)
         refine hK.out _ _ ⟨(blk_cell BK478.out 0).trans rfl, (blk_cell BK478.out 1).trans rfl, (blk_cell BK478.out 2).trans rfl, (blk_cell BK478.out 3).trans rfl, (blk_cell BK478.out 4).trans rfl, (blk_cell BK478.out 5).trans rfl⟩ (fun hHeld => ?_)
         clear hK K
         refine norm_ (a' := ?_) ?_ ?_
         rotate_left
         ·show Act.put _ (some 34) _ = _
          simp only [Act.put, List.setIfInBounds_toArray, List.set_cons_zero, List.set_cons_succ, i64_w, i32_w]
          rfl
         exact norm_ (by simp only [putAll, Act.put, List.setIfInBounds_toArray, List.set_cons_zero, List.set_cons_succ]) (hCont (v502) _ ⟨hHeld, (Kd.R_pp (Kd.R_mono HO469.out (fun _ hk => ⟨hk.1.1, ⟨hk.1.2, hk.2⟩⟩))), (Kd.R_pp (Kd.R_mono HO472.out (fun _ hk => ⟨hk.1.1, ⟨hk.1.2, hk.2⟩⟩))), (Kd.R_pp (Kd.R_mono HO475.out (fun _ hk => ⟨hk.1.1, ⟨hk.1.2, hk.2⟩⟩))), (Kd.R_pp (Kd.R_mono HO503.out (fun _ hk => ⟨hk.1.1.2, ⟨hk.1.2, hk.2⟩⟩))), (kp_ BK463), (kp_ BK478), (IsS106.q HI0), (hk_ HK), (hbI_ HB (IsS106.ge HI0.out))⟩)
       rintro v502 w47 ⟨hS_, h0_, h1_, h2_, h3_, h4_, h5_, h6_, h7_, h8_⟩
       have n0_ : Aside0 (Kd.R (Kd.int .i64) 3 w47 w.heap.size (fun k_ => some k_ ≠ (.slice Ao13 t470.length co13 : Value).ownBlock ∧ some k_ ≠ (.slice Ao14 t473.length co14 : Value).ownBlock ∧ some k_ ≠ (v502 : Value).ownBlock) (.slice Ao12 t467.length co12) t467) := ⟨h0_⟩
       have n1_ : Aside0 (Kd.R (Kd.int .i64) 3 w47 w.heap.size (fun k_ => some k_ ≠ (.slice Ao12 t467.length co12 : Value).ownBlock ∧ some k_ ≠ (.slice Ao14 t473.length co14 : Value).ownBlock ∧ some k_ ≠ (v502 : Value).ownBlock) (.slice Ao13 t470.length co13) t470) := ⟨h1_⟩
       have n2_ : Aside0 (Kd.R (Kd.int .i64) 3 w47 w.heap.size (fun k_ => some k_ ≠ (.slice Ao12 t467.length co12 : Value).ownBlock ∧ some k_ ≠ (.slice Ao13 t470.length co13 : Value).ownBlock ∧ some k_ ≠ (v502 : Value).ownBlock) (.slice Ao14 t473.length co14) t473) := ⟨h2_⟩
       have n3_ : Aside0 (Kd.R (Kd.int .i64) 3 w47 w.heap.size (fun k_ => some k_ ≠ (.slice Ao12 t467.length co12 : Value).ownBlock ∧ some k_ ≠ (.slice Ao13 t470.length co13 : Value).ownBlock ∧ some k_ ≠ (.slice Ao14 t473.length co14 : Value).ownBlock) v502 y501) := ⟨h3_⟩
       have n4_ : Aside0 (w47.heap[gb463]? = some (.cells #[.int .i64 0, .int .i64 0, .int .i64 0, .slice none 0 0, .slice none 0 0, .slice none 0 0] 34 (0, 0))) := ⟨h4_⟩
       have n5_ : Aside0 (w47.heap[gb478]? = some (.cells #[.int .i64 t464, .int .i64 t465, .int .i64 t466, .slice Ao12 t467.length co12, .slice Ao13 t470.length co13, .slice Ao14 t473.length co14] 34 (0, 0))) := ⟨h5_⟩
       have n6_ : Aside0 (IsS106 w0 w47 g s0_0 t499 t500) := ⟨h6_⟩
       have n7_ : Aside0 (KeepBut w w47 g none) := ⟨h7_⟩
       have n8_ : Aside0 (Below w0.heap.size w0 w47) := ⟨h8_⟩
       clear HO469
       clear HO472
       clear HO475
       clear BK463
       clear BK478
       clear HI0
       clear HK
       clear HB
       clear h0_ h1_ h2_ h3_ h4_ h5_ h6_ h7_ h8_
       have HO469 := n0_
       have HO472 := n1_
       have HO475 := n2_
       have HO503 := n3_
       have BK463 := n4_
       have BK478 := n5_
       have HI0 := n6_
       have HK := n7_
       have HB := n8_
       clear n0_ n1_ n2_ n3_ n4_ n5_ n6_ n7_ n8_
       have hHeld : w47.cell? ⟨gb478, 0, none⟩ = some (.int .i64 t464) ∧ w47.cell? ⟨gb478, 1, none⟩ = some (.int .i64 t465) ∧ w47.cell? ⟨gb478, 2, none⟩ = some (.int .i64 t466) ∧ w47.cell? ⟨gb478, 3, none⟩ = some (.slice Ao12 t467.length co12) ∧ w47.cell? ⟨gb478, 4, none⟩ = some (.slice Ao13 t470.length co13) ∧ w47.cell? ⟨gb478, 5, none⟩ = some (.slice Ao14 t473.length co14) := hS_
       obtain ⟨Ao48, co48, eo48⟩ := Kd.R_slice HO503.out
       (first | subst eo48 | (injection eo48 with f1_ f2_ f3_; have f4_ := f1_.symm; have f5_ := f3_.symm; clear f1_ f2_ f3_; subst f4_; subst f5_))
       refine norm_ (a' := ?_) ?_ ?_
       rotate_left
       ·simp only [putAll, Act.put, List.setIfInBounds_toArray, List.set_cons_zero, List.set_cons_succ]
        rfl
       refine one_ (i := 7) (N := some 37) (bb 10 255) rfl rfl (one_of HT_.out (by kernel_rfl)) (by decide) (fun K hK => ?_)
       refine goes_ Try.func89 (by kernel_rfl) rfl #[.pointer (some ⟨g, 0, none⟩), .slice Ao48 y501.length co48] (by rfl) rfl rfl (by (try simp only [List.map_toArray, List.map_cons, List.map_nil]); first | done | rfl | (simp only [List.length_drop, List.length_take]; rfl)) ?_
       with_reducible refine (spec_l1Cur_among.calls g s0_0 t499 t500 _ _ y501 t504 t505 t506 w0 _ ?side1 ?side2 ?side3 ?side4 ?side5 A39.out).mono ?_
       (case side1 => exact IsS106.q HI0)
       (case side2 => exact hbI_ HB (IsS106.ge HI0.out))
       (case side3 => exact Kd.C_o HO503)
       (case side4 => exact (Kd.R_reads' HO503.out).2.1)
       (case side5 => exact far_slice (IsS106.own_ne HI0.out HO503.out (by decide)))
       rintro e w49 ⟨rfl, hi, hb, hk⟩
       refine ⟨_, rfl, ?_⟩
       have n0_ := Aside0.mk (KeepBut.blk hk (kp_ BK463) NB463_0.out (by simp))
       have n1_ := IsS106.rk HI0 HO469 hk
       have n2_ := IsS106.rk HI0 HO472 hk
       have n3_ := IsS106.rk HI0 HO475 hk
       have n4_ := Aside0.mk (KeepBut.blk hk (kp_ BK478) NB478_0.out (by simp))
       have n5_ := IsS106.rk HI0 HO503 hk
       have n6_ := Aside0.mk (KeepBut.trans (hk_ HK) hk (.inl rfl))
       have n7_ := Aside0.mk (hb)
       have n8_ := Aside0.mk (hi)
       clear BK463
       clear HO469
       clear HO472
       clear HO475
       clear BK478
       clear HO503
       clear HK
       clear HB
       clear HI0
       have BK463 := n0_
       have HO469 := n1_
       have HO472 := n2_
       have HO475 := n3_
       have BK478 := n4_
       have HO503 := n5_
       have HK := n6_
       have HB := n7_
       have HI0 := n8_
       clear n0_ n1_ n2_ n3_ n4_ n5_ n6_ n7_ n8_
       (try clear hb)
       (try clear hb2)
       (try clear hk)
       (try clear hi)
       have p42 : 0 ≤ (t498 : Int) := of_decide_eq_true (by first | (with_reducible assumption) | assumption)
       have q42 : (t498 : Int) < ((t470.length : Int) : Int) := of_decide_eq_true (by first | (with_reducible assumption) | assumption)
       obtain ⟨go42, co42, eo42, gb42, gl42, cl42, HG42⟩ := Kd.R_form HO472.out (by omega)
       (first | cases eo42 | (injection eo42 with ea_ en_ ec_; (first | subst ea_ | (injection ea_ with ea_; subst ea_)); subst ec_; clear en_))
       have GB42 := Aside0.mk gb42
       have GG42 := Aside0.mk HG42
       clear gb42 gl42 HG42
       obtain ⟨hx42_0, hf42_0⟩ := Kd.R_celln 0 HO472.out (t498 : Int) p42 q42
       replace p42 := eq_true p42
       replace q42 := eq_true q42
       have HN0_go42 := Aside0.mk (show g ≠ go42 from by have h_ := IsS106.own_ne HI0.out HO472.out (by decide); intro e_; exact h_ (by rw [e_]; rfl))
       have HP50 := Kd.R_putn HO472.out (t498 : Int) t504
       rw [← Ny507.out] at HP50
       have HQ50 := Aside0.mk HP50
       clear HP50
       refine hK.out _ _ ⟨(blk_cell BK478.out 0).trans rfl, (blk_cell BK478.out 1).trans rfl, (blk_cell BK478.out 2).trans rfl, (blk_cell BK478.out 3).trans rfl, (blk_cell BK478.out 4).trans rfl, (blk_cell BK478.out 5).trans rfl⟩ (fun hHeld => ?_)
       clear hK K
       refine norm_ (a' := ?_) ?_ ?_
       rotate_left
       ·show Act.put _ (some 37) _ = _
        simp only [Act.put, List.setIfInBounds_toArray, List.set_cons_zero, List.set_cons_succ, i64_w, i32_w]
        rfl
       refine pl_ HT_ 8 (some 38) (bb 10 511) (h := ?_)
       refine last_ (i := 9) (N := none) (bb 10 1023) rfl rfl (one_of HT_.out (by kernel_rfl)) (by decide) (fun K hK => ?_)
       refine skip_ (w1 := ?_) (by rfl) rfl ?_ ?_
       rotate_left
       ·go_simp
        rfl
       refine hK.out _ _ ?_
       clear hK K
       refine done_ (done_of HT_.out (by kernel_rfl)) ?_
       try go_wp2
       go_meet
       case rel => exact ⟨_, (t505), (t506), (t464), (t465), (t466), (t467), (y507), (t473), (.slice Ao12 t467.length co12), (.slice (some ⟨go42, 0, none⟩) t470.length co13), (.slice Ao14 t473.length co14), H', ⟨by first | omega | exact Nat.le_refl _⟩, ⟨Kd.R_pp (Kd.R_mono (Kd.R_far (p := ⟨go42, (t498 : Int).toNat, none⟩) (Kd.R_mono HO469.out (fun k_ hk => (⟨hk, fun e_ => hk.1 (by rw [e_]; rfl)⟩ : _ ∧ k_ ≠ go42))) (fun _ hk => hk.2) (.int .i64 t504)) (fun _ hk => ⟨hk.1.1, hk.1.2.1⟩))⟩, ⟨Kd.R_pp (Kd.R_mono HQ50.out (fun _ hk => ⟨hk.1, hk.2.1⟩))⟩, ⟨Kd.R_pp (Kd.R_mono (Kd.R_far (p := ⟨go42, (t498 : Int).toNat, none⟩) (Kd.R_mono HO475.out (fun k_ hk => (⟨hk, fun e_ => hk.2.1 (by rw [e_]; rfl)⟩ : _ ∧ k_ ≠ go42))) (fun _ hk => hk.2) (.int .i64 t504)) (fun _ hk => ⟨hk.1.1, hk.1.2.1⟩))⟩, ⟨by (with_reducible repeat (first | refine blk_drewN ?_ _ | refine blk_drew ?_ | refine blk_alloc ?_ _)); refine blk_far ?_ (by have h_ := Kd.R_ne HO472.out BK463.out (by decide); intro e_; exact h_ (by rw [e_]; rfl)) _; (with_reducible repeat (first | refine blk_drewN ?_ _ | refine blk_drew ?_ | refine blk_alloc ?_ _)); exact BK463.out⟩, ⟨by (with_reducible repeat (first | refine blk_drewN ?_ _ | refine blk_drew ?_ | refine blk_alloc ?_ _)); refine blk_far ?_ (by have h_ := Kd.R_ne HO472.out BK478.out (by decide); intro e_; exact h_ (by rw [e_]; rfl)) _; (with_reducible repeat (first | refine blk_drewN ?_ _ | refine blk_drew ?_ | refine blk_alloc ?_ _)); exact BK478.out⟩, ⟨IsS106.q HI0⟩, ⟨by repeat (first | (with_reducible first | exact HK.out | apply KeepBut.set_ | apply keep_drewN | apply keep_drew | apply keep_alloc | refine keep_far ?_ GB42.out _ | refine keep_far ?_ GW463.out _ | refine keep_far ?_ GW478.out _) | exact HK.out)⟩, ⟨by repeat (first | (with_reducible first | exact HB.out | apply below_alloc | apply pw_below_drewN | apply below_drew1 | refine below_set ?_ (Nat.le_trans HL.out GB42.out) | refine below_set ?_ (IsS106.ge HI0.out) | refine below_set ?_ GE463.out | refine below_set ?_ GE478.out) | exact HB.out)⟩⟩
      ·rw [if_neg c41] at H
       exact absurd H (by simp)
     ·rw [if_neg c40] at H
      exact absurd H (by simp)
    ·rw [if_neg c37] at H
     have c37b0 : (t480 == 2) = false := beq_eq_false_iff_ne.mpr c37
     have c37b1 : (t480 != 2) = true := bne_iff_ne.mpr c37
     by_cases c51 : t480 = 3
     ·rw [if_pos c51] at H
      have c51b0 : (t480 == 3) = true := beq_iff_eq.mpr c51
      have c51b1 : (t480 != 3) = false := bne_eq_false_iff_eq.mpr c51
      clear c51
      replace H := Option.bind_eq_some_iff.mp H
      obtain ⟨⟨t508, t509, t510⟩, A520, H⟩ := H
      try dsimp only at H
      have A52 := Aside0.mk A520
      clear A520
      obtain ⟨y511, hy511⟩ : ∃ y_ : List Int, y_ = (([(-1), 4, 5] : List Int)) := ⟨_, rfl⟩
      replace H : ((spec_l1Cur_among.f s0_0 t509 t510 y511).bind fun bt514 => (if 0 ≤ t508 then (if t508 < (t473.length : Int) then (spec_l1Cur_anyModel.j0 k s0_0 bt514.2.1 bt514.2.2 t464 t465 t466 t467 t470 (t473.set (t508 : Int).toNat bt514.1)) else (none)) else (none))) = some (r1, r2, r3, r4, r5, r6, r7, r8) := by first | (rw [hy511]; with_reducible exact H) | (have H2_ := (Option.bind_some _ _).symm.trans H; rw [hy511]; with_reducible exact H2_) | (have H2_ := (Option.bind_some _ _).symm.trans H; with_reducible exact H2_) | with_reducible exact H | (rw [hy511]; exact H) | exact H
      have Ny511 := Aside0.mk hy511
      clear hy511
      replace H := Option.bind_eq_some_iff.mp H
      obtain ⟨⟨t514, t515, t516⟩, A530, H⟩ := H
      try dsimp only at H
      have A53 := Aside0.mk A530
      clear A530
      by_cases c54 : 0 ≤ t508
      ·rw [if_pos c54] at H
       have c54b0 : decide (0 ≤ t508) = true := decide_eq_true c54
       clear c54
       by_cases c55 : t508 < (t473.length : Int)
       ·rw [if_pos c55] at H
        have c55b0 : decide (t508 < (t473.length : Int)) = true := decide_eq_true c55
        clear c55
        obtain ⟨y517, hy517⟩ : ∃ y_ : List Int, y_ = (t473.set (t508 : Int).toNat t514) := ⟨_, rfl⟩
        replace H : (spec_l1Cur_anyModel.j0 k s0_0 t515 t516 t464 t465 t466 t467 t470 y517) = some (r1, r2, r3, r4, r5, r6, r7, r8) := by first | (rw [hy517]; with_reducible exact H) | (have H2_ := (Option.bind_some _ _).symm.trans H; rw [hy517]; with_reducible exact H2_) | (have H2_ := (Option.bind_some _ _).symm.trans H; with_reducible exact H2_) | with_reducible exact H | (rw [hy517]; exact H) | exact H
        have Ny517 := Aside0.mk hy517
        clear hy517
        have H' := Aside0.mk H
        clear H
        try go_wp2
        have n0_ := Aside0.mk (Kd.R_drew HO469.out)
        have n1_ := Aside0.mk (Kd.R_drew HO472.out)
        have n2_ := Aside0.mk (Kd.R_drew HO475.out)
        have n3_ := Aside0.mk (blk_drew BK463.out)
        have n4_ := Aside0.mk (blk_drew BK478.out)
        have n5_ := Aside0.mk (IsS106.drew HI0.out)
        have n6_ := Aside0.mk (keep_drew HK.out)
        have n7_ := Aside0.mk (below_drew1 HB.out)
        clear HO469
        clear HO472
        clear HO475
        clear BK463
        clear BK478
        clear HI0
        clear HK
        clear HB
        have HO469 := n0_
        have HO472 := n1_
        have HO475 := n2_
        have BK463 := n3_
        have BK478 := n4_
        have HI0 := n5_
        have HK := n6_
        have HB := n7_
        clear n0_ n1_ n2_ n3_ n4_ n5_ n6_ n7_
        refine start_ (n := 10) (S := fun w' => w'.cell? ⟨gb478, 0, none⟩ = some (.int .i64 t464) ∧ w'.cell? ⟨gb478, 1, none⟩ = some (.int .i64 t465) ∧ w'.cell? ⟨gb478, 2, none⟩ = some (.int .i64 t466) ∧ w'.cell? ⟨gb478, 3, none⟩ = some (.slice Ao12 t467.length co12) ∧ w'.cell? ⟨gb478, 4, none⟩ = some (.slice Ao13 t470.length co13) ∧ w'.cell? ⟨gb478, 5, none⟩ = some (.slice Ao14 t473.length co14)) (ds := [9]) (bb 10 0) (by kernel_rfl) rfl rfl ⟨(blk_cell BK478.out 0).trans rfl, (blk_cell BK478.out 1).trans rfl, (blk_cell BK478.out 2).trans rfl, (blk_cell BK478.out 3).trans rfl, (blk_cell BK478.out 4).trans rfl, (blk_cell BK478.out 5).trans rfl⟩ (fun hHeld => ?_); refine with_tabW spec_l1Cur_anyModel.tab11 spec_l1Cur_anyModel.bits11 (fun HT_ HW_ => ?_)
        generalize w16.drew = w57 at HO469 HO472 HO475 BK463 BK478 HI0 HK HB hHeld ⊢
        refine pl_ HT_ 0 (some 41) (bb 10 1) (h := ?_)
        refine pl_ HT_ 2 (some 43) (bb 10 5) (h := ?_)
        refine pl_ HT_ 3 (some 44) (bb 10 13) (h := ?_)
        refine pl_ HT_ 5 (some 46) (bb 10 45) (h := ?_)
        refine take_ (i := 1) (N := some 42) (v := ?_) (a' := ?_) (bb 10 47) rfl rfl (take_ofW HT_.out HW_.out (by kernel_rfl)) (fun _ _ _ h => h) (Or.inl ⟨by rfl, ?_⟩) hHeld ?_ ?_
        rotate_left
        ·rintro w' ⟨s0, s1, s2, s3, s4, s5⟩
         go_simp
         with_reducible rfl
        rotate_left
        ·simp only [Act.put, List.setIfInBounds_toArray, List.set_cons_zero, List.set_cons_succ, i64_w, i32_w]
         rfl
        refine join_ (σ := Value) 3 (bb 10 127) (fun s_ => [(45, .int .i64 t508), (47, s_)]) (fun s_ w' => (w'.cell? ⟨gb478, 0, none⟩ = some (.int .i64 t464) ∧ w'.cell? ⟨gb478, 1, none⟩ = some (.int .i64 t465) ∧ w'.cell? ⟨gb478, 2, none⟩ = some (.int .i64 t466) ∧ w'.cell? ⟨gb478, 3, none⟩ = some (.slice Ao12 t467.length co12) ∧ w'.cell? ⟨gb478, 4, none⟩ = some (.slice Ao13 t470.length co13) ∧ w'.cell? ⟨gb478, 5, none⟩ = some (.slice Ao14 t473.length co14)) ∧ (Kd.R (Kd.int .i64) 3 w' w.heap.size (fun k_ => some k_ ≠ (.slice Ao13 t470.length co13 : Value).ownBlock ∧ some k_ ≠ (.slice Ao14 t473.length co14 : Value).ownBlock ∧ some k_ ≠ (s_ : Value).ownBlock) (.slice Ao12 t467.length co12) t467) ∧ (Kd.R (Kd.int .i64) 3 w' w.heap.size (fun k_ => some k_ ≠ (.slice Ao12 t467.length co12 : Value).ownBlock ∧ some k_ ≠ (.slice Ao14 t473.length co14 : Value).ownBlock ∧ some k_ ≠ (s_ : Value).ownBlock) (.slice Ao13 t470.length co13) t470) ∧ (Kd.R (Kd.int .i64) 3 w' w.heap.size (fun k_ => some k_ ≠ (.slice Ao12 t467.length co12 : Value).ownBlock ∧ some k_ ≠ (.slice Ao13 t470.length co13 : Value).ownBlock ∧ some k_ ≠ (s_ : Value).ownBlock) (.slice Ao14 t473.length co14) t473) ∧ (Kd.R (Kd.int .i64) 3 w' w.heap.size (fun k_ => some k_ ≠ (.slice Ao12 t467.length co12 : Value).ownBlock ∧ some k_ ≠ (.slice Ao13 t470.length co13 : Value).ownBlock ∧ some k_ ≠ (.slice Ao14 t473.length co14 : Value).ownBlock) s_ y511) ∧ (w'.heap[gb463]? = some (.cells #[.int .i64 0, .int .i64 0, .int .i64 0, .slice none 0 0, .slice none 0 0, .slice none 0 0] 34 (0, 0))) ∧ (w'.heap[gb478]? = some (.cells #[.int .i64 t464, .int .i64 t465, .int .i64 t466, .slice Ao12 t467.length co12, .slice Ao13 t470.length co13, .slice Ao14 t473.length co14] 34 (0, 0))) ∧ (IsS106 w0 w' g s0_0 t509 t510) ∧ (KeepBut w w' g none) ∧ (Below w0.heap.size w0 w')) ?_ ?_
        rotate_left
        ·intro hCont
         refine two_ (i := 4) (j := 6) (Ni := some 45) (Nj := some 47) (bb 10 63) (bb 10 111) rfl rfl rfl rfl (two_of HT_.out (by kernel_rfl)) (by decide) (by decide) (fun K hK => ?_) (fun K hK => ?_)
         ·skip
          refine goes_ Try.func87 (by kernel_rfl) rfl #[.pointer (some ⟨g, 0, none⟩), .int .i64 t479] (by rfl) rfl rfl (by (try simp only [List.map_toArray, List.map_cons, List.map_nil]); first | done | rfl | (simp only [List.length_drop, List.length_take]; rfl)) ?_
          with_reducible refine (spec_l1Cur_pick.calls g s0_0 t481 t482 t479 t508 t509 t510 w0 _ ?side1 ?side2 A52.out).mono ?_
          (case side1 => exact IsS106.q HI0)
          (case side2 => exact hbI_ HB (IsS106.ge HI0.out))
          rintro e w58 ⟨rfl, hi, hb, hk⟩
          refine ⟨_, rfl, ?_⟩
          have n0_ := Aside0.mk (KeepBut.blk hk (kp_ BK463) NB463_0.out (by simp))
          have n1_ := IsS106.rk HI0 HO469 hk
          have n2_ := IsS106.rk HI0 HO472 hk
          have n3_ := IsS106.rk HI0 HO475 hk
          have n4_ := Aside0.mk (KeepBut.blk hk (kp_ BK478) NB478_0.out (by simp))
          have n5_ := Aside0.mk (KeepBut.trans (hk_ HK) hk (.inl rfl))
          have n6_ := Aside0.mk (hb)
          have n7_ := Aside0.mk (hi)
          clear BK463
          clear HO469
          clear HO472
          clear HO475
          clear BK478
          clear HK
          clear HB
          clear HI0
          have BK463 := n0_
          have HO469 := n1_
          have HO472 := n2_
          have HO475 := n3_
          have BK478 := n4_
          have HK := n5_
          have HB := n6_
          have HI0 := n7_
          clear n0_ n1_ n2_ n3_ n4_ n5_ n6_ n7_
          (try clear hb)
          (try clear hb2)
          (try clear hk)
          (try clear hi)
          refine hK.out _ _ ⟨(blk_cell BK478.out 0).trans rfl, (blk_cell BK478.out 1).trans rfl, (blk_cell BK478.out 2).trans rfl, (blk_cell BK478.out 3).trans rfl, (blk_cell BK478.out 4).trans rfl, (blk_cell BK478.out 5).trans rfl⟩ (fun hHeld => ?_)
          clear hK K
          refine norm_ (a' := ?_) ?_ ?_
          rotate_left
          ·show Act.put _ (some 45) _ = _
           simp only [Act.put, List.setIfInBounds_toArray, List.set_cons_zero, List.set_cons_succ, i64_w, i32_w]
           rfl
          refine one_ (i := 6) (N := some 47) (bb 10 127) rfl rfl (one_of HT_.out (by kernel_rfl)) (by decide) (fun K hK => ?_)
          refine Kd.R_lit_step (Kd.int .i64) _ 3 ?hg (N := 47) ?hd (xs := ([(-1), 4, 5] : List Int)) (inner := [.int .i64 (-1), .int .i64 4, .int .i64 5]) (ok := fun _ => True) (okp := fun _ => True) ?hr ?hp (fun _ hk => hk) trivial (Below.refl _ _) (Nat.le_refl _) (by simp) ?_; (case hd => rfl); (case hg => rfl); (case hr => first | (go_simp; done) | (go_simp; rfl)); (case hp => exact (Reps.one (show Kd.M (Kd.int .i64) _ _ _ (-1) [.int .i64 (-1)] from rfl) (Reps.one (show Kd.M (Kd.int .i64) _ _ _ 4 [.int .i64 4] from rfl) (Reps.one (show Kd.M (Kd.int .i64) _ _ _ 5 [.int .i64 5] from rfl) (Reps.none _ _)))))
          intro v512 w59 ho60 hb hg_ hnew_
          clear hg_ hnew_
          (first | rw [← Ny511.out] at ho60 | (simp only [Int.reduceToNat] at ho60; rw [← Ny511.out] at ho60))
          have n0_ := Aside0.mk (Kd.R_elder' (Kd.R_p HO469) (Kd.R_base ho60) hb)
          have n1_ := Aside0.mk (Kd.R_elder' (Kd.R_p HO472) (Kd.R_base ho60) hb)
          have n2_ := Aside0.mk (Kd.R_elder' (Kd.R_p HO475) (Kd.R_base ho60) hb)
          have n3_ := Aside0.mk (Kd.R_lower (Kd.R_nw (Kd.R_nw (Kd.R_nw ho60 HO469) HO472) HO475) (keep_size (hk_ HK)))
          have n4_ := Aside0.mk (IsS106.below (IsS106.q HI0) hb)
          have n5_ := Aside0.mk (blk_below (kp_ BK463) hb)
          have n6_ := Aside0.mk (blk_below (kp_ BK478) hb)
          have n7_ := Aside0.mk (KeepBut.trans (hk_ HK) (KeepBut.of_below hb g none) (.inl rfl))
          have n8_ := Aside0.mk (below_step (hbI_ HB (IsS106.ge HI0.out)) hb)
          clear HO469
          clear HO472
          clear HO475
          clear HI0
          clear BK463
          clear BK478
          clear HK
          clear HB
          have HO469 := n0_
          have HO472 := n1_
          have HO475 := n2_
          have HO513 := n3_
          have HI0 := n4_
          have BK463 := n5_
          have BK478 := n6_
          have HK := n7_
          have HB := n8_
          clear n0_ n1_ n2_ n3_ n4_ n5_ n6_ n7_ n8_
          clear hb ho60
          refine hK.out _ _ ⟨(blk_cell BK478.out 0).trans rfl, (blk_cell BK478.out 1).trans rfl, (blk_cell BK478.out 2).trans rfl, (blk_cell BK478.out 3).trans rfl, (blk_cell BK478.out 4).trans rfl, (blk_cell BK478.out 5).trans rfl⟩ (fun hHeld => ?_)
          clear hK K
          refine norm_ (a' := ?_) ?_ ?_
          rotate_left
          ·show Act.put _ (some 47) _ = _
           simp only [Act.put, List.setIfInBounds_toArray, List.set_cons_zero, List.set_cons_succ, i64_w, i32_w]
           rfl
          exact norm_ (by simp only [putAll, Act.put, List.setIfInBounds_toArray, List.set_cons_zero, List.set_cons_succ]) (hCont (v512) _ ⟨hHeld, (Kd.R_pp (Kd.R_mono HO469.out (fun _ hk => ⟨hk.1.1, ⟨hk.1.2, hk.2⟩⟩))), (Kd.R_pp (Kd.R_mono HO472.out (fun _ hk => ⟨hk.1.1, ⟨hk.1.2, hk.2⟩⟩))), (Kd.R_pp (Kd.R_mono HO475.out (fun _ hk => ⟨hk.1.1, ⟨hk.1.2, hk.2⟩⟩))), (Kd.R_pp (Kd.R_mono HO513.out (fun _ hk => ⟨hk.1.1.2, ⟨hk.1.2, hk.2⟩⟩))), (kp_ BK463), (kp_ BK478), (IsS106.q HI0), (hk_ HK), (hbI_ HB (IsS106.ge HI0.out))⟩)
         ·skip
          refine Kd.R_lit_step (Kd.int .i64) _ 3 ?hg (N := 47) ?hd (xs := ([(-1), 4, 5] : List Int)) (inner := [.int .i64 (-1), .int .i64 4, .int .i64 5]) (ok := fun _ => True) (okp := fun _ => True) ?hr ?hp (fun _ hk => hk) trivial (Below.refl _ _) (Nat.le_refl _) (by simp) ?_; (case hd => rfl); (case hg => rfl); (case hr => first | (go_simp; done) | (go_simp; rfl)); (case hp => exact (Reps.one (show Kd.M (Kd.int .i64) _ _ _ (-1) [.int .i64 (-1)] from rfl) (Reps.one (show Kd.M (Kd.int .i64) _ _ _ 4 [.int .i64 4] from rfl) (Reps.one (show Kd.M (Kd.int .i64) _ _ _ 5 [.int .i64 5] from rfl) (Reps.none _ _)))))
          intro v512 w58 ho59 hb hg_ hnew_
          clear hg_ hnew_
          (first | rw [← Ny511.out] at ho59 | (simp only [Int.reduceToNat] at ho59; rw [← Ny511.out] at ho59))
          have n0_ := Aside0.mk (Kd.R_elder' (Kd.R_p HO469) (Kd.R_base ho59) hb)
          have n1_ := Aside0.mk (Kd.R_elder' (Kd.R_p HO472) (Kd.R_base ho59) hb)
          have n2_ := Aside0.mk (Kd.R_elder' (Kd.R_p HO475) (Kd.R_base ho59) hb)
          have n3_ := Aside0.mk (Kd.R_lower (Kd.R_nw (Kd.R_nw (Kd.R_nw ho59 HO469) HO472) HO475) (keep_size (hk_ HK)))
          have n4_ := Aside0.mk (IsS106.below (IsS106.q HI0) hb)
          have n5_ := Aside0.mk (blk_below (kp_ BK463) hb)
          have n6_ := Aside0.mk (blk_below (kp_ BK478) hb)
          have n7_ := Aside0.mk (KeepBut.trans (hk_ HK) (KeepBut.of_below hb g none) (.inl rfl))
          have n8_ := Aside0.mk (below_step (hbI_ HB (IsS106.ge HI0.out)) hb)
          clear HO469
          clear HO472
          clear HO475
          clear HI0
          clear BK463
          clear BK478
          clear HK
          clear HB
          have HO469 := n0_
          have HO472 := n1_
          have HO475 := n2_
          have HO513 := n3_
          have HI0 := n4_
          have BK463 := n5_
          have BK478 := n6_
          have HK := n7_
          have HB := n8_
          clear n0_ n1_ n2_ n3_ n4_ n5_ n6_ n7_ n8_
          clear hb ho59
          refine hK.out _ _ ⟨(blk_cell BK478.out 0).trans rfl, (blk_cell BK478.out 1).trans rfl, (blk_cell BK478.out 2).trans rfl, (blk_cell BK478.out 3).trans rfl, (blk_cell BK478.out 4).trans rfl, (blk_cell BK478.out 5).trans rfl⟩ (fun hHeld => ?_)
          clear hK K
          refine norm_ (a' := ?_) ?_ ?_
          rotate_left
          ·show Act.put _ (some 47) _ = _
           simp only [Act.put, List.setIfInBounds_toArray, List.set_cons_zero, List.set_cons_succ, i64_w, i32_w]
           rfl
          refine one_ (i := 4) (N := some 45) (bb 10 127) rfl rfl (one_of HT_.out (by kernel_rfl)) (by decide) (fun K hK => ?_)
          refine goes_ Try.func87 (by kernel_rfl) rfl #[.pointer (some ⟨g, 0, none⟩), .int .i64 t479] (by rfl) rfl rfl (by (try simp only [List.map_toArray, List.map_cons, List.map_nil]); first | done | rfl | (simp only [List.length_drop, List.length_take]; rfl)) ?_
          with_reducible refine (spec_l1Cur_pick.calls g s0_0 t481 t482 t479 t508 t509 t510 w0 _ ?side1 ?side2 A52.out).mono ?_
          (case side1 => exact IsS106.q HI0)
          (case side2 => exact hbI_ HB (IsS106.ge HI0.out))
          rintro e w60 ⟨rfl, hi, hb, hk⟩
          refine ⟨_, rfl, ?_⟩
          have n0_ := Aside0.mk (KeepBut.blk hk (kp_ BK463) NB463_0.out (by simp))
          have n1_ := IsS106.rk HI0 HO469 hk
          have n2_ := IsS106.rk HI0 HO472 hk
          have n3_ := IsS106.rk HI0 HO475 hk
          have n4_ := Aside0.mk (KeepBut.blk hk (kp_ BK478) NB478_0.out (by simp))
          have n5_ := IsS106.rk HI0 HO513 hk
          have n6_ := Aside0.mk (KeepBut.trans (hk_ HK) hk (.inl rfl))
          have n7_ := Aside0.mk (hb)
          have n8_ := Aside0.mk (hi)
          clear BK463
          clear HO469
          clear HO472
          clear HO475
          clear BK478
          clear HO513
          clear HK
          clear HB
          clear HI0
          have BK463 := n0_
          have HO469 := n1_
          have HO472 := n2_
          have HO475 := n3_
          have BK478 := n4_
          have HO513 := n5_
          have HK := n6_
          have HB := n7_
          have HI0 := n8_
          clear n0_ n1_ n2_ n3_ n4_ n5_ n6_ n7_ n8_
          (try clear hb)
          (try clear hb2)
          (try clear hk)
          (try clear hi)
          refine hK.out _ _ ⟨(blk_cell BK478.out 0).trans rfl, (blk_cell BK478.out 1).trans rfl, (blk_cell BK478.out 2).trans rfl, (blk_cell BK478.out 3).trans rfl, (blk_cell BK478.out 4).trans rfl, (blk_cell BK478.out 5).trans rfl⟩ (fun hHeld => ?_)
          clear hK K
          refine norm_ (a' := ?_) ?_ ?_
          rotate_left
          ·show Act.put _ (some 45) _ = _
           simp only [Act.put, List.setIfInBounds_toArray, List.set_cons_zero, List.set_cons_succ, i64_w, i32_w]
           rfl
          exact norm_ (by simp only [putAll, Act.put, List.setIfInBounds_toArray, List.set_cons_zero, List.set_cons_succ]) (hCont (v512) _ ⟨hHeld, (Kd.R_pp (Kd.R_mono HO469.out (fun _ hk => ⟨hk.1.1, ⟨hk.1.2, hk.2⟩⟩))), (Kd.R_pp (Kd.R_mono HO472.out (fun _ hk => ⟨hk.1.1, ⟨hk.1.2, hk.2⟩⟩))), (Kd.R_pp (Kd.R_mono HO475.out (fun _ hk => ⟨hk.1.1, ⟨hk.1.2, hk.2⟩⟩))), (Kd.R_pp (Kd.R_mono HO513.out (fun _ hk => ⟨hk.1.1.2, ⟨hk.1.2, hk.2⟩⟩))), (kp_ BK463), (kp_ BK478), (IsS106.q HI0), (hk_ HK), (hbI_ HB (IsS106.ge HI0.out))⟩)
        rintro v512 w61 ⟨hS_, h0_, h1_, h2_, h3_, h4_, h5_, h6_, h7_, h8_⟩
        have n0_ : Aside0 (Kd.R (Kd.int .i64) 3 w61 w.heap.size (fun k_ => some k_ ≠ (.slice Ao13 t470.length co13 : Value).ownBlock ∧ some k_ ≠ (.slice Ao14 t473.length co14 : Value).ownBlock ∧ some k_ ≠ (v512 : Value).ownBlock) (.slice Ao12 t467.length co12) t467) := ⟨h0_⟩
        have n1_ : Aside0 (Kd.R (Kd.int .i64) 3 w61 w.heap.size (fun k_ => some k_ ≠ (.slice Ao12 t467.length co12 : Value).ownBlock ∧ some k_ ≠ (.slice Ao14 t473.length co14 : Value).ownBlock ∧ some k_ ≠ (v512 : Value).ownBlock) (.slice Ao13 t470.length co13) t470) := ⟨h1_⟩
        have n2_ : Aside0 (Kd.R (Kd.int .i64) 3 w61 w.heap.size (fun k_ => some k_ ≠ (.slice Ao12 t467.length co12 : Value).ownBlock ∧ some k_ ≠ (.slice Ao13 t470.length co13 : Value).ownBlock ∧ some k_ ≠ (v512 : Value).ownBlock) (.slice Ao14 t473.length co14) t473) := ⟨h2_⟩
        have n3_ : Aside0 (Kd.R (Kd.int .i64) 3 w61 w.heap.size (fun k_ => some k_ ≠ (.slice Ao12 t467.length co12 : Value).ownBlock ∧ some k_ ≠ (.slice Ao13 t470.length co13 : Value).ownBlock ∧ some k_ ≠ (.slice Ao14 t473.length co14 : Value).ownBlock) v512 y511) := ⟨h3_⟩
        have n4_ : Aside0 (w61.heap[gb463]? = some (.cells #[.int .i64 0, .int .i64 0, .int .i64 0, .slice none 0 0, .slice none 0 0, .slice none 0 0] 34 (0, 0))) := ⟨h4_⟩
        have n5_ : Aside0 (w61.heap[gb478]? = some (.cells #[.int .i64 t464, .int .i64 t465, .int .i64 t466, .slice Ao12 t467.length co12, .slice Ao13 t470.length co13, .slice Ao14 t473.length co14] 34 (0, 0))) := ⟨h5_⟩
        have n6_ : Aside0 (IsS106 w0 w61 g s0_0 t509 t510) := ⟨h6_⟩
        have n7_ : Aside0 (KeepBut w w61 g none) := ⟨h7_⟩
        have n8_ : Aside0 (Below w0.heap.size w0 w61) := ⟨h8_⟩
        clear HO469
        clear HO472
        clear HO475
        clear BK463
        clear BK478
        clear HI0
        clear HK
        clear HB
        clear h0_ h1_ h2_ h3_ h4_ h5_ h6_ h7_ h8_
        have HO469 := n0_
        have HO472 := n1_
        have HO475 := n2_
        have HO513 := n3_
        have BK463 := n4_
        have BK478 := n5_
        have HI0 := n6_
        have HK := n7_
        have HB := n8_
        clear n0_ n1_ n2_ n3_ n4_ n5_ n6_ n7_ n8_
        have hHeld : w61.cell? ⟨gb478, 0, none⟩ = some (.int .i64 t464) ∧ w61.cell? ⟨gb478, 1, none⟩ = some (.int .i64 t465) ∧ w61.cell? ⟨gb478, 2, none⟩ = some (.int .i64 t466) ∧ w61.cell? ⟨gb478, 3, none⟩ = some (.slice Ao12 t467.length co12) ∧ w61.cell? ⟨gb478, 4, none⟩ = some (.slice Ao13 t470.length co13) ∧ w61.cell? ⟨gb478, 5, none⟩ = some (.slice Ao14 t473.length co14) := hS_
        obtain ⟨Ao62, co62, eo62⟩ := Kd.R_slice HO513.out
        (first | subst eo62 | (injection eo62 with f1_ f2_ f3_; have f4_ := f1_.symm; have f5_ := f3_.symm; clear f1_ f2_ f3_; subst f4_; subst f5_))
        refine norm_ (a' := ?_) ?_ ?_
        rotate_left
        ·simp only [putAll, Act.put, List.setIfInBounds_toArray, List.set_cons_zero, List.set_cons_succ]
         rfl
        refine one_ (i := 7) (N := some 48) (bb 10 255) rfl rfl (one_of HT_.out (by kernel_rfl)) (by decide) (fun K hK => ?_)
        refine goes_ Try.func89 (by kernel_rfl) rfl #[.pointer (some ⟨g, 0, none⟩), .slice Ao62 y511.length co62] (by rfl) rfl rfl (by (try simp only [List.map_toArray, List.map_cons, List.map_nil]); first | done | rfl | (simp only [List.length_drop, List.length_take]; rfl)) ?_
        with_reducible refine (spec_l1Cur_among.calls g s0_0 t509 t510 _ _ y511 t514 t515 t516 w0 _ ?side1 ?side2 ?side3 ?side4 ?side5 A53.out).mono ?_
        (case side1 => exact IsS106.q HI0)
        (case side2 => exact hbI_ HB (IsS106.ge HI0.out))
        (case side3 => exact Kd.C_o HO513)
        (case side4 => exact (Kd.R_reads' HO513.out).2.1)
        (case side5 => exact far_slice (IsS106.own_ne HI0.out HO513.out (by decide)))
        rintro e w63 ⟨rfl, hi, hb, hk⟩
        refine ⟨_, rfl, ?_⟩
        have n0_ := Aside0.mk (KeepBut.blk hk (kp_ BK463) NB463_0.out (by simp))
        have n1_ := IsS106.rk HI0 HO469 hk
        have n2_ := IsS106.rk HI0 HO472 hk
        have n3_ := IsS106.rk HI0 HO475 hk
        have n4_ := Aside0.mk (KeepBut.blk hk (kp_ BK478) NB478_0.out (by simp))
        have n5_ := IsS106.rk HI0 HO513 hk
        have n6_ := Aside0.mk (KeepBut.trans (hk_ HK) hk (.inl rfl))
        have n7_ := Aside0.mk (hb)
        have n8_ := Aside0.mk (hi)
        clear BK463
        clear HO469
        clear HO472
        clear HO475
        clear BK478
        clear HO513
        clear HK
        clear HB
        clear HI0
        have BK463 := n0_
        have HO469 := n1_
        have HO472 := n2_
        have HO475 := n3_
        have BK478 := n4_
        have HO513 := n5_
        have HK := n6_
        have HB := n7_
        have HI0 := n8_
        clear n0_ n1_ n2_ n3_ n4_ n5_ n6_ n7_ n8_
        (try clear hb)
        (try clear hb2)
        (try clear hk)
        (try clear hi)
        have p56 : 0 ≤ (t508 : Int) := of_decide_eq_true (by first | (with_reducible assumption) | assumption)
        have q56 : (t508 : Int) < ((t473.length : Int) : Int) := of_decide_eq_true (by first | (with_reducible assumption) | assumption)
        obtain ⟨go56, co56, eo56, gb56, gl56, cl56, HG56⟩ := Kd.R_form HO475.out (by omega)
        (first | cases eo56 | (injection eo56 with ea_ en_ ec_; (first | subst ea_ | (injection ea_ with ea_; subst ea_)); subst ec_; clear en_))
        have GB56 := Aside0.mk gb56
        have GG56 := Aside0.mk HG56
        clear gb56 gl56 HG56
        obtain ⟨hx56_0, hf56_0⟩ := Kd.R_celln 0 HO475.out (t508 : Int) p56 q56
        replace p56 := eq_true p56
        replace q56 := eq_true q56
        have HN0_go56 := Aside0.mk (show g ≠ go56 from by have h_ := IsS106.own_ne HI0.out HO475.out (by decide); intro e_; exact h_ (by rw [e_]; rfl))
        have HP64 := Kd.R_putn HO475.out (t508 : Int) t514
        rw [← Ny517.out] at HP64
        have HQ64 := Aside0.mk HP64
        clear HP64
        refine hK.out _ _ ⟨(blk_cell BK478.out 0).trans rfl, (blk_cell BK478.out 1).trans rfl, (blk_cell BK478.out 2).trans rfl, (blk_cell BK478.out 3).trans rfl, (blk_cell BK478.out 4).trans rfl, (blk_cell BK478.out 5).trans rfl⟩ (fun hHeld => ?_)
        clear hK K
        refine norm_ (a' := ?_) ?_ ?_
        rotate_left
        ·show Act.put _ (some 48) _ = _
         simp only [Act.put, List.setIfInBounds_toArray, List.set_cons_zero, List.set_cons_succ, i64_w, i32_w]
         rfl
        refine pl_ HT_ 8 (some 49) (bb 10 511) (h := ?_)
        refine last_ (i := 9) (N := none) (bb 10 1023) rfl rfl (one_of HT_.out (by kernel_rfl)) (by decide) (fun K hK => ?_)
        refine skip_ (w1 := ?_) (by rfl) rfl ?_ ?_
        rotate_left
        ·go_simp
         rfl
        refine hK.out _ _ ?_
        clear hK K
        refine done_ (done_of HT_.out (by kernel_rfl)) ?_
        try go_wp2
        go_meet
        case rel => exact ⟨_, (t515), (t516), (t464), (t465), (t466), (t467), (t470), (y517), (.slice Ao12 t467.length co12), (.slice Ao13 t470.length co13), (.slice (some ⟨go56, 0, none⟩) t473.length co14), H', ⟨by first | omega | exact Nat.le_refl _⟩, ⟨Kd.R_pp (Kd.R_mono (Kd.R_far (p := ⟨go56, (t508 : Int).toNat, none⟩) (Kd.R_mono HO469.out (fun k_ hk => (⟨hk, fun e_ => hk.2.1 (by rw [e_]; rfl)⟩ : _ ∧ k_ ≠ go56))) (fun _ hk => hk.2) (.int .i64 t514)) (fun _ hk => ⟨hk.1.1, hk.1.2.1⟩))⟩, ⟨Kd.R_pp (Kd.R_mono (Kd.R_far (p := ⟨go56, (t508 : Int).toNat, none⟩) (Kd.R_mono HO472.out (fun k_ hk => (⟨hk, fun e_ => hk.2.1 (by rw [e_]; rfl)⟩ : _ ∧ k_ ≠ go56))) (fun _ hk => hk.2) (.int .i64 t514)) (fun _ hk => ⟨hk.1.1, hk.1.2.1⟩))⟩, ⟨Kd.R_pp (Kd.R_mono HQ64.out (fun _ hk => ⟨hk.1, hk.2.1⟩))⟩, ⟨by (with_reducible repeat (first | refine blk_drewN ?_ _ | refine blk_drew ?_ | refine blk_alloc ?_ _)); refine blk_far ?_ (by have h_ := Kd.R_ne HO475.out BK463.out (by decide); intro e_; exact h_ (by rw [e_]; rfl)) _; (with_reducible repeat (first | refine blk_drewN ?_ _ | refine blk_drew ?_ | refine blk_alloc ?_ _)); exact BK463.out⟩, ⟨by (with_reducible repeat (first | refine blk_drewN ?_ _ | refine blk_drew ?_ | refine blk_alloc ?_ _)); refine blk_far ?_ (by have h_ := Kd.R_ne HO475.out BK478.out (by decide); intro e_; exact h_ (by rw [e_]; rfl)) _; (with_reducible repeat (first | refine blk_drewN ?_ _ | refine blk_drew ?_ | refine blk_alloc ?_ _)); exact BK478.out⟩, ⟨IsS106.q HI0⟩, ⟨by repeat (first | (with_reducible first | exact HK.out | apply KeepBut.set_ | apply keep_drewN | apply keep_drew | apply keep_alloc | refine keep_far ?_ GB56.out _ | refine keep_far ?_ GW463.out _ | refine keep_far ?_ GW478.out _) | exact HK.out)⟩, ⟨by repeat (first | (with_reducible first | exact HB.out | apply below_alloc | apply pw_below_drewN | apply below_drew1 | refine below_set ?_ (Nat.le_trans HL.out GB56.out) | refine below_set ?_ (IsS106.ge HI0.out) | refine below_set ?_ GE463.out | refine below_set ?_ GE478.out) | exact HB.out)⟩⟩
       ·rw [if_neg c55] at H
        exact absurd H (by simp)
      ·rw [if_neg c54] at H
       exact absurd H (by simp)
     ·rw [if_neg c51] at H
      have c51b0 : (t480 == 3) = false := beq_eq_false_iff_ne.mpr c51
      have c51b1 : (t480 != 3) = true := bne_iff_ne.mpr c51
      by_cases c65 : t480 = 4
      ·rw [if_pos c65] at H
       have c65b0 : (t480 == 4) = true := beq_iff_eq.mpr c65
       have c65b1 : (t480 != 4) = false := bne_eq_false_iff_eq.mpr c65
       clear c65
       by_cases c66 : t473.length < 17592186044416
       ·rw [if_pos c66] at H
        have LMc66 := Aside0.mk c66
        clear c66
        obtain ⟨y518, hy518⟩ : ∃ y_ : List Int, y_ = (t473 ++ [0]) := ⟨_, rfl⟩
        replace H : (spec_l1Cur_anyModel.j0 k s0_0 t481 t482 t464 t465 t466 t467 t470 y518) = some (r1, r2, r3, r4, r5, r6, r7, r8) := by first | (rw [hy518]; with_reducible exact H) | (have H2_ := (Option.bind_some _ _).symm.trans H; rw [hy518]; with_reducible exact H2_) | (have H2_ := (Option.bind_some _ _).symm.trans H; with_reducible exact H2_) | with_reducible exact H | (rw [hy518]; exact H) | exact H
        have Ny518 := Aside0.mk hy518
        clear hy518
        have H' := Aside0.mk H
        clear H
        have hnb67 := NB478_463.out
        have hnc67 := NB463_478.out
        have hnb68 := NB478_0.out
        have hnc68 := NB0_478.out
        have hcz69_0 : w16.cell? ⟨gb478, 0, none⟩ = some (.int .i64 t464) := (blk_cell BK478.out 0).trans rfl
        have hcz69_1 : w16.cell? ⟨gb478, 1, none⟩ = some (.int .i64 t465) := (blk_cell BK478.out 1).trans rfl
        have hcz69_2 : w16.cell? ⟨gb478, 2, none⟩ = some (.int .i64 t466) := (blk_cell BK478.out 2).trans rfl
        have hcz69_3 : w16.cell? ⟨gb478, 3, none⟩ = some (.slice Ao12 t467.length co12) := (blk_cell BK478.out 3).trans rfl
        have hcz69_4 : w16.cell? ⟨gb478, 4, none⟩ = some (.slice Ao13 t470.length co13) := (blk_cell BK478.out 4).trans rfl
        have hcz69_5 : w16.cell? ⟨gb478, 5, none⟩ = some (.slice Ao14 t473.length co14) := (blk_cell BK478.out 5).trans rfl
        have hfz69_0 := blk_frozen BK478.out 0
        have hfz69_1 := blk_frozen BK478.out 1
        have hfz69_2 := blk_frozen BK478.out 2
        have hfz69_3 := blk_frozen BK478.out 3
        have hfz69_4 := blk_frozen BK478.out 4
        have hfz69_5 := blk_frozen BK478.out 5
        go_wp2_with (first | ((with_reducible refine gate_builtin (b := .append) (xs := #[.tmp 53, .tmp 54]) rfl ?_); at_builtin; refine Kd.R_append (Kd.int .i64) w.heap.size rfl (.tmp 53) (.tmp 54) 24 3 (.int .i64 0) 8 rfl Try.underlying24 info3 rfl (by decide) (by omega) (.slice Ao14 t473.length co14) t473 0 [.int .i64 0] (fun k_ => some k_ ≠ (.slice Ao12 t467.length co12 : Value).ownBlock ∧ some k_ ≠ (.slice Ao13 t470.length co13 : Value).ownBlock) (fun _ => False) rfl rfl ?aP (fun _ hk => hk.elim) ?aF ?aO (Below.refl _ _) ?aS ?aL ?_; (case aP => exact rfl); (case aF => exact (fun k_ hk => ⟨Kd.fresh' (Kd.R_lt (Kd.R_p HO469)) k_ hk, Kd.fresh' (Kd.R_lt (Kd.R_p HO472)) k_ hk⟩)); (case aO => exact (Kd.R_p HO475)); (case aS => exact (keep_size (hk_ HK))); (case aL => have := LMc66.out; omega); intro v519 w70 ho hb hg hat; rw [← Ny518.out] at ho; have HO520 := Aside0.mk (ho); replace BK463 := Aside0.mk (blk_grown (kp_ BK463) hg (Kd.R_ne HO475.out BK463.out (by decide))); replace HO469 := Aside0.mk (Kd.R_after (ok := (fun k_ => some k_ ≠ (.slice Ao13 t470.length co13 : Value).ownBlock)) (Kd.R_p HO469) hg hat); replace HO472 := Aside0.mk (Kd.R_after (ok := (fun k_ => some k_ ≠ (.slice Ao12 t467.length co12 : Value).ownBlock)) (Kd.R_p HO472) hg hat); replace BK478 := Aside0.mk (blk_grown (kp_ BK478) hg (Kd.R_ne HO475.out BK478.out (by decide))); replace HB := Aside0.mk (below_weaken (hbI_ HB (IsS106.ge HI0.out)) HL.out hb); replace HK := Aside0.mk (KeepBut.trans (hk_ HK) (KeepBut.of_grown hg g) (Kd.R_base2 HO475.out)); replace HI0 := Aside0.mk (IsS106.grown (IsS106.q HI0) hg (IsS106.own_ne HI0.out HO475.out (by decide))); clear HO475; clear ho hb hg hat; obtain ⟨Ao71, co71, eo71⟩ := Kd.R_slice HO520.out; subst eo71; obtain ⟨hcz72_0, hcz72_1, hcz72_2, hcz72_3, hcz72_4, hcz72_5, hfz72_0, hfz72_1, hfz72_2, hfz72_3, hfz72_4, hfz72_5⟩ := bx6 BK478))
        go_meet
        case rel => exact ⟨_, (t481), (t482), (t464), (t465), (t466), (t467), (t470), (y518), (.slice Ao12 t467.length co12), (.slice Ao13 t470.length co13), (.slice Ao71 y518.length co71), H', ⟨by first | omega | exact Nat.le_refl _⟩, ⟨Kd.R_mono (Kd.R_s HO469 BK478) (fun _ hk => ⟨hk.1, hk.2⟩)⟩, ⟨Kd.R_mono (Kd.R_s HO472 BK478) (fun _ hk => ⟨hk.1, hk.2⟩)⟩, ⟨Kd.R_mono (Kd.R_s HO520 BK478) (fun _ hk => ⟨hk.1, hk.2⟩)⟩, ⟨kf_ BK463 NB463_478⟩, ⟨kpq_ (kputs BK478 [(5, _)])⟩, ⟨IsS106.q HI0⟩, ⟨hk_ HK⟩, ⟨hbI_ HB (IsS106.ge HI0.out)⟩⟩
       ·rw [if_neg c66] at H
        exact absurd H (by simp)
      ·rw [if_neg c65] at H
       have c65b0 : (t480 == 4) = false := beq_eq_false_iff_ne.mpr c65
       have c65b1 : (t480 != 4) = true := bne_iff_ne.mpr c65
       have H' := Aside0.mk H
       clear H
       go_wp2
       go_meet
       case rel => exact ⟨_, (t481), (t482), (t464), (t465), (t466), (t467), (t470), (t473), (.slice Ao12 t467.length co12), (.slice Ao13 t470.length co13), (.slice Ao14 t473.length co14), H', ⟨by first | omega | exact Nat.le_refl _⟩, ⟨Kd.R_p HO469⟩, ⟨Kd.R_p HO472⟩, ⟨Kd.R_p HO475⟩, ⟨kp_ BK463⟩, ⟨kp_ BK478⟩, ⟨IsS106.q HI0⟩, ⟨hk_ HK⟩, ⟨hbI_ HB (IsS106.ge HI0.out)⟩⟩
 case rest =>
  clear HC5
  (try clear p2); (try clear c3); (try clear c4); (try clear p4); (try clear q4); (try clear hx4); (try clear hf4); (try clear c5); (try clear p5); (try clear q5); (try clear hx5); (try clear hf5); (try clear c6); (try clear c8); (try clear c37); (try clear c37b0); (try clear c37b1); (try clear c40); (try clear c41); (try clear p42); (try clear q42); (try clear hx42); (try clear hf42); (try clear c51); (try clear c51b0); (try clear c51b1); (try clear c54); (try clear c54b0); (try clear c55); (try clear c55b0); (try clear p56); (try clear q56); (try clear hx56); (try clear hf56); (try clear c65); (try clear c65b0); (try clear c65b1); (try clear c66); (try clear c67); (try clear c68); (try clear hcz11_0); (try clear hcz11_1); (try clear hcz11_2); (try clear hcz11_3); (try clear hcz11_4); (try clear hcz11_5); (try clear hfz11_0); (try clear hfz11_1); (try clear hfz11_2); (try clear hfz11_3); (try clear hfz11_4); (try clear hfz11_5)
  obtain ⟨kq, x1001_4, x1002_4, x479000_4, x479001_4, x479002_4, x479003_4, x479004_4, x479005_4, u479003, u479004, u479005, HA, HJ4, HO_479003, HO_479004, HO_479005, BK463, BK478, HI0, HK, HB⟩ := hcut
  cases kq with
  | zero => exact absurd HA.out (by simp [spec_l1Cur_anyModel.j0])
  | succ kj4 =>
   have H := HA.out
   clear HA
   simp only [spec_l1Cur_anyModel.j0] at H
   simp only [Option.some.injEq, Prod.mk.injEq] at H
   obtain ⟨rfl, rfl, rfl, rfl, rfl, rfl, rfl, rfl⟩ := H
   have hnb73 := NB478_463.out
   have hnc73 := NB463_478.out
   have hnb74 := NB478_0.out
   have hnc74 := NB0_478.out
   have hcz75_0 : wc.cell? ⟨gb478, 0, none⟩ = some (.int .i64 x479000_4) := (blk_cell BK478.out 0).trans rfl
   have hcz75_1 : wc.cell? ⟨gb478, 1, none⟩ = some (.int .i64 x479001_4) := (blk_cell BK478.out 1).trans rfl
   have hcz75_2 : wc.cell? ⟨gb478, 2, none⟩ = some (.int .i64 x479002_4) := (blk_cell BK478.out 2).trans rfl
   have hcz75_3 : wc.cell? ⟨gb478, 3, none⟩ = some (u479003) := (blk_cell BK478.out 3).trans rfl
   have hcz75_4 : wc.cell? ⟨gb478, 4, none⟩ = some (u479004) := (blk_cell BK478.out 4).trans rfl
   have hcz75_5 : wc.cell? ⟨gb478, 5, none⟩ = some (u479005) := (blk_cell BK478.out 5).trans rfl
   have hfz75_0 := blk_frozen BK478.out 0
   have hfz75_1 := blk_frozen BK478.out 1
   have hfz75_2 := blk_frozen BK478.out 2
   have hfz75_3 := blk_frozen BK478.out 3
   have hfz75_4 := blk_frozen BK478.out 4
   have hfz75_5 := blk_frozen BK478.out 5
   have hnb76 := NB463_0.out
   have hnc76 := NB0_463.out
   have hcz77_0 : wc.cell? ⟨gb463, 0, none⟩ = some (.int .i64 0) := (blk_cell BK463.out 0).trans rfl
   have hcz77_1 : wc.cell? ⟨gb463, 1, none⟩ = some (.int .i64 0) := (blk_cell BK463.out 1).trans rfl
   have hcz77_2 : wc.cell? ⟨gb463, 2, none⟩ = some (.int .i64 0) := (blk_cell BK463.out 2).trans rfl
   have hcz77_3 : wc.cell? ⟨gb463, 3, none⟩ = some (.slice none 0 0) := (blk_cell BK463.out 3).trans rfl
   have hcz77_4 : wc.cell? ⟨gb463, 4, none⟩ = some (.slice none 0 0) := (blk_cell BK463.out 4).trans rfl
   have hcz77_5 : wc.cell? ⟨gb463, 5, none⟩ = some (.slice none 0 0) := (blk_cell BK463.out 5).trans rfl
   have hfz77_0 := blk_frozen BK463.out 0
   have hfz77_1 := blk_frozen BK463.out 1
   have hfz77_2 := blk_frozen BK463.out 2
   have hfz77_3 := blk_frozen BK463.out 3
   have hfz77_4 := blk_frozen BK463.out 4
   have hfz77_5 := blk_frozen BK463.out 5
   obtain ⟨Ao78, co78, eo78⟩ := Kd.R_slice HO_479003.out
   subst eo78
   obtain ⟨Ao79, co79, eo79⟩ := Kd.R_slice HO_479004.out
   subst eo79
   obtain ⟨Ao80, co80, eo80⟩ := Kd.R_slice HO_479005.out
   subst eo80
   go_wp2
   refine bodyPost_ret (results_cell_row rfl _ _ gb463 34 #[.int .i64 x479000_4, .int .i64 x479001_4, .int .i64 x479002_4, .slice Ao78 x479003_4.length co78, .slice Ao79 x479004_4.length co79, .slice Ao80 x479005_4.length co80] (0, 0) _ rfl (kpq_ (kputs BK463 [(0, _), (1, _), (2, _), (3, _), (4, _), (5, _)])) Try.underlying34 rfl (by kernel_rfl)) rfl ?_
   exact ⟨_, _, _, by first | rfl | (simp [errW_none, errW_some] <;> rfl) | (simp [*, errW_none, errW_some] <;> rfl), Kd.R_mono (Kd.R_s HO_479003 BK463) (fun _ hk => ⟨hk.1, hk.2⟩), Kd.R_mono (Kd.R_s HO_479004 BK463) (fun _ hk => ⟨hk.1, hk.2⟩), Kd.R_mono (Kd.R_s HO_479005 BK463) (fun _ hk => ⟨hk.1, hk.2⟩), IsS106.q HI0, hbI_ HB (IsS106.ge HI0.out), hk_ HK⟩

end Go.Proofs.Ytceajigggcihnaa.PFnPieces
