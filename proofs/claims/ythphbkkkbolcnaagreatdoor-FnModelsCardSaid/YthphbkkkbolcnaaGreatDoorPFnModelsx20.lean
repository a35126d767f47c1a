-- Laid for this claim by wip/tools/print2.sh, a changed copy of the kit's print (wip/tools/patch_print.py): not by print.sh.
import Derived.Test.YthphbkkkbolcnaaGreatDoorPFnModelsx19
import Derived.Test.YthphbkkkbolcnaaGreatDoorVFnModels
namespace Go.Proofs.YthphbkkkbolcnaaGreatDoor.PFnModels
open Go.RowKit Go.Proofs.YthphbkkkbolcnaaGreatDoorW.PrintWords Go.Proofs.YthphbkkkbolcnaaGreatDoorW.PrintLast Go.Proofs.YthphbkkkbolcnaaGreatDoorW.PrintMore
set_option linter.unusedVariables false
set_option linter.unusedSimpArgs false

/-! ### spec_ParseModel: function 27 -/
mutual
def spec_ParseModel.j0 : Nat → ByteArray → List ByteArray → List ByteArray → Bool → Option (Int × Int × Int × List Int × List Int × List Int × Bool)
 | 0, _, _, _, _ => none
 | k + 1, x0, x4, x5, x24 => if x24 = true then (some (0, 0, 0, ([] : List Int), ([] : List Int), ([] : List Int), false)) else (if 1 < (x5.length : Int) then ((spec_l1Split.f k (rdOf ByteArray.empty x5 1) 120).bind fun t730 => (if (t730.length : Int) = 3 then (if 0 < (t730.length : Int) then ((spec_l1Read.f k (rdOf ByteArray.empty t730 0)).bind fun t734 => (if 1 < (t730.length : Int) then ((spec_l1Read.f k (rdOf ByteArray.empty t730 1)).bind fun t736 => (if 2 < (t730.length : Int) then ((spec_l1Read.f k (rdOf ByteArray.empty t730 2)).bind fun t738 => (if 1 ≤ (x4.length : Int) then ((some (x4.drop 1 : List ByteArray)).bind fun y740 => (spec_ParseModel.l0 k x0 y740 (y740.length : Int) 0 t734 t736 t738 ([] : List Int) ([] : List Int) ([] : List Int))) else (none))) else (none))) else (none))) else (none)) else (some (0, 0, 0, ([] : List Int), ([] : List Int), ([] : List Int), false)))) else (none))
def spec_ParseModel.l0 : Nat → ByteArray → List ByteArray → Int → Int → Int → Int → Int → List Int → List Int → List Int → Option (Int × Int × Int × List Int × List Int × List Int × Bool)
 | 0, _, _, _, _, _, _, _, _, _, _ => none
 | k + 1, x0, x49, x50, x51, x740000, x740001, x740002, x740003, x740004, x740005 => if x51 < x50 then (if 0 ≤ x51 then (if x51 < (x49.length : Int) then ((spec_l1Split.f k (rdOf ByteArray.empty x49 x51) 32).bind fun t745 => (if (t745.length : Int) = 3 then (if 0 < (t745.length : Int) then ((spec_l1Read.f k (rdOf ByteArray.empty t745 0)).bind fun t749 => (if x740003.length < 17592186044416 then (if 1 < (t745.length : Int) then ((spec_l1Read.f k (rdOf ByteArray.empty t745 1)).bind fun t754 => (if x740004.length < 17592186044416 then (if 2 < (t745.length : Int) then ((spec_l1Read.f k (rdOf ByteArray.empty t745 2)).bind fun t759 => (if x740005.length < 17592186044416 then (spec_ParseModel.l0 k x0 x49 x50 (wrap64 (x51 + 1)) x740000 x740001 x740002 (x740003 ++ [t749]) (x740004 ++ [t754]) (x740005 ++ [t759])) else (none))) else (none)) else (none))) else (none)) else (none))) else (none)) else (spec_ParseModel.l0 k x0 x49 x50 (wrap64 (x51 + 1)) x740000 x740001 x740002 x740003 x740004 x740005))) else (none)) else (none)) else ((spec_moGood.f k x740000 x740001 x740002 x740003 x740004 x740005).bind fun t763 => (if t763 = true then ((spec_moText.f k x740000 x740001 x740002 x740003 x740004 x740005).bind fun t764 => (if t764.toList = x0.toList then (some (x740000, x740001, x740002, x740003, x740004, x740005, true)) else (some (0, 0, 0, ([] : List Int), ([] : List Int), ([] : List Int), false)))) else (some (0, 0, 0, ([] : List Int), ([] : List Int), ([] : List Int), false))))
end
def spec_ParseModel.f (k : Nat) (a0 : ByteArray) : Option (Int × Int × Int × List Int × List Int × List Int × Bool) := (spec_l1Split.f k a0 10).bind fun t722 => (if 0 < (t722.length : Int) then ((spec_l1Split.f k (rdOf ByteArray.empty t722 0) 32).bind fun t726 => (if (t722.length : Int) > 122 then (spec_ParseModel.j0 k a0 t722 t726 true) else (spec_ParseModel.j0 k a0 t722 t726 ((t726.length : Int) != 2)))) else (none))
def spec_ParseModel.T8 : Bool × List (List Nat × List Nat) := (true, [([], []), ([0], [0]), ([1], [1]), ([2], [2]), ([], []), ([4], [4]), ([5], [5]), ([6, 3], [6]), ([], []), ([8], [8]), ([9], [9]), ([10, 7], [10]), ([3, 7, 11], [3, 7, 11]), ([12], [12]), ([], []), ([14, 13, 11, 0, 1, 2, 3, 4, 5, 6, 7, 8, 9, 10, 11, 12, 13, 14], [13, 14])])
def spec_ParseModel.B8 : List Nat := [0, 1, 3, 7, 0, 16, 48, 127, 0, 256, 768, 2047, 4095, 8191, 0, 32767]
theorem spec_ParseModel.tab8 : rtab .any (opsOf Tryz.f27 8) = spec_ParseModel.T8 := by kernel_rfl
theorem spec_ParseModel.bits8 : waitsOk spec_ParseModel.T8.2 spec_ParseModel.B8 = true := by kernel_rfl
def spec_ParseModel.T14 : Bool × List (List Nat × List Nat) := (true, [([], []), ([0], [0]), ([], []), ([2], [2]), ([3], [3]), ([4], [4]), ([5], [5]), ([1, 6, 5], [1, 6]), ([0, 1, 2, 3, 4, 5, 6, 7], []), ([8, 7, 7, 0, 1, 2, 3, 4, 5, 6, 7], [7, 8])])
def spec_ParseModel.B14 : List Nat := [0, 1, 0, 4, 12, 28, 60, 127, 255, 511]
theorem spec_ParseModel.tab14 : rtab .any (opsOf Tryz.f27 14) = spec_ParseModel.T14 := by kernel_rfl
theorem spec_ParseModel.bits14 : waitsOk spec_ParseModel.T14.2 spec_ParseModel.B14 = true := by kernel_rfl
def spec_ParseModel.T15 : Bool × List (List Nat × List Nat) := (true, [([], []), ([0], [0]), ([], []), ([2], [2]), ([3], [3]), ([4], [4]), ([5], [5]), ([1, 6, 5], [1, 6]), ([0, 1, 2, 3, 4, 5, 6, 7], []), ([8, 7, 7, 0, 1, 2, 3, 4, 5, 6, 7], [7, 8])])
def spec_ParseModel.B15 : List Nat := [0, 1, 0, 4, 12, 28, 60, 127, 255, 511]
theorem spec_ParseModel.tab15 : rtab .any (opsOf Tryz.f27 15) = spec_ParseModel.T15 := by kernel_rfl
theorem spec_ParseModel.bits15 : waitsOk spec_ParseModel.T15.2 spec_ParseModel.B15 = true := by kernel_rfl
def spec_ParseModel.T16 : Bool × List (List Nat × List Nat) := (true, [([], []), ([0], [0]), ([], []), ([2], [2]), ([3], [3]), ([4], [4]), ([5], [5]), ([1, 6, 5], [1, 6]), ([0, 1, 2, 3, 4, 5, 6, 7], []), ([8, 7, 7, 0, 1, 2, 3, 4, 5, 6, 7], [7, 8])])
def spec_ParseModel.B16 : List Nat := [0, 1, 0, 4, 12, 28, 60, 127, 255, 511]
theorem spec_ParseModel.tab16 : rtab .any (opsOf Tryz.f27 16) = spec_ParseModel.T16 := by kernel_rfl
theorem spec_ParseModel.bits16 : waitsOk spec_ParseModel.T16.2 spec_ParseModel.B16 = true := by kernel_rfl
set_option maxHeartbeats 8000000 in
set_option maxRecDepth 100000 in
theorem spec_ParseModel.calls (k : Nat) (a0 : ByteArray) (r1 : Int) (r2 : Int) (r3 : Int) (r4 : List Int) (r5 : List Int) (r6 : List Int) (r7 : Bool) (w : World) (h : spec_ParseModel.f k a0 = some (r1, r2, r3, r4, r5, r6, r7)) :
  Calls Tryz.prog 27 #[.string a0] w fun e w' => ∃ v3_ v4_ v5_ : Value, e = .returned (.tuple #[.agg #[.int .i64 r1, .int .i64 r2, .int .i64 r3, v3_, v4_, v5_], .bool r7]) ∧ Kd.R (Kd.int .i64) 3 w' w.heap.size (fun k_ => some k_ ≠ (v4_ : Value).ownBlock ∧ some k_ ≠ (v5_ : Value).ownBlock) v3_ r4 ∧ Kd.R (Kd.int .i64) 3 w' w.heap.size (fun k_ => some k_ ≠ (v3_ : Value).ownBlock ∧ some k_ ≠ (v5_ : Value).ownBlock) v4_ r5 ∧ Kd.R (Kd.int .i64) 3 w' w.heap.size (fun k_ => some k_ ≠ (v3_ : Value).ownBlock ∧ some k_ ≠ (v4_ : Value).ownBlock) v5_ r6 ∧ Below w.heap.size w w' := by
 have hu28 := Tryz.underlying28
 have hu25 := Tryz.underlying25
 have HB := am_ (Below.refl w.heap.size w)
 have H := h
 unfold spec_ParseModel.f at H
 clear h
 revert H; refine bn_ ?_; rintro t722 A2 H; try dsimp only at H
 revert H; refine pf_ fun c3 H => ?_
 have c3b0 := decide_eq_true c3
 have c3b1 : decide (0 < t722.length) = true := decide_eq_true (by omega)
 clear c3
 revert H; refine bn_ ?_; rintro t726 A4 H; try dsimp only at H
 have HC5 := am_ H
 clear H
 go_enter Tryz.func27, Tryz.ntmps27
 go_upto_region 3 with (first | ((with_reducible refine gate_dst (N := 2) rfl ?_); (try (refine gate_guard (by rfl) ?_; dsimp only)); refine bv_ 2 (cs := #[.int .i64 0, .int .i64 0, .int .i64 0, .slice none 0 0, .slice none 0 0, .slice none 0 0]) (t := 28) ?_; intro gb721 hg w6 hbox hb; have BK721 := am_ (hbox); have GW721 := gs_ hg HB; have GE721 := gs_ hg HB; replace HB := hbs_ HB hb; clear hb hbox hg) | ((with_reducible refine gk_ 53 ?_); refine gq_ 12 Tryz.func53 #[.string a0, .int .u8 10] ?_; (with_reducible refine (spec_l1Split.calls k a0 10 t722 _ A2.out).mono ?_); rintro e w7 ⟨v723, rfl, ho0, hb⟩; refine ⟨_, rfl, ?_⟩; have HO724 := Kd.R_lo ho0 HB; replace BK721 := kb_ BK721 hb; replace HB := hbs_ HB hb; obtain ⟨Ao8, co8, eo8⟩ := Kd.R_slice HO724.out; subst eo8; have p725 : 0 ≤ (0 : Int) := (by omega); have q725 : 0 < (t722.length : Int) := od_; obtain ⟨ad725, e725, hx725_0⟩ := Kd.at_string (Kd.R_reads' HO724.out).2.2 0 p725 q725; cases e725; have qi725 : (0 < t722.length) = True := eq_true (by omega); (try rw [show ((0 : Int)).toNat = 0 from rfl] at hx725_0); (try rw [Addr.add_zero'] at hx725_0); replace p725 := eq_true p725; replace q725 := eq_true q725) | ((with_reducible refine gk_ 53 ?_); refine gq_ 16 Tryz.func53 #[.string (rdOf ByteArray.empty t722 0), .int .u8 32] ?_; (with_reducible refine (spec_l1Split.calls k (rdOf ByteArray.empty t722 0) 32 t726 _ A4.out).mono ?_); rintro e w9 ⟨v727, rfl, ho0, hb⟩; refine ⟨_, rfl, ?_⟩; have HO728 := Kd.R_lo (Kd.R_nw ho0 HO724) HB; replace HO724 := Kd.R_e HO724 ho0 hb; replace BK721 := kb_ BK721 hb; replace HB := hbs_ HB hb))
 (try simp only [Act.put, List.setIfInBounds_toArray, List.set_cons_zero, List.set_cons_succ])
 go_cut [24] (fun v24 wc => ∃ (kq : Nat) (x24_4 : Bool), v24 = .bool x24_4 ∧ Aside0 (spec_ParseModel.j0 kq a0 t722 t726 x24_4 = some (r1, r2, r3, r4, r5, r6, r7)) ∧ Aside0 (kq ≤ k) ∧ Aside0 (Kd.R Kd.string 9 wc w.heap.size (fun k_ => some k_ ≠ (v727 : Value).ownBlock) (.slice (some ad725) t722.length co8) t722) ∧ Aside0 (Kd.R Kd.string 9 wc w.heap.size (fun k_ => some k_ ≠ ((.slice (some ad725) t722.length co8) : Value).ownBlock) v727 t726) ∧ Aside0 (wc.heap[gb721]? = some (.cells #[.int .i64 0, .int .i64 0, .int .i64 0, (.slice none 0 0), (.slice none 0 0), (.slice none 0 0)] 28 (0, 0))) ∧ Aside0 (Below w.heap.size w wc))
 case first =>
  have H := HC5.out
  clear HC5
  by_cases c10 : (t722.length : Int) > 122
  ·rw [if_pos c10] at H
   have c10b0 : decide (122 < (t722.length : Int)) = true := decide_eq_true c10
   have c10b1 : decide (122 < t722.length) = true := decide_eq_true (by omega)
   clear c10
   (first | rw [c10b0] | (simp only [i64_w, i32_w]; rw [c10b0]) | skip)
   have H' := am_ H
   clear H
   go_wp2
   go_meet
   case rel => exact ⟨_, (true), sr_, H', ⟨by first | omega | exact Nat.le_refl _⟩, ⟨rm_ (h := HO724.out)⟩, ⟨rm_ (h := HO728.out)⟩, ⟨kp_ BK721⟩, ⟨hb_ HB⟩⟩
  rw [if_neg c10] at H
  have c10b0 : decide (122 < (t722.length : Int)) = false := decide_eq_false c10
  have c10b1 : decide (122 < t722.length) = false := decide_eq_false (by omega)
  clear c10
  (first | rw [c10b0] | (simp only [i64_w, i32_w]; rw [c10b0]) | skip)
  have H' := am_ H
  clear H
  obtain ⟨Ao11, co11, eo11⟩ := Kd.R_slice HO728.out
  subst eo11
  go_wp2
  go_meet
  case rel => exact ⟨_, (((t726.length : Int) != 2)), sr_, H', ⟨by first | omega | exact Nat.le_refl _⟩, ⟨rm_ (h := HO724.out)⟩, ⟨rm_ (h := HO728.out)⟩, ⟨kp_ BK721⟩, ⟨hb_ HB⟩⟩
 clear HC5
 obtain ⟨kq, x24_4, rfl, HA, HJ4, HO_4, HO_5, BK721, HB⟩ := hcut
 cases kq with
 | zero => exact absurd HA.out (by simp [spec_ParseModel.j0])
 | succ kj4 => ?_
 have H := HA.out
 clear HA
 simp only [spec_ParseModel.j0] at H
 by_cases c12 : x24_4 = true
 ·subst c12
  rw [if_pos rfl] at H
  simp only [Option.some.injEq, Prod.mk.injEq] at H
  obtain ⟨rfl, rfl, rfl, rfl, rfl, rfl, rfl⟩ := H
  obtain ⟨hcz13_0, hcz13_1, hcz13_2, hcz13_3, hcz13_4, hcz13_5, hfz13_0, hfz13_1, hfz13_2, hfz13_3, hfz13_4, hfz13_5⟩ := bx6 BK721
  go_wp2
  refine bodyPost_ret (results_ct rfl _ _ gb721 28 #[.int .i64 0, .int .i64 0, .int .i64 0, .slice none 0 0, .slice none 0 0, .slice none 0 0] (0, 0) _ rfl (kpq_ (kputs BK721 [(0, _), (1, _), (2, _), (3, _), (4, _), (5, _)])) Tryz.underlying28 rfl (by kernel_rfl)) rfl ?_
  exact ⟨_, _, _, se_, by first | exact Kd.R_nil _ _ _ _ _ | exact Kd.N_nil _ _ _ _ _ | exact Kd.V_nil _ _ _ _ _ | exact Kd.Q_nil _ _ _ _ _ | exact Kd.S_nil _ _ _ _ _, by first | exact Kd.R_nil _ _ _ _ _ | exact Kd.N_nil _ _ _ _ _ | exact Kd.V_nil _ _ _ _ _ | exact Kd.Q_nil _ _ _ _ _ | exact Kd.S_nil _ _ _ _ _, by first | exact Kd.R_nil _ _ _ _ _ | exact Kd.N_nil _ _ _ _ _ | exact Kd.V_nil _ _ _ _ _ | exact Kd.Q_nil _ _ _ _ _ | exact Kd.S_nil _ _ _ _ _, hb_ HB⟩
 replace c12 := Bool.eq_false_iff.mpr c12
 subst c12
 rw [if_neg (show ¬ (false = true) by decide)] at H
 revert H; refine pf_ fun c14 H => ?_
 have c14b0 := decide_eq_true c14
 have c14b1 : decide (1 < t726.length) = true := decide_eq_true (by omega)
 clear c14
 revert H; refine bn_ ?_; rintro t730 A15 H; try dsimp only at H
 by_cases c16 : (t730.length : Int) = 3
 ·rw [if_pos c16] at H
  have c16b0 : ((t730.length : Int) == 3) = true := beq_iff_eq.mpr c16
  have c16b1 : ((t730.length : Int) != 3) = false := bne_eq_false_iff_eq.mpr c16
  clear c16
  revert H; refine pf_ fun c17 H => ?_
  have c17b0 := decide_eq_true c17
  have c17b1 : decide (0 < t730.length) = true := decide_eq_true (by omega)
  clear c17
  revert H; refine bn_ ?_; rintro t734 A18 H; try dsimp only at H
  revert H; refine pf_ fun c19 H => ?_
  have c19b0 := decide_eq_true c19
  have c19b1 : decide (1 < t730.length) = true := decide_eq_true (by omega)
  clear c19
  revert H; refine bn_ ?_; rintro t736 A20 H; try dsimp only at H
  revert H; refine pf_ fun c21 H => ?_
  have c21b0 := decide_eq_true c21
  have c21b1 : decide (2 < t730.length) = true := decide_eq_true (by omega)
  clear c21
  revert H; refine bn_ ?_; rintro t738 A22 H; try dsimp only at H
  revert H; refine pf_ fun c23 H => ?_
  have c23b0 := eq_true c23
  have c23b1 := decide_eq_true c23
  clear c23
  obtain ⟨y740, hy740⟩ : ∃ y_ : List ByteArray, y_ = (t722.drop 1) := ⟨_, rfl⟩
  (try with_reducible replace H := (Option.bind_some _ _).symm.trans H); (try dsimp only at H); (try rw [← hy740] at H)
  have Ny740 := am_ hy740
  clear hy740
  have H' := am_ H
  clear H
  obtain ⟨Ao24, co24, eo24⟩ := Kd.R_slice HO_5.out
  subst eo24
  have p729 : 0 ≤ (1 : Int) := (by omega)
  have q729 : 1 < (t726.length : Int) := od_
  obtain ⟨ad729, e729, hx729_0⟩ := Kd.at_string (Kd.R_reads' HO_5.out).2.2 1 p729 q729
  cases e729
  (try simp only [show (1 : Int).toNat = 1 from rfl, Nat.reduceMul, Nat.reduceEqDiff, Go.Addr.add, ↓reduceIte] at hx729_0)
  have qi729 : (1 < t726.length) = True := eq_true (by omega)
  (try rw [show ((1 : Int)).toNat = 1 from rfl] at hx729_0)
  replace p729 := eq_true p729
  replace q729 := eq_true q729
  try go_wp2_with (first | ((with_reducible refine gk_ 53 ?_); refine gq_ 29 Tryz.func53 #[.string (rdOf ByteArray.empty t726 1), .int .u8 120] ?_; (with_reducible refine (spec_l1Split.calls kj4 (rdOf ByteArray.empty t726 1) 120 t730 _ A15.out).mono ?_); rintro e w25 ⟨v731, rfl, ho0, hb⟩; refine ⟨_, rfl, ?_⟩; have HO732 := Kd.R_lo (Kd.R_nw (Kd.R_nw ho0 HO_4) HO_5) HB; replace HO_4 := Kd.R_e HO_4 ho0 hb; replace HO_5 := Kd.R_e HO_5 ho0 hb; replace BK721 := kb_ BK721 hb; replace HB := hbs_ HB hb; obtain ⟨Ao26, co26, eo26⟩ := Kd.R_slice HO732.out; subst eo26))
  replace HO_4 := am_ (Kd.R_drew HO_4.out)
  replace HO_5 := am_ (Kd.R_drew HO_5.out)
  replace HO732 := am_ (Kd.R_drew HO732.out)
  replace BK721 := am_ (blk_drew BK721.out)
  replace HB := am_ (below_drew1 HB.out)
  have p733 : 0 ≤ (0 : Int) := (by omega)
  have q733 : 0 < (t730.length : Int) := od_
  obtain ⟨ad733, e733, hx733_0⟩ := Kd.at_string (Kd.R_reads' HO732.out).2.2 0 p733 q733
  cases e733
  have qi733 : (0 < t730.length) = True := eq_true (by omega)
  (try rw [show ((0 : Int)).toNat = 0 from rfl] at hx733_0)
  (try rw [Addr.add_zero'] at hx733_0)
  replace p733 := eq_true p733
  replace q733 := eq_true q733
  have p735 : 0 ≤ (1 : Int) := (by omega)
  have q735 : 1 < (t730.length : Int) := od_
  obtain ⟨ad735, e735, hx735_0⟩ := Kd.at_string (Kd.R_reads' HO732.out).2.2 1 p735 q735
  obtain rfl : ad733 = ad735 := (by injection e735)
  (try simp only [show (1 : Int).toNat = 1 from rfl, Nat.reduceMul, Nat.reduceEqDiff, Go.Addr.add, ↓reduceIte] at hx735_0)
  have qi735 : (1 < t730.length) = True := eq_true (by omega)
  (try rw [show ((1 : Int)).toNat = 1 from rfl] at hx735_0)
  replace p735 := eq_true p735
  replace q735 := eq_true q735
  have p737 : 0 ≤ (2 : Int) := (by omega)
  have q737 : 2 < (t730.length : Int) := od_
  obtain ⟨ad737, e737, hx737_0⟩ := Kd.at_string (Kd.R_reads' HO732.out).2.2 2 p737 q737
  obtain rfl : ad733 = ad737 := (by injection e737)
  (try simp only [show (2 : Int).toNat = 2 from rfl, Nat.reduceMul, Nat.reduceEqDiff, Go.Addr.add, ↓reduceIte] at hx737_0)
  have qi737 : (2 < t730.length) = True := eq_true (by omega)
  (try rw [show ((2 : Int)).toNat = 2 from rfl] at hx737_0)
  replace p737 := eq_true p737
  replace q737 := eq_true q737
  refine start_ (n := 16) (S := fun w' => w'.cell? ad733 = some (.string (rdOf ByteArray.empty t730 0)) ∧ w'.cell? ⟨ad733.block, ad733.off + 1, none⟩ = some (.string (rdOf ByteArray.empty t730 1)) ∧ w'.cell? ⟨ad733.block, ad733.off + 2, none⟩ = some (.string (rdOf ByteArray.empty t730 2))) (ds := []) (bb 16 0) (by kernel_rfl) rfl rfl ⟨hx733_0, hx735_0, hx737_0⟩ (fun hHeld => ?_); refine with_tabW spec_ParseModel.tab8 spec_ParseModel.bits8 (fun HT_ HW_ => ?_)
  generalize w25.drew = w27 at HO_4 HO_5 HO732 BK721 HB hx733_0 hx735_0 hx737_0 hHeld ⊢
  refine pm_ HT_ 0 34 16 1 ?_
  refine pm_ HT_ 1 35 16 3 ?_
  refine pm_ HT_ 4 38 16 19 ?_
  refine pm_ HT_ 5 39 16 51 ?_
  refine pm_ HT_ 8 42 16 307 ?_
  refine pm_ HT_ 9 43 16 819 ?_
  refine tk_ HT_ HW_ hHeld 2 (some 36) (bb 16 823) (h := ?_)
  refine tk_ HT_ HW_ hHeld 6 (some 40) (bb 16 887) (h := ?_)
  refine tk_ HT_ HW_ hHeld 10 (some 44) (bb 16 1911) (h := ?_)
  refine join_ (σ := Nat) 1 (bb 16 32767) (fun s_ => [(37, .int .i64 t734), (41, .int .i64 t736), (45, .int .i64 t738), (7, .pointer (some ⟨s_, 0, none⟩)), (46, .agg #[.int .i64 t734, .int .i64 t736, .int .i64 t738]), (47, .agg #[.int .i64 t734, .int .i64 t736, .int .i64 t738, .slice none 0 0, .slice none 0 0, .slice none 0 0])]) (fun s_ w' => (w'.cell? ad733 = some (.string (rdOf ByteArray.empty t730 0)) ∧ w'.cell? ⟨ad733.block, ad733.off + 1, none⟩ = some (.string (rdOf ByteArray.empty t730 1)) ∧ w'.cell? ⟨ad733.block, ad733.off + 2, none⟩ = some (.string (rdOf ByteArray.empty t730 2))) ∧ (Kd.R Kd.string 9 w' w.heap.size (fun k_ => some k_ ≠ (.slice (some ad725) t722.length co8 : Value).ownBlock ∧ some k_ ≠ (.slice (some ad729) t726.length co24 : Value).ownBlock) (.slice (some ad733) t730.length co26) t730) ∧ (Kd.R Kd.string 9 w' w.heap.size (fun k_ => some k_ ≠ (.slice (some ad733) t730.length co26 : Value).ownBlock ∧ some k_ ≠ (.slice (some ad729) t726.length co24 : Value).ownBlock) (.slice (some ad725) t722.length co8) t722) ∧ (Kd.R Kd.string 9 w' w.heap.size (fun k_ => some k_ ≠ (.slice (some ad733) t730.length co26 : Value).ownBlock ∧ some k_ ≠ (.slice (some ad725) t722.length co8 : Value).ownBlock) (.slice (some ad729) t726.length co24) t726) ∧ (w'.heap[gb721]? = some (.cells #[.int .i64 0, .int .i64 0, .int .i64 0, .slice none 0 0, .slice none 0 0, .slice none 0 0] 28 (0, 0))) ∧ (w'.heap[s_]? = some (.cells #[.int .i64 0, .int .i64 0, .int .i64 0, .slice none 0 0, .slice none 0 0, .slice none 0 0] 28 (0, 0))) ∧ (w.heap.size ≤ s_) ∧ (w.heap.size ≤ s_) ∧ (gb721 ≠ s_) ∧ (s_ ≠ gb721) ∧ (Below w.heap.size w w')) ?_ ?_
  rotate_left
  ·intro hCont
   refine two_ (i := 3) (j := 14) (Ni := some 37) (Nj := some 7) (bb 16 1919) (bb 16 18295) rfl rfl rfl rfl (two_of HT_.out (by kernel_rfl)) (by decide) (by decide) (fun K hK => ?_) (fun K hK => ?_)
   ·skip
    refine goes_ Tryz.func54 (by kernel_rfl) rfl #[.string (rdOf ByteArray.empty t730 0)] (by rfl) rfl rfl (by (try simp only [List.map_toArray, List.map_cons, List.map_nil]); first | done | rfl | (simp only [List.length_drop, List.length_take]; rfl)) ?_
    with_reducible refine (spec_l1Read.calls kj4 (rdOf ByteArray.empty t730 0) t734 _ A18.out).mono ?_
    rintro e w' ⟨rfl, ⟨nd, rfl⟩⟩
    refine ⟨_, rfl, ?_⟩
    refine hK.out _ _ ⟨hHeld.1, hHeld.2.1, hHeld.2.2⟩ (fun hHeld => ?_)
    clear hK K
    refine nm_ (some 37) (h := ?_)
    refine two_ (i := 7) (j := 14) (Ni := some 41) (Nj := some 7) (bb 16 2047) (bb 16 18303) rfl rfl rfl rfl (two_of HT_.out (by kernel_rfl)) (by decide) (by decide) (fun K hK => ?_) (fun K hK => ?_)
    ·skip
     refine goes_ Tryz.func54 (by kernel_rfl) rfl #[.string (rdOf ByteArray.empty t730 1)] (by rfl) rfl rfl (by (try simp only [List.map_toArray, List.map_cons, List.map_nil]); first | done | rfl | (simp only [List.length_drop, List.length_take]; rfl)) ?_
     with_reducible refine (spec_l1Read.calls kj4 (rdOf ByteArray.empty t730 1) t736 _ A20.out).mono ?_
     rintro e w' ⟨rfl, ⟨nd, rfl⟩⟩
     refine ⟨_, rfl, ?_⟩
     refine hK.out _ _ ⟨hHeld.1, hHeld.2.1, hHeld.2.2⟩ (fun hHeld => ?_)
     clear hK K
     refine nm_ (some 41) (h := ?_)
     refine two_ (i := 11) (j := 14) (Ni := some 45) (Nj := some 7) (bb 16 4095) (bb 16 18431) rfl rfl rfl rfl (two_of HT_.out (by kernel_rfl)) (by decide) (by decide) (fun K hK => ?_) (fun K hK => ?_)
     ·skip
      refine goes_ Tryz.func54 (by kernel_rfl) rfl #[.string (rdOf ByteArray.empty t730 2)] (by rfl) rfl rfl (by (try simp only [List.map_toArray, List.map_cons, List.map_nil]); first | done | rfl | (simp only [List.length_drop, List.length_take]; rfl)) ?_
      with_reducible refine (spec_l1Read.calls kj4 (rdOf ByteArray.empty t730 2) t738 _ A22.out).mono ?_
      rintro e w' ⟨rfl, ⟨nd, rfl⟩⟩
      refine ⟨_, rfl, ?_⟩
      refine hK.out _ _ ⟨hHeld.1, hHeld.2.1, hHeld.2.2⟩ (fun hHeld => ?_)
      clear hK K
      refine nm_ (some 45) (h := ?_)
      refine pm_ HT_ 12 46 16 8191 ?_
      refine pm_ HT_ 13 47 16 16383 ?_
      refine one_ (i := 14) (N := some 7) (bb 16 32767) rfl rfl (one_of HT_.out (by kernel_rfl)) (by decide) (fun K hK => ?_)
      refine box_step ?hg (N := 7) ?hd (cs := #[.int .i64 0, .int .i64 0, .int .i64 0, .slice none 0 0, .slice none 0 0, .slice none 0 0]) (t := 28) ?hr ?_; (case hd => rfl); (case hg => rfl); (case hr => first | (go_simp; done) | (go_simp; rfl))
      intro gb739 hg w28 hbox hb
      have HS0_ := (hb.cell (World.block_lt_of_cell? _ _ (hHeld.1))).trans (hHeld.1)
      have HS1_ := (hb.cell (World.block_lt_of_cell? _ _ (hHeld.2.1))).trans (hHeld.2.1)
      have HS2_ := (hb.cell (World.block_lt_of_cell? _ _ (hHeld.2.2))).trans (hHeld.2.2)
      have n0_ := am_ (Kd.R_below (Kd.R_p HO_4) hb)
      have n1_ := am_ (Kd.R_below (Kd.R_p HO_5) hb)
      have n2_ := am_ (Kd.R_below (Kd.R_p HO732) hb)
      have n3_ := am_ (blk_below (kp_ BK721) hb)
      have n4_ := am_ (below_step (hb_ HB) hb)
      have n5_ := am_ (hbox)
      have n6_ := am_ ((by rw [hg]; exact (below_size (hb_ HB)) : w.heap.size ≤ gb739))
      have n7_ := am_ ((by rw [hg]; exact (below_size (hb_ HB)) : w.heap.size ≤ gb739))
      have n8_ := am_ ((by rw [hg]; exact Nat.ne_of_lt (blk_lt (kp_ BK721)) : gb721 ≠ gb739))
      have n9_ := am_ ((by rw [hg]; exact Nat.ne_of_gt (blk_lt (kp_ BK721)) : gb739 ≠ gb721))
      clear HO_4
      clear HO_5
      clear HO732
      clear BK721
      clear HB
      have HO_4 := n0_
      have HO_5 := n1_
      have HO732 := n2_
      have BK721 := n3_
      have HB := n4_
      have BK739 := n5_
      have GW739 := n6_
      have GE739 := n7_
      have NB721_739 := n8_
      have NB739_721 := n9_
      clear n0_ n1_ n2_ n3_ n4_ n5_ n6_ n7_ n8_ n9_
      clear hb hbox hg
      refine hK.out _ _ ⟨HS0_, HS1_, HS2_⟩ (fun hHeld => ?_)
      clear hK K
      refine nm_ (some 7) (h := ?_)
      exact norm_ (by simp only [putAll, Act.put, List.setIfInBounds_toArray, List.set_cons_zero, List.set_cons_succ]) (hCont (gb739) _ ⟨hHeld, (rm_ (h := HO732.out)), (rm_ (h := HO_4.out)), (rm_ (h := HO_5.out)), (kp_ BK721), (kp_ BK739), GW739.out, GE739.out, NB721_739.out, NB739_721.out, (hb_ HB)⟩)
     skip
     refine box_step ?hg (N := 7) ?hd (cs := #[.int .i64 0, .int .i64 0, .int .i64 0, .slice none 0 0, .slice none 0 0, .slice none 0 0]) (t := 28) ?hr ?_; (case hd => rfl); (case hg => rfl); (case hr => first | (go_simp; done) | (go_simp; rfl))
     intro gb739 hg w28 hbox hb
     have HS0_ := (hb.cell (World.block_lt_of_cell? _ _ (hHeld.1))).trans (hHeld.1)
     have HS1_ := (hb.cell (World.block_lt_of_cell? _ _ (hHeld.2.1))).trans (hHeld.2.1)
     have HS2_ := (hb.cell (World.block_lt_of_cell? _ _ (hHeld.2.2))).trans (hHeld.2.2)
     have n0_ := am_ (Kd.R_below (Kd.R_p HO_4) hb)
     have n1_ := am_ (Kd.R_below (Kd.R_p HO_5) hb)
     have n2_ := am_ (Kd.R_below (Kd.R_p HO732) hb)
     have n3_ := am_ (blk_below (kp_ BK721) hb)
     have n4_ := am_ (below_step (hb_ HB) hb)
     have n5_ := am_ (hbox)
     have n6_ := am_ ((by rw [hg]; exact (below_size (hb_ HB)) : w.heap.size ≤ gb739))
     have n7_ := am_ ((by rw [hg]; exact (below_size (hb_ HB)) : w.heap.size ≤ gb739))
     have n8_ := am_ ((by rw [hg]; exact Nat.ne_of_lt (blk_lt (kp_ BK721)) : gb721 ≠ gb739))
     have n9_ := am_ ((by rw [hg]; exact Nat.ne_of_gt (blk_lt (kp_ BK721)) : gb739 ≠ gb721))
     clear HO_4
     clear HO_5
     clear HO732
     clear BK721
     clear HB
     have HO_4 := n0_
     have HO_5 := n1_
     have HO732 := n2_
     have BK721 := n3_
     have HB := n4_
     have BK739 := n5_
     have GW739 := n6_
     have GE739 := n7_
     have NB721_739 := n8_
     have NB739_721 := n9_
     clear n0_ n1_ n2_ n3_ n4_ n5_ n6_ n7_ n8_ n9_
     clear hb hbox hg
     refine hK.out _ _ ⟨HS0_, HS1_, HS2_⟩ (fun hHeld => ?_)
     clear hK K
     refine nm_ (some 7) (h := ?_)
     refine one_ (i := 11) (N := some 45) (bb 16 20479) rfl rfl (one_of HT_.out (by kernel_rfl)) (by decide) (fun K hK => ?_)
     refine goes_ Tryz.func54 (by kernel_rfl) rfl #[.string (rdOf ByteArray.empty t730 2)] (by rfl) rfl rfl (by (try simp only [List.map_toArray, List.map_cons, List.map_nil]); first | done | rfl | (simp only [List.length_drop, List.length_take]; rfl)) ?_
     with_reducible refine (spec_l1Read.calls kj4 (rdOf ByteArray.empty t730 2) t738 _ A22.out).mono ?_
     rintro e w' ⟨rfl, ⟨nd, rfl⟩⟩
     refine ⟨_, rfl, ?_⟩
     refine hK.out _ _ ⟨hHeld.1, hHeld.2.1, hHeld.2.2⟩ (fun hHeld => ?_)
     clear hK K
     refine nm_ (some 45) (h := ?_)
     refine pm_ HT_ 12 46 16 24575 ?_
     refine pm_ HT_ 13 47 16 32767 ?_
     exact norm_ (by simp only [putAll, Act.put, List.setIfInBounds_toArray, List.set_cons_zero, List.set_cons_succ]) (hCont (gb739) _ ⟨hHeld, (rm_ (h := HO732.out)), (rm_ (h := HO_4.out)), (rm_ (h := HO_5.out)), (kp_ BK721), (kp_ BK739), GW739.out, GE739.out, NB721_739.out, NB739_721.out, (hb_ HB)⟩)
    skip
    refine box_step ?hg (N := 7) ?hd (cs := #[.int .i64 0, .int .i64 0, .int .i64 0, .slice none 0 0, .slice none 0 0, .slice none 0 0]) (t := 28) ?hr ?_; (case hd => rfl); (case hg => rfl); (case hr => first | (go_simp; done) | (go_simp; rfl))
    intro gb739 hg w28 hbox hb
    have HS0_ := (hb.cell (World.block_lt_of_cell? _ _ (hHeld.1))).trans (hHeld.1)
    have HS1_ := (hb.cell (World.block_lt_of_cell? _ _ (hHeld.2.1))).trans (hHeld.2.1)
    have HS2_ := (hb.cell (World.block_lt_of_cell? _ _ (hHeld.2.2))).trans (hHeld.2.2)
    have n0_ := am_ (Kd.R_below (Kd.R_p HO_4) hb)
    have n1_ := am_ (Kd.R_below (Kd.R_p HO_5) hb)
    have n2_ := am_ (Kd.R_below (Kd.R_p HO732) hb)
    have n3_ := am_ (blk_below (kp_ BK721) hb)
    have n4_ := am_ (below_step (hb_ HB) hb)
    have n5_ := am_ (hbox)
    have n6_ := am_ ((by rw [hg]; exact (below_size (hb_ HB)) : w.heap.size ≤ gb739))
    have n7_ := am_ ((by rw [hg]; exact (below_size (hb_ HB)) : w.heap.size ≤ gb739))
    have n8_ := am_ ((by rw [hg]; exact Nat.ne_of_lt (blk_lt (kp_ BK721)) : gb721 ≠ gb739))
    have n9_ := am_ ((by rw [hg]; exact Nat.ne_of_gt (blk_lt (kp_ BK721)) : gb739 ≠ gb721))
    clear HO_4
    clear HO_5
    clear HO732
    clear BK721
    clear HB
    have HO_4 := n0_
    have HO_5 := n1_
    have HO732 := n2_
    have BK721 := n3_
    have HB := n4_
    have BK739 := n5_
    have GW739 := n6_
    have GE739 := n7_
    have NB721_739 := n8_
    have NB739_721 := n9_
    clear n0_ n1_ n2_ n3_ n4_ n5_ n6_ n7_ n8_ n9_
    clear hb hbox hg
    refine hK.out _ _ ⟨HS0_, HS1_, HS2_⟩ (fun hHeld => ?_)
    clear hK K
    refine nm_ (some 7) (h := ?_)
    refine one_ (i := 7) (N := some 41) (bb 16 18431) rfl rfl (one_of HT_.out (by kernel_rfl)) (by decide) (fun K hK => ?_)
    refine goes_ Tryz.func54 (by kernel_rfl) rfl #[.string (rdOf ByteArray.empty t730 1)] (by rfl) rfl rfl (by (try simp only [List.map_toArray, List.map_cons, List.map_nil]); first | done | rfl | (simp only [List.length_drop, List.length_take]; rfl)) ?_
    with_reducible refine (spec_l1Read.calls kj4 (rdOf ByteArray.empty t730 1) t736 _ A20.out).mono ?_
    rintro e w' ⟨rfl, ⟨nd, rfl⟩⟩
    refine ⟨_, rfl, ?_⟩
    refine hK.out _ _ ⟨hHeld.1, hHeld.2.1, hHeld.2.2⟩ (fun hHeld => ?_)
    clear hK K
    refine nm_ (some 41) (h := ?_)
    refine one_ (i := 11) (N := some 45) (bb 16 20479) rfl rfl (one_of HT_.out (by kernel_rfl)) (by decide) (fun K hK => ?_)
    refine goes_ Tryz.func54 (by kernel_rfl) rfl #[.string (rdOf ByteArray.empty t730 2)] (by rfl) rfl rfl (by (try simp only [List.map_toArray, List.map_cons, List.map_nil]); first | done | rfl | (simp only [List.length_drop, List.length_take]; rfl)) ?_
    with_reducible refine (spec_l1Read.calls kj4 (rdOf ByteArray.empty t730 2) t738 _ A22.out).mono ?_
    rintro e w' ⟨rfl, ⟨nd, rfl⟩⟩
    refine ⟨_, rfl, ?_⟩
    refine hK.out _ _ ⟨hHeld.1, hHeld.2.1, hHeld.2.2⟩ (fun hHeld => ?_)
    clear hK K
    refine nm_ (some 45) (h := ?_)
    refine pm_ HT_ 12 46 16 24575 ?_
    refine pm_ HT_ 13 47 16 32767 ?_
    exact norm_ (by simp only [putAll, Act.put, List.setIfInBounds_toArray, List.set_cons_zero, List.set_cons_succ]) (hCont (gb739) _ ⟨hHeld, (rm_ (h := HO732.out)), (rm_ (h := HO_4.out)), (rm_ (h := HO_5.out)), (kp_ BK721), (kp_ BK739), GW739.out, GE739.out, NB721_739.out, NB739_721.out, (hb_ HB)⟩)
   skip
   refine box_step ?hg (N := 7) ?hd (cs := #[.int .i64 0, .int .i64 0, .int .i64 0, .slice none 0 0, .slice none 0 0, .slice none 0 0]) (t := 28) ?hr ?_; (case hd => rfl); (case hg => rfl); (case hr => first | (go_simp; done) | (go_simp; rfl))
   intro gb739 hg w28 hbox hb
   have HS0_ := (hb.cell (World.block_lt_of_cell? _ _ (hHeld.1))).trans (hHeld.1)
   have HS1_ := (hb.cell (World.block_lt_of_cell? _ _ (hHeld.2.1))).trans (hHeld.2.1)
   have HS2_ := (hb.cell (World.block_lt_of_cell? _ _ (hHeld.2.2))).trans (hHeld.2.2)
   have n0_ := am_ (Kd.R_below (Kd.R_p HO_4) hb)
   have n1_ := am_ (Kd.R_below (Kd.R_p HO_5) hb)
   have n2_ := am_ (Kd.R_below (Kd.R_p HO732) hb)
   have n3_ := am_ (blk_below (kp_ BK721) hb)
   have n4_ := am_ (below_step (hb_ HB) hb)
   have n5_ := am_ (hbox)
   have n6_ := am_ ((by rw [hg]; exact (below_size (hb_ HB)) : w.heap.size ≤ gb739))
   have n7_ := am_ ((by rw [hg]; exact (below_size (hb_ HB)) : w.heap.size ≤ gb739))
   have n8_ := am_ ((by rw [hg]; exact Nat.ne_of_lt (blk_lt (kp_ BK721)) : gb721 ≠ gb739))
   have n9_ := am_ ((by rw [hg]; exact Nat.ne_of_gt (blk_lt (kp_ BK721)) : gb739 ≠ gb721))
   clear HO_4
   clear HO_5
   clear HO732
   clear BK721
   clear HB
   have HO_4 := n0_
   have HO_5 := n1_
   have HO732 := n2_
   have BK721 := n3_
   have HB := n4_
   have BK739 := n5_
   have GW739 := n6_
   have GE739 := n7_
   have NB721_739 := n8_
   have NB739_721 := n9_
   clear n0_ n1_ n2_ n3_ n4_ n5_ n6_ n7_ n8_ n9_
   clear hb hbox hg
   refine hK.out _ _ ⟨HS0_, HS1_, HS2_⟩ (fun hHeld => ?_)
   clear hK K
   refine nm_ (some 7) (h := ?_)
   refine one_ (i := 3) (N := some 37) (bb 16 18303) rfl rfl (one_of HT_.out (by kernel_rfl)) (by decide) (fun K hK => ?_)
   refine goes_ Tryz.func54 (by kernel_rfl) rfl #[.string (rdOf ByteArray.empty t730 0)] (by rfl) rfl rfl (by (try simp only [List.map_toArray, List.map_cons, List.map_nil]); first | done | rfl | (simp only [List.length_drop, List.length_take]; rfl)) ?_
   with_reducible refine (spec_l1Read.calls kj4 (rdOf ByteArray.empty t730 0) t734 _ A18.out).mono ?_
   rintro e w' ⟨rfl, ⟨nd, rfl⟩⟩
   refine ⟨_, rfl, ?_⟩
   refine hK.out _ _ ⟨hHeld.1, hHeld.2.1, hHeld.2.2⟩ (fun hHeld => ?_)
   clear hK K
   refine nm_ (some 37) (h := ?_)
   refine one_ (i := 7) (N := some 41) (bb 16 18431) rfl rfl (one_of HT_.out (by kernel_rfl)) (by decide) (fun K hK => ?_)
   refine goes_ Tryz.func54 (by kernel_rfl) rfl #[.string (rdOf ByteArray.empty t730 1)] (by rfl) rfl rfl (by (try simp only [List.map_toArray, List.map_cons, List.map_nil]); first | done | rfl | (simp only [List.length_drop, List.length_take]; rfl)) ?_
   with_reducible refine (spec_l1Read.calls kj4 (rdOf ByteArray.empty t730 1) t736 _ A20.out).mono ?_
   rintro e w' ⟨rfl, ⟨nd, rfl⟩⟩
   refine ⟨_, rfl, ?_⟩
   refine hK.out _ _ ⟨hHeld.1, hHeld.2.1, hHeld.2.2⟩ (fun hHeld => ?_)
   clear hK K
   refine nm_ (some 41) (h := ?_)
   refine one_ (i := 11) (N := some 45) (bb 16 20479) rfl rfl (one_of HT_.out (by kernel_rfl)) (by decide) (fun K hK => ?_)
   refine goes_ Tryz.func54 (by kernel_rfl) rfl #[.string (rdOf ByteArray.empty t730 2)] (by rfl) rfl rfl (by (try simp only [List.map_toArray, List.map_cons, List.map_nil]); first | done | rfl | (simp only [List.length_drop, List.length_take]; rfl)) ?_
   with_reducible refine (spec_l1Read.calls kj4 (rdOf ByteArray.empty t730 2) t738 _ A22.out).mono ?_
   rintro e w' ⟨rfl, ⟨nd, rfl⟩⟩
   refine ⟨_, rfl, ?_⟩
   refine hK.out _ _ ⟨hHeld.1, hHeld.2.1, hHeld.2.2⟩ (fun hHeld => ?_)
   clear hK K
   refine nm_ (some 45) (h := ?_)
   refine pm_ HT_ 12 46 16 24575 ?_
   refine pm_ HT_ 13 47 16 32767 ?_
   exact norm_ (by simp only [putAll, Act.put, List.setIfInBounds_toArray, List.set_cons_zero, List.set_cons_succ]) (hCont (gb739) _ ⟨hHeld, (rm_ (h := HO732.out)), (rm_ (h := HO_4.out)), (rm_ (h := HO_5.out)), (kp_ BK721), (kp_ BK739), GW739.out, GE739.out, NB721_739.out, NB739_721.out, (hb_ HB)⟩)
  rintro gb739 w29 ⟨hS_, h0_, h1_, h2_, h3_, h4_, h5_, h6_, h7_, h8_, h9_⟩
  have n0_ : Aside0 (Kd.R Kd.string 9 w29 w.heap.size (fun k_ => some k_ ≠ (.slice (some ad725) t722.length co8 : Value).ownBlock ∧ some k_ ≠ (.slice (some ad729) t726.length co24 : Value).ownBlock) (.slice (some ad733) t730.length co26) t730) := ⟨h0_⟩
  have n1_ : Aside0 (Kd.R Kd.string 9 w29 w.heap.size (fun k_ => some k_ ≠ (.slice (some ad733) t730.length co26 : Value).ownBlock ∧ some k_ ≠ (.slice (some ad729) t726.length co24 : Value).ownBlock) (.slice (some ad725) t722.length co8) t722) := ⟨h1_⟩
  have n2_ : Aside0 (Kd.R Kd.string 9 w29 w.heap.size (fun k_ => some k_ ≠ (.slice (some ad733) t730.length co26 : Value).ownBlock ∧ some k_ ≠ (.slice (some ad725) t722.length co8 : Value).ownBlock) (.slice (some ad729) t726.length co24) t726) := ⟨h2_⟩
  have n3_ : Aside0 (w29.heap[gb721]? = some (.cells #[.int .i64 0, .int .i64 0, .int .i64 0, .slice none 0 0, .slice none 0 0, .slice none 0 0] 28 (0, 0))) := ⟨h3_⟩
  have n4_ : Aside0 (w29.heap[gb739]? = some (.cells #[.int .i64 0, .int .i64 0, .int .i64 0, .slice none 0 0, .slice none 0 0, .slice none 0 0] 28 (0, 0))) := ⟨h4_⟩
  have n5_ : Aside0 (w.heap.size ≤ gb739) := ⟨h5_⟩
  have n6_ : Aside0 (w.heap.size ≤ gb739) := ⟨h6_⟩
  have n7_ : Aside0 (gb721 ≠ gb739) := ⟨h7_⟩
  have n8_ : Aside0 (gb739 ≠ gb721) := ⟨h8_⟩
  have n9_ : Aside0 (Below w.heap.size w w29) := ⟨h9_⟩
  clear HO_4
  clear HO_5
  clear HO732
  clear BK721
  clear HB
  clear h0_ h1_ h2_ h3_ h4_ h5_ h6_ h7_ h8_ h9_
  have HO732 := n0_
  have HO_4 := n1_
  have HO_5 := n2_
  have BK721 := n3_
  have BK739 := n4_
  have GW739 := n5_
  have GE739 := n6_
  have NB721_739 := n7_
  have NB739_721 := n8_
  have HB := n9_
  clear n0_ n1_ n2_ n3_ n4_ n5_ n6_ n7_ n8_ n9_
  have hHeld : w29.cell? ad733 = some (.string (rdOf ByteArray.empty t730 0)) ∧ w29.cell? ⟨ad733.block, ad733.off + 1, none⟩ = some (.string (rdOf ByteArray.empty t730 1)) ∧ w29.cell? ⟨ad733.block, ad733.off + 2, none⟩ = some (.string (rdOf ByteArray.empty t730 2)) := hS_
  refine norm_ (a' := ?_) ?_ ?_
  rotate_left
  ·simp only [putAll, Act.put, List.setIfInBounds_toArray, List.set_cons_zero, List.set_cons_succ]
   rfl
  refine one_ (i := 15) (N := none) (bb 16 65535) rfl rfl (one_of HT_.out (by kernel_rfl)) (by decide) (fun K hK => ?_)
  have hs30 : w29.cell? ⟨gb739, 0, none⟩ = some (.int .i64 0) := (blk_cell BK739.out 0).trans rfl
  have hfs30 := blk_frozen BK739.out 0
  have hns30_0 := NB721_739.out
  have hms30_0 := NB739_721.out
  have hs31 : w29.cell? ⟨gb739, 1, none⟩ = some (.int .i64 0) := (blk_cell BK739.out 1).trans rfl
  have hfs31 := blk_frozen BK739.out 1
  have hns31_0 := NB721_739.out
  have hms31_0 := NB739_721.out
  have hs32 : w29.cell? ⟨gb739, 2, none⟩ = some (.int .i64 0) := (blk_cell BK739.out 2).trans rfl
  have hfs32 := blk_frozen BK739.out 2
  have hns32_0 := NB721_739.out
  have hms32_0 := NB739_721.out
  have hs33 : w29.cell? ⟨gb739, 3, none⟩ = some (.slice none 0 0) := (blk_cell BK739.out 3).trans rfl
  have hfs33 := blk_frozen BK739.out 3
  have hns33_0 := NB721_739.out
  have hms33_0 := NB739_721.out
  have hs34 : w29.cell? ⟨gb739, 4, none⟩ = some (.slice none 0 0) := (blk_cell BK739.out 4).trans rfl
  have hfs34 := blk_frozen BK739.out 4
  have hns34_0 := NB721_739.out
  have hms34_0 := NB739_721.out
  have hs35 : w29.cell? ⟨gb739, 5, none⟩ = some (.slice none 0 0) := (blk_cell BK739.out 5).trans rfl
  have hfs35 := blk_frozen BK739.out 5
  have hns35_0 := NB721_739.out
  have hms35_0 := NB739_721.out
  refine skip_ (w1 := ?_) (by rfl) rfl ?_ ?_
  rotate_left
  ·go_simp
   rfl
  refine hK.out _ _ ⟨((cell_far (p := ⟨gb739, _, none⟩) (by first | exact Kd.own_blk (Kd.R_ne HO732.out BK739.out (by decide)) | (rw [add_block]; exact Kd.own_blk (Kd.R_ne HO732.out BK739.out (by decide))) | (show (Addr.add _ _).block ≠ _; rw [add_block]; exact Kd.own_blk (Kd.R_ne HO732.out BK739.out (by decide))) | (dsimp only; exact Kd.own_blk (Kd.R_ne HO732.out BK739.out (by decide)))) _).trans (((cell_far (p := ⟨gb739, _, none⟩) (by first | exact Kd.own_blk (Kd.R_ne HO732.out BK739.out (by decide)) | (rw [add_block]; exact Kd.own_blk (Kd.R_ne HO732.out BK739.out (by decide))) | (show (Addr.add _ _).block ≠ _; rw [add_block]; exact Kd.own_blk (Kd.R_ne HO732.out BK739.out (by decide))) | (dsimp only; exact Kd.own_blk (Kd.R_ne HO732.out BK739.out (by decide)))) _).trans (((cell_far (p := ⟨gb739, _, none⟩) (by first | exact Kd.own_blk (Kd.R_ne HO732.out BK739.out (by decide)) | (rw [add_block]; exact Kd.own_blk (Kd.R_ne HO732.out BK739.out (by decide))) | (show (Addr.add _ _).block ≠ _; rw [add_block]; exact Kd.own_blk (Kd.R_ne HO732.out BK739.out (by decide))) | (dsimp only; exact Kd.own_blk (Kd.R_ne HO732.out BK739.out (by decide)))) _).trans (((cell_far (p := ⟨gb739, _, none⟩) (by first | exact Kd.own_blk (Kd.R_ne HO732.out BK739.out (by decide)) | (rw [add_block]; exact Kd.own_blk (Kd.R_ne HO732.out BK739.out (by decide))) | (show (Addr.add _ _).block ≠ _; rw [add_block]; exact Kd.own_blk (Kd.R_ne HO732.out BK739.out (by decide))) | (dsimp only; exact Kd.own_blk (Kd.R_ne HO732.out BK739.out (by decide)))) _).trans (((cell_far (p := ⟨gb739, _, none⟩) (by first | exact Kd.own_blk (Kd.R_ne HO732.out BK739.out (by decide)) | (rw [add_block]; exact Kd.own_blk (Kd.R_ne HO732.out BK739.out (by decide))) | (show (Addr.add _ _).block ≠ _; rw [add_block]; exact Kd.own_blk (Kd.R_ne HO732.out BK739.out (by decide))) | (dsimp only; exact Kd.own_blk (Kd.R_ne HO732.out BK739.out (by decide)))) _).trans (((cell_far (p := ⟨gb739, _, none⟩) (by first | exact Kd.own_blk (Kd.R_ne HO732.out BK739.out (by decide)) | (rw [add_block]; exact Kd.own_blk (Kd.R_ne HO732.out BK739.out (by decide))) | (show (Addr.add _ _).block ≠ _; rw [add_block]; exact Kd.own_blk (Kd.R_ne HO732.out BK739.out (by decide))) | (dsimp only; exact Kd.own_blk (Kd.R_ne HO732.out BK739.out (by decide)))) _).trans (hHeld.1)))))))))))), ((cell_far (p := ⟨gb739, _, none⟩) (by first | exact Kd.own_blk (Kd.R_ne HO732.out BK739.out (by decide)) | (rw [add_block]; exact Kd.own_blk (Kd.R_ne HO732.out BK739.out (by decide))) | (show (Addr.add _ _).block ≠ _; rw [add_block]; exact Kd.own_blk (Kd.R_ne HO732.out BK739.out (by decide))) | (dsimp only; exact Kd.own_blk (Kd.R_ne HO732.out BK739.out (by decide)))) _).trans (((cell_far (p := ⟨gb739, _, none⟩) (by first | exact Kd.own_blk (Kd.R_ne HO732.out BK739.out (by decide)) | (rw [add_block]; exact Kd.own_blk (Kd.R_ne HO732.out BK739.out (by decide))) | (show (Addr.add _ _).block ≠ _; rw [add_block]; exact Kd.own_blk (Kd.R_ne HO732.out BK739.out (by decide))) | (dsimp only; exact Kd.own_blk (Kd.R_ne HO732.out BK739.out (by decide)))) _).trans (((cell_far (p := ⟨gb739, _, none⟩) (by first | exact Kd.own_blk (Kd.R_ne HO732.out BK739.out (by decide)) | (rw [add_block]; exact Kd.own_blk (Kd.R_ne HO732.out BK739.out (by decide))) | (show (Addr.add _ _).block ≠ _; rw [add_block]; exact Kd.own_blk (Kd.R_ne HO732.out BK739.out (by decide))) | (dsimp only; exact Kd.own_blk (Kd.R_ne HO732.out BK739.out (by decide)))) _).trans (((cell_far (p := ⟨gb739, _, none⟩) (by first | exact Kd.own_blk (Kd.R_ne HO732.out BK739.out (by decide)) | (rw [add_block]; exact Kd.own_blk (Kd.R_ne HO732.out BK739.out (by decide))) | (show (Addr.add _ _).block ≠ _; rw [add_block]; exact Kd.own_blk (Kd.R_ne HO732.out BK739.out (by decide))) | (dsimp only; exact Kd.own_blk (Kd.R_ne HO732.out BK739.out (by decide)))) _).trans (((cell_far (p := ⟨gb739, _, none⟩) (by first | exact Kd.own_blk (Kd.R_ne HO732.out BK739.out (by decide)) | (rw [add_block]; exact Kd.own_blk (Kd.R_ne HO732.out BK739.out (by decide))) | (show (Addr.add _ _).block ≠ _; rw [add_block]; exact Kd.own_blk (Kd.R_ne HO732.out BK739.out (by decide))) | (dsimp only; exact Kd.own_blk (Kd.R_ne HO732.out BK739.out (by decide)))) _).trans (((cell_far (p := ⟨gb739, _, none⟩) (by first | exact Kd.own_blk (Kd.R_ne HO732.out BK739.out (by decide)) | (rw [add_block]; exact Kd.own_blk (Kd.R_ne HO732.out BK739.out (by decide))) | (show (Addr.add _ _).block ≠ _; rw [add_block]; exact Kd.own_blk (Kd.R_ne HO732.out BK739.out (by decide))) | (dsimp only; exact Kd.own_blk (Kd.R_ne HO732.out BK739.out (by decide)))) _).trans (hHeld.2.1)))))))))))), ((cell_far (p := ⟨gb739, _, none⟩) (by first | exact Kd.own_blk (Kd.R_ne HO732.out BK739.out (by decide)) | (rw [add_block]; exact Kd.own_blk (Kd.R_ne HO732.out BK739.out (by decide))) | (show (Addr.add _ _).block ≠ _; rw [add_block]; exact Kd.own_blk (Kd.R_ne HO732.out BK739.out (by decide))) | (dsimp only; exact Kd.own_blk (Kd.R_ne HO732.out BK739.out (by decide)))) _).trans (((cell_far (p := ⟨gb739, _, none⟩) (by first | exact Kd.own_blk (Kd.R_ne HO732.out BK739.out (by decide)) | (rw [add_block]; exact Kd.own_blk (Kd.R_ne HO732.out BK739.out (by decide))) | (show (Addr.add _ _).block ≠ _; rw [add_block]; exact Kd.own_blk (Kd.R_ne HO732.out BK739.out (by decide))) | (dsimp only; exact Kd.own_blk (Kd.R_ne HO732.out BK739.out (by decide)))) _).trans (((cell_far (p := ⟨gb739, _, none⟩) (by first | exact Kd.own_blk (Kd.R_ne HO732.out BK739.out (by decide)) | (rw [add_block]; exact Kd.own_blk (Kd.R_ne HO732.out BK739.out (by decide))) | (show (Addr.add _ _).block ≠ _; rw [add_block]; exact Kd.own_blk (Kd.R_ne HO732.out BK739.out (by decide))) | (dsimp only; exact Kd.own_blk (Kd.R_ne HO732.out BK739.out (by decide)))) _).trans (((cell_far (p := ⟨gb739, _, none⟩) (by first | exact Kd.own_blk (Kd.R_ne HO732.out BK739.out (by decide)) | (rw [add_block]; exact Kd.own_blk (Kd.R_ne HO732.out BK739.out (by decide))) | (show (Addr.add _ _).block ≠ _; rw [add_block]; exact Kd.own_blk (Kd.R_ne HO732.out BK739.out (by decide))) | (dsimp only; exact Kd.own_blk (Kd.R_ne HO732.out BK739.out (by decide)))) _).trans (((cell_far (p := ⟨gb739, _, none⟩) (by first | exact Kd.own_blk (Kd.R_ne HO732.out BK739.out (by decide)) | (rw [add_block]; exact Kd.own_blk (Kd.R_ne HO732.out BK739.out (by decide))) | (show (Addr.add _ _).block ≠ _; rw [add_block]; exact Kd.own_blk (Kd.R_ne HO732.out BK739.out (by decide))) | (dsimp only; exact Kd.own_blk (Kd.R_ne HO732.out BK739.out (by decide)))) _).trans (((cell_far (p := ⟨gb739, _, none⟩) (by first | exact Kd.own_blk (Kd.R_ne HO732.out BK739.out (by decide)) | (rw [add_block]; exact Kd.own_blk (Kd.R_ne HO732.out BK739.out (by decide))) | (show (Addr.add _ _).block ≠ _; rw [add_block]; exact Kd.own_blk (Kd.R_ne HO732.out BK739.out (by decide))) | (dsimp only; exact Kd.own_blk (Kd.R_ne HO732.out BK739.out (by decide)))) _).trans (hHeld.2.2))))))))))))⟩ (fun hHeld => ?_)
  clear hK K
  refine done_ (done_of HT_.out (by kernel_rfl)) ?_
  have n0_ : Aside0 (Kd.R Kd.string 9 ((((((w29.setCell ⟨gb739, 0, none⟩ (.int .i64 t734)).setCell ⟨gb739, 1, none⟩ (.int .i64 t736)).setCell ⟨gb739, 2, none⟩ (.int .i64 t738)).setCell ⟨gb739, 3, none⟩ (.slice none 0 0)).setCell ⟨gb739, 4, none⟩ (.slice none 0 0)).setCell ⟨gb739, 5, none⟩ (.slice none 0 0)) w.heap.size (fun k_ => some k_ ≠ (.slice (some ad729) t726.length co24 : Value).ownBlock ∧ some k_ ≠ (.slice (some ad733) t730.length co26 : Value).ownBlock) (.slice (some ad725) t722.length co8) t722) := ⟨Kd.R_mono (Kd.R_s HO_4 BK739) (fun _ hk => ⟨hk.2, hk.1⟩)⟩
  have n1_ : Aside0 (Kd.R Kd.string 9 ((((((w29.setCell ⟨gb739, 0, none⟩ (.int .i64 t734)).setCell ⟨gb739, 1, none⟩ (.int .i64 t736)).setCell ⟨gb739, 2, none⟩ (.int .i64 t738)).setCell ⟨gb739, 3, none⟩ (.slice none 0 0)).setCell ⟨gb739, 4, none⟩ (.slice none 0 0)).setCell ⟨gb739, 5, none⟩ (.slice none 0 0)) w.heap.size (fun k_ => some k_ ≠ (.slice (some ad725) t722.length co8 : Value).ownBlock ∧ some k_ ≠ (.slice (some ad733) t730.length co26 : Value).ownBlock) (.slice (some ad729) t726.length co24) t726) := ⟨Kd.R_mono (Kd.R_s HO_5 BK739) (fun _ hk => ⟨hk.2, hk.1⟩)⟩
  have n2_ : Aside0 (Kd.R Kd.string 9 ((((((w29.setCell ⟨gb739, 0, none⟩ (.int .i64 t734)).setCell ⟨gb739, 1, none⟩ (.int .i64 t736)).setCell ⟨gb739, 2, none⟩ (.int .i64 t738)).setCell ⟨gb739, 3, none⟩ (.slice none 0 0)).setCell ⟨gb739, 4, none⟩ (.slice none 0 0)).setCell ⟨gb739, 5, none⟩ (.slice none 0 0)) w.heap.size (fun k_ => some k_ ≠ (.slice (some ad725) t722.length co8 : Value).ownBlock ∧ some k_ ≠ (.slice (some ad729) t726.length co24 : Value).ownBlock) (.slice (some ad733) t730.length co26) t730) := ⟨Kd.R_mono (Kd.R_s HO732 BK739) (fun _ hk => ⟨hk.1, hk.2⟩)⟩
  have n3_ : Aside0 (((((((w29.setCell ⟨gb739, 0, none⟩ (.int .i64 t734)).setCell ⟨gb739, 1, none⟩ (.int .i64 t736)).setCell ⟨gb739, 2, none⟩ (.int .i64 t738)).setCell ⟨gb739, 3, none⟩ (.slice none 0 0)).setCell ⟨gb739, 4, none⟩ (.slice none 0 0)).setCell ⟨gb739, 5, none⟩ (.slice none 0 0)).heap[gb721]? = some (.cells #[.int .i64 0, .int .i64 0, .int .i64 0, .slice none 0 0, .slice none 0 0, .slice none 0 0] 28 (0, 0))) := ⟨kf_ BK721 NB721_739⟩
  have n4_ : Aside0 (((((((w29.setCell ⟨gb739, 0, none⟩ (.int .i64 t734)).setCell ⟨gb739, 1, none⟩ (.int .i64 t736)).setCell ⟨gb739, 2, none⟩ (.int .i64 t738)).setCell ⟨gb739, 3, none⟩ (.slice none 0 0)).setCell ⟨gb739, 4, none⟩ (.slice none 0 0)).setCell ⟨gb739, 5, none⟩ (.slice none 0 0)).heap[gb739]? = some (.cells #[.int .i64 t734, .int .i64 t736, .int .i64 t738, .slice none 0 0, .slice none 0 0, .slice none 0 0] 28 (0, 0))) := ⟨kpq_ (kputs BK739 [(0, _), (1, _), (2, _), (3, _), (4, _), (5, _)])⟩
  have n5_ : Aside0 (Below w.heap.size w ((((((w29.setCell ⟨gb739, 0, none⟩ (.int .i64 t734)).setCell ⟨gb739, 1, none⟩ (.int .i64 t736)).setCell ⟨gb739, 2, none⟩ (.int .i64 t738)).setCell ⟨gb739, 3, none⟩ (.slice none 0 0)).setCell ⟨gb739, 4, none⟩ (.slice none 0 0)).setCell ⟨gb739, 5, none⟩ (.slice none 0 0))) := ⟨hb_ HB⟩
  generalize ((((((w29.setCell ⟨gb739, 0, none⟩ (.int .i64 t734)).setCell ⟨gb739, 1, none⟩ (.int .i64 t736)).setCell ⟨gb739, 2, none⟩ (.int .i64 t738)).setCell ⟨gb739, 3, none⟩ (.slice none 0 0)).setCell ⟨gb739, 4, none⟩ (.slice none 0 0)).setCell ⟨gb739, 5, none⟩ (.slice none 0 0)) = w36 at n0_ n1_ n2_ n3_ n4_ n5_ ⊢
  have HO_4 := n0_
  have HO_5 := n1_
  have HO732 := n2_
  have BK721 := n3_
  have BK739 := n4_
  have HB := n5_
  clear n0_ n1_ n2_ n3_ n4_ n5_
  have q37 : (1 : Int) ≤ ((t722.length : Int) : Int) := od_
  obtain ⟨i037, hi037, _, hsz37, _⟩ := info_parts info9
  have hroom37 : t722.length ≤ co8 := (Kd.R_reads' HO_4.out).2.1
  have hC37 : Kd.C Kd.string _ (some ad725) t722.length t722 := (Kd.R_reads' HO_4.out).2.2
  have hcut37 := cut_from (P := Tryz.prog) 58 9 .i64 Tryz.underlying58 hi037 1 hsz37 (some ad725) t722.length co8 1 (by omega) q37
  have hr37 := Kd.C_drop (m := (1 : Int).toNat) (c := co8) hC37 (by omega) hroom37
  obtain ⟨A37, hA37⟩ : ∃ A1, A1 = (if co8 = (1 : Int).toNat then (some ad725) else ((some ad725) : Option Addr).map (·.add ((1 : Int).toNat * 1))) := ⟨_, rfl⟩
  obtain ⟨c37, hc37⟩ : ∃ c1, c1 = co8 - (1 : Int).toNat := ⟨_, rfl⟩
  have hy37 : y740.length = t722.length - (1 : Int).toNat := (by rw [Ny740.out, List.length_drop] <;> omega)
  rw [show (t722).drop (1 : Int).toNat = y740 from Ny740.out.symm] at hr37
  replace hr37 : Kd.C Kd.string _ A37 y740.length y740 := (by rw [hA37]; exact hr37)
  rw [← hy37, ← hA37, ← hc37] at hcut37
  have HR743 := am_ hr37
  have HC743 := am_ (show y740.length ≤ c37 from by rw [hy37, hc37]; exact Nat.sub_le_sub_right hroom37 _)
  clear hr37 hC37 hroom37 hi037 hsz37 hc37
  have KY37 := am_ hy37
  have KA37 := am_ hA37
  clear hy37 hA37
  have KL37 := am_ (show 1 ≤ t722.length from by omega)
  replace q37 := eq_true q37
  try go_wp2
  go_loopg [51] kj4 (fun kq v51 w' => ∃ (x51_2 : Int) (x740003_2 : List Int) (x740004_2 : List Int) (x740005_2 : List Int) (u740003 : Value) (u740004 : Value) (u740005 : Value), v51 = .int .i64 x51_2 ∧ Aside0 (spec_ParseModel.l0 kq a0 y740 (y740.length : Int) x51_2 t734 t736 t738 x740003_2 x740004_2 x740005_2 = some (r1, r2, r3, r4, r5, r6, r7)) ∧ Aside0 (kq ≤ kj4) ∧ Aside0 (Kd.R (Kd.int .i64) 3 w' w.heap.size (fun k_ => some k_ ≠ (u740004 : Value).ownBlock ∧ some k_ ≠ (u740005 : Value).ownBlock) u740003 x740003_2) ∧ Aside0 (Kd.R (Kd.int .i64) 3 w' w.heap.size (fun k_ => some k_ ≠ (u740003 : Value).ownBlock ∧ some k_ ≠ (u740005 : Value).ownBlock) u740004 x740004_2) ∧ Aside0 (Kd.R (Kd.int .i64) 3 w' w.heap.size (fun k_ => some k_ ≠ (u740003 : Value).ownBlock ∧ some k_ ≠ (u740004 : Value).ownBlock) u740005 x740005_2) ∧ Aside0 (w'.heap[gb721]? = some (.cells #[.int .i64 0, .int .i64 0, .int .i64 0, (.slice none 0 0), (.slice none 0 0), (.slice none 0 0)] 28 (0, 0))) ∧ Aside0 (w'.heap[gb739]? = some (.cells #[.int .i64 t734, .int .i64 t736, .int .i64 t738, u740003, u740004, u740005] 28 (0, 0))) ∧ Aside0 (Kd.R Kd.string 9 w' w.heap.size (fun _ => True) (.slice (some ad725) t722.length co8) t722) ∧ Aside0 (Kd.C Kd.string w' A37 y740.length y740) ∧ Aside0 (Below w.heap.size w w'))
  case atStart => exact ⟨(0), (([] : List Int)), (([] : List Int)), (([] : List Int)), (.slice none 0 0), (.slice none 0 0), (.slice none 0 0), sr_, H', ⟨Nat.le_refl _⟩, ⟨by first | exact Kd.R_nil _ _ _ _ _ | exact Kd.N_nil _ _ _ _ _ | exact Kd.V_nil _ _ _ _ _ | exact Kd.Q_nil _ _ _ _ _ | exact Kd.S_nil _ _ _ _ _⟩, ⟨by first | exact Kd.R_nil _ _ _ _ _ | exact Kd.N_nil _ _ _ _ _ | exact Kd.V_nil _ _ _ _ _ | exact Kd.Q_nil _ _ _ _ _ | exact Kd.S_nil _ _ _ _ _⟩, ⟨by first | exact Kd.R_nil _ _ _ _ _ | exact Kd.N_nil _ _ _ _ _ | exact Kd.V_nil _ _ _ _ _ | exact Kd.Q_nil _ _ _ _ _ | exact Kd.S_nil _ _ _ _ _⟩, ⟨kp_ BK721⟩, ⟨kp_ BK739⟩, ⟨Kd.R_mono (Kd.R_p HO_4) (fun _ _ => trivial)⟩, ⟨by repeat (first | (with_reducible exact HR743.out) | (with_reducible refine Kd.C_alloc ?_ _) | (with_reducible refine Kd.C_drewN ?_ _) | (with_reducible refine Kd.C_drew ?_) | exact HR743.out)⟩, ⟨hb_ HB⟩⟩
  clear H'
  obtain ⟨x51_2, x740003_2, x740004_2, x740005_2, u740003, u740004, u740005, rfl, HA, HK2, HO_740003, HO_740004, HO_740005, BK721, BK739, HO_4, HR743, HB⟩ := hrel
  cases gk with
  | zero => exact absurd HA.out (by simp [spec_ParseModel.l0])
  | succ k2 => ?_
  have H := HA.out
  clear HA
  simp only [spec_ParseModel.l0] at H
  by_cases c38 : x51_2 < (y740.length : Int)
  ·rw [if_pos c38] at H
   have c38b0 := decide_eq_true c38
   clear c38
   revert H; refine pd_ fun c39b0 H => ?_
   revert H; refine pd_ fun c40b0 H => ?_
   revert H; refine bn_ ?_; rintro t745 A41 H; try dsimp only at H
   by_cases c42 : (t745.length : Int) = 3
   ·rw [if_pos c42] at H
    have c42b0 : ((t745.length : Int) == 3) = true := beq_iff_eq.mpr c42
    have c42b1 : ((t745.length : Int) != 3) = false := bne_eq_false_iff_eq.mpr c42
    clear c42
    revert H; refine pf_ fun c43 H => ?_
    have c43b0 := decide_eq_true c43
    have c43b1 : decide (0 < t745.length) = true := decide_eq_true (by omega)
    clear c43
    revert H; refine bn_ ?_; rintro t749 A44 H; try dsimp only at H
    revert H; refine pf_ fun c45 H => ?_
    have LMc45 := am_ c45
    clear c45
    obtain ⟨y750, hy750⟩ : ∃ y_ : List Int, y_ = (x740003_2 ++ [t749]) := ⟨_, rfl⟩
    (try with_reducible replace H := (Option.bind_some _ _).symm.trans H); (try dsimp only at H); (try rw [← hy750] at H)
    have Ny750 := am_ hy750
    clear hy750
    revert H; refine pf_ fun c46 H => ?_
    have c46b0 := decide_eq_true c46
    have c46b1 : decide (1 < t745.length) = true := decide_eq_true (by omega)
    clear c46
    revert H; refine bn_ ?_; rintro t754 A47 H; try dsimp only at H
    revert H; refine pf_ fun c48 H => ?_
    have LMc48 := am_ c48
    clear c48
    obtain ⟨y755, hy755⟩ : ∃ y_ : List Int, y_ = (x740004_2 ++ [t754]) := ⟨_, rfl⟩
    (try with_reducible replace H := (Option.bind_some _ _).symm.trans H); (try dsimp only at H); (try rw [← hy755] at H)
    have Ny755 := am_ hy755
    clear hy755
    revert H; refine pf_ fun c49 H => ?_
    have c49b0 := decide_eq_true c49
    have c49b1 : decide (2 < t745.length) = true := decide_eq_true (by omega)
    clear c49
    revert H; refine bn_ ?_; rintro t759 A50 H; try dsimp only at H
    revert H; refine pf_ fun c51 H => ?_
    have LMc51 := am_ c51
    clear c51
    obtain ⟨y760, hy760⟩ : ∃ y_ : List Int, y_ = (x740005_2 ++ [t759]) := ⟨_, rfl⟩
    (try with_reducible replace H := (Option.bind_some _ _).symm.trans H); (try dsimp only at H); (try rw [← hy760] at H)
    have Ny760 := am_ hy760
    clear hy760
    have H' := am_ H
    clear H
    have p744 : 0 ≤ (x51_2 : Int) := od_
    have q744 : x51_2 < (y740.length : Int) := od_
    obtain ⟨ad744, e744, hx744_0⟩ := Kd.at_string HR743.out x51_2 p744 q744
    cases e744
    try replace hx744_0 := hc_ HB hx744_0
    replace p744 := eq_true p744
    replace q744 := eq_true q744
    try go_wp2_with (first | ((with_reducible refine gk_ 53 ?_); refine gq_ 56 Tryz.func53 #[.string (rdOf ByteArray.empty y740 x51_2), .int .u8 32] ?_; (with_reducible refine (spec_l1Split.calls k2 (rdOf ByteArray.empty y740 x51_2) 32 t745 _ A41.out).mono ?_); rintro e w52 ⟨v746, rfl, ho0, hb⟩; refine ⟨_, rfl, ?_⟩; have HO747 := Kd.R_lo (Kd.R_nw ho0 HO_4) HB; replace HO_740003 := Kd.R_b HO_740003 hb; replace HO_740004 := Kd.R_b HO_740004 hb; replace HO_740005 := Kd.R_b HO_740005 hb; replace HO_4 := Kd.R_e HO_4 ho0 hb; replace BK721 := kb_ BK721 hb; replace BK739 := kb_ BK739 hb; replace HR743 := am_ (Kd.C_below (by repeat (first | (with_reducible exact HR743.out) | (with_reducible refine Kd.C_alloc ?_ _) | (with_reducible refine Kd.C_drewN ?_ _) | (with_reducible refine Kd.C_drew ?_) | exact HR743.out)) hb); replace HB := hbs_ HB hb; obtain ⟨Ao53, co53, eo53⟩ := Kd.R_slice HO747.out; subst eo53))
    replace HO_740003 := am_ (Kd.R_drew HO_740003.out)
    replace HO_740004 := am_ (Kd.R_drew HO_740004.out)
    replace HO_740005 := am_ (Kd.R_drew HO_740005.out)
    replace HO_4 := am_ (Kd.R_drew HO_4.out)
    replace HO747 := am_ (Kd.R_drew HO747.out)
    replace BK721 := am_ (blk_drew BK721.out)
    replace BK739 := am_ (blk_drew BK739.out)
    replace HR743 := am_ (Kd.C_drew HR743.out)
    replace HB := am_ (below_drew1 HB.out)
    have p748 : 0 ≤ (0 : Int) := (by omega)
    have q748 : 0 < (t745.length : Int) := od_
    obtain ⟨ad748, e748, hx748_0⟩ := Kd.at_string (Kd.R_reads' HO747.out).2.2 0 p748 q748
    cases e748
    have qi748 : (0 < t745.length) = True := eq_true (by omega)
    (try rw [show ((0 : Int)).toNat = 0 from rfl] at hx748_0)
    (try rw [Addr.add_zero'] at hx748_0)
    replace p748 := eq_true p748
    replace q748 := eq_true q748
    refine start_ (n := 10) (S := fun w' => w'.cell? ⟨gb739, 0, none⟩ = some (.int .i64 t734) ∧ w'.cell? ⟨gb739, 1, none⟩ = some (.int .i64 t736) ∧ w'.cell? ⟨gb739, 2, none⟩ = some (.int .i64 t738) ∧ w'.cell? ⟨gb739, 3, none⟩ = some (u740003) ∧ w'.cell? ⟨gb739, 4, none⟩ = some (u740004) ∧ w'.cell? ⟨gb739, 5, none⟩ = some (u740005) ∧ w'.cell? ad748 = some (.string (rdOf ByteArray.empty t745 0))) (ds := [7, 9]) (bb 10 0) (by kernel_rfl) rfl rfl ⟨(blk_cell BK739.out 0).trans rfl, (blk_cell BK739.out 1).trans rfl, (blk_cell BK739.out 2).trans rfl, (blk_cell BK739.out 3).trans rfl, (blk_cell BK739.out 4).trans rfl, (blk_cell BK739.out 5).trans rfl, hx748_0⟩ (fun hHeld => ?_); refine with_tabW spec_ParseModel.tab14 spec_ParseModel.bits14 (fun HT_ HW_ => ?_)
    generalize w52.drew = w54 at HO_740003 HO_740004 HO_740005 HO_4 HO747 BK721 BK739 HR743 HB hx748_0 hHeld ⊢
    refine pm_ HT_ 0 60 10 1 ?_
    refine pm_ HT_ 2 62 10 5 ?_
    refine pm_ HT_ 3 63 10 13 ?_
    refine tk_ HT_ HW_ hHeld 1 (some 61) (bb 10 15) (h := ?_)
    refine tk_ HT_ HW_ hHeld 4 (some 64) (bb 10 31) (h := ?_)
    refine one_ (i := 5) (N := some 65) (bb 10 63) rfl rfl (one_of HT_.out (by kernel_rfl)) (by decide) (fun K hK => ?_)
    refine goes_ Tryz.func54 (by kernel_rfl) rfl #[.string (rdOf ByteArray.empty t745 0)] (by rfl) rfl rfl (by (try simp only [List.map_toArray, List.map_cons, List.map_nil]); first | done | rfl | (simp only [List.length_drop, List.length_take]; rfl)) ?_
    with_reducible refine (spec_l1Read.calls k2 (rdOf ByteArray.empty t745 0) t749 _ A44.out).mono ?_
    rintro e w' ⟨rfl, ⟨nd, rfl⟩⟩
    refine ⟨_, rfl, ?_⟩
    refine hK.out _ _ ⟨(blk_cell BK739.out 0).trans rfl, (blk_cell BK739.out 1).trans rfl, (blk_cell BK739.out 2).trans rfl, (blk_cell BK739.out 3).trans rfl, (blk_cell BK739.out 4).trans rfl, (blk_cell BK739.out 5).trans rfl, hHeld.2.2.2.2.2.2⟩ (fun hHeld => ?_)
    clear hK K
    refine nm_ (some 65) (h := ?_)
    refine one_ (i := 6) (N := some 66) (bb 10 127) rfl rfl (one_of HT_.out (by kernel_rfl)) (by decide) (fun K hK => ?_)
    refine value_ (w1 := ?_) (v := ?_) (by rfl) rfl ?_ ?_
    rotate_left 2
    ·go_simp
     constructor
     ·rfl
     rfl
    refine hK.out _ _ ⟨(blk_cell (blk_alloc BK739.out _) 0).trans rfl, (blk_cell (blk_alloc BK739.out _) 1).trans rfl, (blk_cell (blk_alloc BK739.out _) 2).trans rfl, (blk_cell (blk_alloc BK739.out _) 3).trans rfl, (blk_cell (blk_alloc BK739.out _) 4).trans rfl, (blk_cell (blk_alloc BK739.out _) 5).trans rfl, (World.cell?_alloc_lt _ _ _ (World.block_lt_of_cell? _ _ (hHeld.2.2.2.2.2.2))).trans (hHeld.2.2.2.2.2.2)⟩ (fun hHeld => ?_)
    clear hK K
    refine nm_ (some 66) (h := ?_)
    refine last_ (i := 7) (N := some 67) (bb 10 255) rfl rfl (one_of HT_.out (by kernel_rfl)) (by decide) (fun K hK => ?_)
    refine Kd.R_append_step (Kd.int .i64) (w0 := w) w.heap.size (by rfl) (.tmp 61) (.tmp 66) 26 3 (.int .i64 0) 8 rfl Tryz.underlying26 info3 rfl (by decide) (by omega) u740003 x740003_2 t749 [.int .i64 t749] (fun k_ => some k_ ≠ (u740004 : Value).ownBlock ∧ some k_ ≠ (u740005 : Value).ownBlock) (fun _ => False) rfl rfl ?aP (fun _ hk => hk.elim) ?aF ?aO ?aB ?aS ?aL ?_
    (case aP => exact rfl)
    (case aB => exact (hb_ HB))
    (case aF => exact (fun k_ hk => ⟨Kd.fresh' (Kd.R_lt (Kd.R_p HO_740004)) k_ hk, Kd.fresh' (Kd.R_lt (Kd.R_p HO_740005)) k_ hk⟩))
    (case aO => exact (Kd.R_p HO_740003))
    (case aS => exact (below_size (hb_ HB)))
    (case aL => have := LMc45.out; omega)
    intro v751 w55 ho hb hg hat
    rw [← Ny750.out] at ho
    have n0_ := am_ (Kd.R_after (ok := (fun k_ => some k_ ≠ (u740005 : Value).ownBlock)) (rm_ (h := HO_740004.out)) hg hat)
    have n1_ := am_ (Kd.R_after (ok := (fun k_ => some k_ ≠ (u740004 : Value).ownBlock)) (rm_ (h := HO_740005.out)) hg hat)
    have n2_ := am_ (blk_grown (kp_ BK721) hg (Kd.R_ne HO_740003.out BK721.out (by decide)))
    have n3_ := am_ (blk_grown (kp_ BK739) hg (Kd.R_ne HO_740003.out BK739.out (by decide)))
    have n4_ := am_ (Kd.R_over' (Kd.R_p HO_4) (Kd.R_typed (Kd.R_p HO_740003)) (by decide) hg)
    have n5_ := am_ (Kd.R_over' (Kd.R_p HO747) (Kd.R_typed (Kd.R_p HO_740003)) (by decide) hg)
    have n6_ := am_ (hb)
    have n7_ := am_ ((show Kd.C Kd.string w55 (some ad744) y740.length y740 from by rw [Ny740.out, KA37.out]; exact Kd.C_drop (m := 1) (c := co8) ((Kd.R_reads' (Kd.R_over' (Kd.R_p HO_4) (Kd.R_typed (Kd.R_p HO_740003)) (by decide) hg)).2.2) KL37.out ((Kd.R_reads' (Kd.R_over' (Kd.R_p HO_4) (Kd.R_typed (Kd.R_p HO_740003)) (by decide) hg)).2.1)))
    have n8_ := am_ (ho)
    clear HO_740004
    clear HO_740005
    clear BK721
    clear BK739
    clear HO_4
    clear HO747
    clear HB
    clear HR743
    clear HO_740003
    have HO_740004 := n0_
    have HO_740005 := n1_
    have BK721 := n2_
    have BK739 := n3_
    have HO_4 := n4_
    have HO747 := n5_
    have HB := n6_
    have HR743 := n7_
    have HO752 := n8_
    clear n0_ n1_ n2_ n3_ n4_ n5_ n6_ n7_ n8_
    clear ho hb hg hat
    obtain ⟨Ao56, co56, eo56⟩ := Kd.R_slice HO752.out
    (first | subst eo56 | (injection eo56 with f1_ f2_ f3_; have f4_ := f1_.symm; have f5_ := f3_.symm; clear f1_ f2_ f3_; subst f4_; subst f5_))
    refine hK.out _ _ ?_
    clear hK K
    refine nm_ (some 67) (h := ?_)
    refine pm_ HT_ 8 68 10 511 ?_
    refine last_ (i := 9) (N := none) (bb 10 1023) rfl rfl (one_of HT_.out (by kernel_rfl)) (by decide) (fun K hK => ?_)
    have hs57 : w55.cell? ⟨gb739, 3, none⟩ = some (u740003) := (blk_cell BK739.out 3).trans rfl
    have hfs57 := blk_frozen BK739.out 3
    have hns57_0 := NB721_739.out
    have hms57_0 := NB739_721.out
    refine skip_ (w1 := ?_) (by rfl) rfl ?_ ?_
    rotate_left
    ·go_simp
     rfl
    refine hK.out _ _ ?_
    clear hK K
    refine done_ (done_of HT_.out (by kernel_rfl)) ?_
    try go_wp2
    have n0_ : Aside0 (Kd.R (Kd.int .i64) 3 (w55.setCell ⟨gb739, 3, none⟩ (.slice Ao56 y750.length co56)) w.heap.size (fun k_ => some k_ ≠ (u740005 : Value).ownBlock ∧ some k_ ≠ (.slice Ao56 y750.length co56 : Value).ownBlock) u740004 x740004_2) := ⟨Kd.R_mono (Kd.R_s HO_740004 BK739) (fun _ hk => ⟨hk.1, hk.2⟩)⟩
    have n1_ : Aside0 (Kd.R (Kd.int .i64) 3 (w55.setCell ⟨gb739, 3, none⟩ (.slice Ao56 y750.length co56)) w.heap.size (fun k_ => some k_ ≠ (u740004 : Value).ownBlock ∧ some k_ ≠ (.slice Ao56 y750.length co56 : Value).ownBlock) u740005 x740005_2) := ⟨Kd.R_mono (Kd.R_s HO_740005 BK739) (fun _ hk => ⟨hk.1, hk.2⟩)⟩
    have n2_ : Aside0 (Kd.R Kd.string 9 (w55.setCell ⟨gb739, 3, none⟩ (.slice Ao56 y750.length co56)) w.heap.size (fun k_ => some k_ ≠ (.slice (some ad748) t745.length co53 : Value).ownBlock) (.slice (some ad725) t722.length co8) t722) := ⟨Kd.R_mono (Kd.R_s HO_4 BK739) (fun _ hk => hk.2)⟩
    have n3_ : Aside0 (Kd.R Kd.string 9 (w55.setCell ⟨gb739, 3, none⟩ (.slice Ao56 y750.length co56)) w.heap.size (fun k_ => some k_ ≠ (.slice (some ad725) t722.length co8 : Value).ownBlock) (.slice (some ad748) t745.length co53) t745) := ⟨Kd.R_mono (Kd.R_s HO747 BK739) (fun _ hk => hk.2)⟩
    have n4_ : Aside0 (Kd.R (Kd.int .i64) 3 (w55.setCell ⟨gb739, 3, none⟩ (.slice Ao56 y750.length co56)) w.heap.size (fun k_ => some k_ ≠ (u740004 : Value).ownBlock ∧ some k_ ≠ (u740005 : Value).ownBlock) (.slice Ao56 y750.length co56) y750) := ⟨Kd.R_mono (Kd.R_s HO752 BK739) (fun _ hk => ⟨hk.1, hk.2⟩)⟩
    have n5_ : Aside0 ((w55.setCell ⟨gb739, 3, none⟩ (.slice Ao56 y750.length co56)).heap[gb721]? = some (.cells #[.int .i64 0, .int .i64 0, .int .i64 0, .slice none 0 0, .slice none 0 0, .slice none 0 0] 28 (0, 0))) := ⟨kf_ BK721 NB721_739⟩
    have n6_ : Aside0 ((w55.setCell ⟨gb739, 3, none⟩ (.slice Ao56 y750.length co56)).heap[gb739]? = some (.cells #[.int .i64 t734, .int .i64 t736, .int .i64 t738, .slice Ao56 y750.length co56, u740004, u740005] 28 (0, 0))) := ⟨kpq_ (kputs BK739 [(3, _)])⟩
    have n7_ : Aside0 (Below w.heap.size w (w55.setCell ⟨gb739, 3, none⟩ (.slice Ao56 y750.length co56))) := ⟨hb_ HB⟩
    generalize (w55.setCell ⟨gb739, 3, none⟩ (.slice Ao56 y750.length co56)) = w58 at n0_ n1_ n2_ n3_ n4_ n5_ n6_ n7_ ⊢
    have HO_740004 := n0_
    have HO_740005 := n1_
    have HO_4 := n2_
    have HO747 := n3_
    have HO752 := n4_
    have BK721 := n5_
    have BK739 := n6_
    have HB := n7_
    clear n0_ n1_ n2_ n3_ n4_ n5_ n6_ n7_
    replace HO_740004 := am_ (Kd.R_drew HO_740004.out)
    replace HO_740005 := am_ (Kd.R_drew HO_740005.out)
    replace HO_4 := am_ (Kd.R_drew HO_4.out)
    replace HO747 := am_ (Kd.R_drew HO747.out)
    replace HO752 := am_ (Kd.R_drew HO752.out)
    replace BK721 := am_ (blk_drew BK721.out)
    replace BK739 := am_ (blk_drew BK739.out)
    replace HB := am_ (below_drew1 HB.out)
    have p753 : 0 ≤ (1 : Int) := (by omega)
    have q753 : 1 < (t745.length : Int) := od_
    obtain ⟨ad753, e753, hx753_0⟩ := Kd.at_string (Kd.R_reads' HO747.out).2.2 1 p753 q753
    obtain rfl : ad748 = ad753 := (by injection e753)
    (try simp only [show (1 : Int).toNat = 1 from rfl, Nat.reduceMul, Nat.reduceEqDiff, Go.Addr.add, ↓reduceIte] at hx753_0)
    have qi753 : (1 < t745.length) = True := eq_true (by omega)
    (try rw [show ((1 : Int)).toNat = 1 from rfl] at hx753_0)
    replace p753 := eq_true p753
    replace q753 := eq_true q753
    refine start_ (n := 10) (S := fun w' => w'.cell? ⟨gb739, 0, none⟩ = some (.int .i64 t734) ∧ w'.cell? ⟨gb739, 1, none⟩ = some (.int .i64 t736) ∧ w'.cell? ⟨gb739, 2, none⟩ = some (.int .i64 t738) ∧ w'.cell? ⟨gb739, 3, none⟩ = some (.slice Ao56 y750.length co56) ∧ w'.cell? ⟨gb739, 4, none⟩ = some (u740004) ∧ w'.cell? ⟨gb739, 5, none⟩ = some (u740005) ∧ w'.cell? ⟨ad748.block, ad748.off + 1, none⟩ = some (.string (rdOf ByteArray.empty t745 1))) (ds := [7, 9]) (bb 10 0) (by kernel_rfl) rfl rfl ⟨(blk_cell BK739.out 0).trans rfl, (blk_cell BK739.out 1).trans rfl, (blk_cell BK739.out 2).trans rfl, (blk_cell BK739.out 3).trans rfl, (blk_cell BK739.out 4).trans rfl, (blk_cell BK739.out 5).trans rfl, hx753_0⟩ (fun hHeld => ?_); refine with_tabW spec_ParseModel.tab15 spec_ParseModel.bits15 (fun HT_ HW_ => ?_)
    generalize w58.drew = w59 at HO_740004 HO_740005 HO_4 HO747 HO752 BK721 BK739 HB hx753_0 hHeld ⊢
    refine pm_ HT_ 0 69 10 1 ?_
    refine pm_ HT_ 2 71 10 5 ?_
    refine pm_ HT_ 3 72 10 13 ?_
    refine tk_ HT_ HW_ hHeld 1 (some 70) (bb 10 15) (h := ?_)
    refine tk_ HT_ HW_ hHeld 4 (some 73) (bb 10 31) (h := ?_)
    refine one_ (i := 5) (N := some 74) (bb 10 63) rfl rfl (one_of HT_.out (by kernel_rfl)) (by decide) (fun K hK => ?_)
    refine goes_ Tryz.func54 (by kernel_rfl) rfl #[.string (rdOf ByteArray.empty t745 1)] (by rfl) rfl rfl (by (try simp only [List.map_toArray, List.map_cons, List.map_nil]); first | done | rfl | (simp only [List.length_drop, List.length_take]; rfl)) ?_
    with_reducible refine (spec_l1Read.calls k2 (rdOf ByteArray.empty t745 1) t754 _ A47.out).mono ?_
    rintro e w' ⟨rfl, ⟨nd, rfl⟩⟩
    refine ⟨_, rfl, ?_⟩
    refine hK.out _ _ ⟨(blk_cell BK739.out 0).trans rfl, (blk_cell BK739.out 1).trans rfl, (blk_cell BK739.out 2).trans rfl, (blk_cell BK739.out 3).trans rfl, (blk_cell BK739.out 4).trans rfl, (blk_cell BK739.out 5).trans rfl, hHeld.2.2.2.2.2.2⟩ (fun hHeld => ?_)
    clear hK K
    refine nm_ (some 74) (h := ?_)
    refine one_ (i := 6) (N := some 75) (bb 10 127) rfl rfl (one_of HT_.out (by kernel_rfl)) (by decide) (fun K hK => ?_)
    refine value_ (w1 := ?_) (v := ?_) (by rfl) rfl ?_ ?_
    rotate_left 2
    ·go_simp
     constructor
     ·rfl
     rfl
    refine hK.out _ _ ⟨(blk_cell (blk_alloc BK739.out _) 0).trans rfl, (blk_cell (blk_alloc BK739.out _) 1).trans rfl, (blk_cell (blk_alloc BK739.out _) 2).trans rfl, (blk_cell (blk_alloc BK739.out _) 3).trans rfl, (blk_cell (blk_alloc BK739.out _) 4).trans rfl, (blk_cell (blk_alloc BK739.out _) 5).trans rfl, (World.cell?_alloc_lt _ _ _ (World.block_lt_of_cell? _ _ (hHeld.2.2.2.2.2.2))).trans (hHeld.2.2.2.2.2.2)⟩ (fun hHeld => ?_)
    clear hK K
    refine nm_ (some 75) (h := ?_)
    refine last_ (i := 7) (N := some 76) (bb 10 255) rfl rfl (one_of HT_.out (by kernel_rfl)) (by decide) (fun K hK => ?_)
    refine Kd.R_append_step (Kd.int .i64) (w0 := w) w.heap.size (by rfl) (.tmp 70) (.tmp 75) 26 3 (.int .i64 0) 8 rfl Tryz.underlying26 info3 rfl (by decide) (by omega) u740004 x740004_2 t754 [.int .i64 t754] (fun k_ => some k_ ≠ (u740005 : Value).ownBlock ∧ some k_ ≠ (.slice Ao56 y750.length co56 : Value).ownBlock) (fun _ => False) rfl rfl ?aP (fun _ hk => hk.elim) ?aF ?aO ?aB ?aS ?aL ?_
    (case aP => exact rfl)
    (case aB => exact (hb_ HB))
    (case aF => exact (fun k_ hk => ⟨Kd.fresh' (Kd.R_lt (Kd.R_p HO_740005)) k_ hk, Kd.fresh' (Kd.R_lt (Kd.R_p HO752)) k_ hk⟩))
    (case aO => exact (Kd.R_p HO_740004))
    (case aS => exact (below_size (hb_ HB)))
    (case aL => have := LMc48.out; omega)
    intro v756 w60 ho hb hg hat
    rw [← Ny755.out] at ho
    replace HO_740005 := am_ (Kd.R_after (ok := (fun k_ => some k_ ≠ (.slice Ao56 y750.length co56 : Value).ownBlock)) (rm_ (h := HO_740005.out)) hg hat)
    replace BK721 := am_ (blk_grown (kp_ BK721) hg (Kd.R_ne HO_740004.out BK721.out (by decide)))
    replace BK739 := am_ (blk_grown (kp_ BK739) hg (Kd.R_ne HO_740004.out BK739.out (by decide)))
    replace HO_4 := am_ (Kd.R_over' (Kd.R_p HO_4) (Kd.R_typed (Kd.R_p HO_740004)) (by decide) hg)
    replace HO747 := am_ (Kd.R_over' (Kd.R_p HO747) (Kd.R_typed (Kd.R_p HO_740004)) (by decide) hg)
    replace HO752 := am_ (Kd.R_after (ok := (fun k_ => some k_ ≠ (u740005 : Value).ownBlock)) (rm_ (h := HO752.out)) hg hat)
    replace HB := am_ (hb)
    have HO757 := am_ (ho)
    clear HO_740004
    clear ho hb hg hat
    obtain ⟨Ao61, co61, eo61⟩ := Kd.R_slice HO757.out
    (first | subst eo61 | (injection eo61 with f1_ f2_ f3_; have f4_ := f1_.symm; have f5_ := f3_.symm; clear f1_ f2_ f3_; subst f4_; subst f5_))
    refine hK.out _ _ ?_
    clear hK K
    refine nm_ (some 76) (h := ?_)
    refine pm_ HT_ 8 77 10 511 ?_
    refine last_ (i := 9) (N := none) (bb 10 1023) rfl rfl (one_of HT_.out (by kernel_rfl)) (by decide) (fun K hK => ?_)
    have hs62 : w60.cell? ⟨gb739, 4, none⟩ = some (u740004) := (blk_cell BK739.out 4).trans rfl
    have hfs62 := blk_frozen BK739.out 4
    have hns62_0 := NB721_739.out
    have hms62_0 := NB739_721.out
    refine skip_ (w1 := ?_) (by rfl) rfl ?_ ?_
    rotate_left
    ·go_simp
     rfl
    refine hK.out _ _ ?_
    clear hK K
    refine done_ (done_of HT_.out (by kernel_rfl)) ?_
    try go_wp2
    have n0_ : Aside0 (Kd.R (Kd.int .i64) 3 (w60.setCell ⟨gb739, 4, none⟩ (.slice Ao61 y755.length co61)) w.heap.size (fun k_ => some k_ ≠ (.slice Ao56 y750.length co56 : Value).ownBlock ∧ some k_ ≠ (.slice Ao61 y755.length co61 : Value).ownBlock) u740005 x740005_2) := ⟨Kd.R_mono (Kd.R_s HO_740005 BK739) (fun _ hk => ⟨hk.1, hk.2⟩)⟩
    have n1_ : Aside0 (Kd.R Kd.string 9 (w60.setCell ⟨gb739, 4, none⟩ (.slice Ao61 y755.length co61)) w.heap.size (fun k_ => some k_ ≠ (.slice (some ad748) t745.length co53 : Value).ownBlock) (.slice (some ad725) t722.length co8) t722) := ⟨Kd.R_s HO_4 BK739⟩
    have n2_ : Aside0 (Kd.R Kd.string 9 (w60.setCell ⟨gb739, 4, none⟩ (.slice Ao61 y755.length co61)) w.heap.size (fun k_ => some k_ ≠ (.slice (some ad725) t722.length co8 : Value).ownBlock) (.slice (some ad748) t745.length co53) t745) := ⟨Kd.R_s HO747 BK739⟩
    have n3_ : Aside0 (Kd.R (Kd.int .i64) 3 (w60.setCell ⟨gb739, 4, none⟩ (.slice Ao61 y755.length co61)) w.heap.size (fun k_ => some k_ ≠ (u740005 : Value).ownBlock ∧ some k_ ≠ (.slice Ao61 y755.length co61 : Value).ownBlock) (.slice Ao56 y750.length co56) y750) := ⟨Kd.R_mono (Kd.R_s HO752 BK739) (fun _ hk => ⟨hk.1, hk.2⟩)⟩
    have n4_ : Aside0 (Kd.R (Kd.int .i64) 3 (w60.setCell ⟨gb739, 4, none⟩ (.slice Ao61 y755.length co61)) w.heap.size (fun k_ => some k_ ≠ (u740005 : Value).ownBlock ∧ some k_ ≠ (.slice Ao56 y750.length co56 : Value).ownBlock) (.slice Ao61 y755.length co61) y755) := ⟨Kd.R_mono (Kd.R_s HO757 BK739) (fun _ hk => ⟨hk.1, hk.2⟩)⟩
    have n5_ : Aside0 ((w60.setCell ⟨gb739, 4, none⟩ (.slice Ao61 y755.length co61)).heap[gb721]? = some (.cells #[.int .i64 0, .int .i64 0, .int .i64 0, .slice none 0 0, .slice none 0 0, .slice none 0 0] 28 (0, 0))) := ⟨kf_ BK721 NB721_739⟩
    have n6_ : Aside0 ((w60.setCell ⟨gb739, 4, none⟩ (.slice Ao61 y755.length co61)).heap[gb739]? = some (.cells #[.int .i64 t734, .int .i64 t736, .int .i64 t738, .slice Ao56 y750.length co56, .slice Ao61 y755.length co61, u740005] 28 (0, 0))) := ⟨kpq_ (kputs BK739 [(4, _)])⟩
    have n7_ : Aside0 (Below w.heap.size w (w60.setCell ⟨gb739, 4, none⟩ (.slice Ao61 y755.length co61))) := ⟨hb_ HB⟩
    generalize (w60.setCell ⟨gb739, 4, none⟩ (.slice Ao61 y755.length co61)) = w63 at n0_ n1_ n2_ n3_ n4_ n5_ n6_ n7_ ⊢
    have HO_740005 := n0_
    have HO_4 := n1_
    have HO747 := n2_
    have HO752 := n3_
    have HO757 := n4_
    have BK721 := n5_
    have BK739 := n6_
    have HB := n7_
    clear n0_ n1_ n2_ n3_ n4_ n5_ n6_ n7_
    replace HO_740005 := am_ (Kd.R_drew HO_740005.out)
    replace HO_4 := am_ (Kd.R_drew HO_4.out)
    replace HO747 := am_ (Kd.R_drew HO747.out)
    replace HO752 := am_ (Kd.R_drew HO752.out)
    replace HO757 := am_ (Kd.R_drew HO757.out)
    replace BK721 := am_ (blk_drew BK721.out)
    replace BK739 := am_ (blk_drew BK739.out)
    replace HB := am_ (below_drew1 HB.out)
    have p758 : 0 ≤ (2 : Int) := (by omega)
    have q758 : 2 < (t745.length : Int) := od_
    obtain ⟨ad758, e758, hx758_0⟩ := Kd.at_string (Kd.R_reads' HO747.out).2.2 2 p758 q758
    obtain rfl : ad748 = ad758 := (by injection e758)
    (try simp only [show (2 : Int).toNat = 2 from rfl, Nat.reduceMul, Nat.reduceEqDiff, Go.Addr.add, ↓reduceIte] at hx758_0)
    have qi758 : (2 < t745.length) = True := eq_true (by omega)
    (try rw [show ((2 : Int)).toNat = 2 from rfl] at hx758_0)
    replace p758 := eq_true p758
    replace q758 := eq_true q758
    refine start_ (n := 10) (S := fun w' => w'.cell? ⟨gb739, 0, none⟩ = some (.int .i64 t734) ∧ w'.cell? ⟨gb739, 1, none⟩ = some (.int .i64 t736) ∧ w'.cell? ⟨gb739, 2, none⟩ = some (.int .i64 t738) ∧ w'.cell? ⟨gb739, 3, none⟩ = some (.slice Ao56 y750.length co56) ∧ w'.cell? ⟨gb739, 4, none⟩ = some (.slice Ao61 y755.length co61) ∧ w'.cell? ⟨gb739, 5, none⟩ = some (u740005) ∧ w'.cell? ⟨ad748.block, ad748.off + 2, none⟩ = some (.string (rdOf ByteArray.empty t745 2))) (ds := [7, 9]) (bb 10 0) (by kernel_rfl) rfl rfl ⟨(blk_cell BK739.out 0).trans rfl, (blk_cell BK739.out 1).trans rfl, (blk_cell BK739.out 2).trans rfl, (blk_cell BK739.out 3).trans rfl, (blk_cell BK739.out 4).trans rfl, (blk_cell BK739.out 5).trans rfl, hx758_0⟩ (fun hHeld => ?_); refine with_tabW spec_ParseModel.tab16 spec_ParseModel.bits16 (fun HT_ HW_ => ?_)
    generalize w63.drew = w64 at HO_740005 HO_4 HO747 HO752 HO757 BK721 BK739 HB hx758_0 hHeld ⊢
    refine pm_ HT_ 0 78 10 1 ?_
    refine pm_ HT_ 2 80 10 5 ?_
    refine pm_ HT_ 3 81 10 13 ?_
    refine tk_ HT_ HW_ hHeld 1 (some 79) (bb 10 15) (h := ?_)
    refine tk_ HT_ HW_ hHeld 4 (some 82) (bb 10 31) (h := ?_)
    refine one_ (i := 5) (N := some 83) (bb 10 63) rfl rfl (one_of HT_.out (by kernel_rfl)) (by decide) (fun K hK => ?_)
    refine goes_ Tryz.func54 (by kernel_rfl) rfl #[.string (rdOf ByteArray.empty t745 2)] (by rfl) rfl rfl (by (try simp only [List.map_toArray, List.map_cons, List.map_nil]); first | done | rfl | (simp only [List.length_drop, List.length_take]; rfl)) ?_
    with_reducible refine (spec_l1Read.calls k2 (rdOf ByteArray.empty t745 2) t759 _ A50.out).mono ?_
    rintro e w' ⟨rfl, ⟨nd, rfl⟩⟩
    refine ⟨_, rfl, ?_⟩
    refine hK.out _ _ ⟨(blk_cell BK739.out 0).trans rfl, (blk_cell BK739.out 1).trans rfl, (blk_cell BK739.out 2).trans rfl, (blk_cell BK739.out 3).trans rfl, (blk_cell BK739.out 4).trans rfl, (blk_cell BK739.out 5).trans rfl, hHeld.2.2.2.2.2.2⟩ (fun hHeld => ?_)
    clear hK K
    refine nm_ (some 83) (h := ?_)
    refine one_ (i := 6) (N := some 84) (bb 10 127) rfl rfl (one_of HT_.out (by kernel_rfl)) (by decide) (fun K hK => ?_)
    refine value_ (w1 := ?_) (v := ?_) (by rfl) rfl ?_ ?_
    rotate_left 2
    ·go_simp
     constructor
     ·rfl
     rfl
    refine hK.out _ _ ⟨(blk_cell (blk_alloc BK739.out _) 0).trans rfl, (blk_cell (blk_alloc BK739.out _) 1).trans rfl, (blk_cell (blk_alloc BK739.out _) 2).trans rfl, (blk_cell (blk_alloc BK739.out _) 3).trans rfl, (blk_cell (blk_alloc BK739.out _) 4).trans rfl, (blk_cell (blk_alloc BK739.out _) 5).trans rfl, (World.cell?_alloc_lt _ _ _ (World.block_lt_of_cell? _ _ (hHeld.2.2.2.2.2.2))).trans (hHeld.2.2.2.2.2.2)⟩ (fun hHeld => ?_)
    clear hK K
    refine nm_ (some 84) (h := ?_)
    refine last_ (i := 7) (N := some 85) (bb 10 255) rfl rfl (one_of HT_.out (by kernel_rfl)) (by decide) (fun K hK => ?_)
    refine Kd.R_append_step (Kd.int .i64) (w0 := w) w.heap.size (by rfl) (.tmp 79) (.tmp 84) 26 3 (.int .i64 0) 8 rfl Tryz.underlying26 info3 rfl (by decide) (by omega) u740005 x740005_2 t759 [.int .i64 t759] (fun k_ => some k_ ≠ (.slice Ao56 y750.length co56 : Value).ownBlock ∧ some k_ ≠ (.slice Ao61 y755.length co61 : Value).ownBlock) (fun _ => False) rfl rfl ?aP (fun _ hk => hk.elim) ?aF ?aO ?aB ?aS ?aL ?_
    (case aP => exact rfl)
    (case aB => exact (hb_ HB))
    (case aF => exact (fun k_ hk => ⟨Kd.fresh' (Kd.R_lt (Kd.R_p HO752)) k_ hk, Kd.fresh' (Kd.R_lt (Kd.R_p HO757)) k_ hk⟩))
    (case aO => exact (Kd.R_p HO_740005))
    (case aS => exact (below_size (hb_ HB)))
    (case aL => have := LMc51.out; omega)
    intro v761 w65 ho hb hg hat
    rw [← Ny760.out] at ho
    replace BK721 := am_ (blk_grown (kp_ BK721) hg (Kd.R_ne HO_740005.out BK721.out (by decide)))
    replace BK739 := am_ (blk_grown (kp_ BK739) hg (Kd.R_ne HO_740005.out BK739.out (by decide)))
    replace HO_4 := am_ (Kd.R_over' (Kd.R_p HO_4) (Kd.R_typed (Kd.R_p HO_740005)) (by decide) hg)
    replace HO747 := am_ (Kd.R_over' (Kd.R_p HO747) (Kd.R_typed (Kd.R_p HO_740005)) (by decide) hg)
    replace HO752 := am_ (Kd.R_after (ok := (fun k_ => some k_ ≠ (.slice Ao61 y755.length co61 : Value).ownBlock)) (rm_ (h := HO752.out)) hg hat)
    replace HO757 := am_ (Kd.R_after (ok := (fun k_ => some k_ ≠ (.slice Ao56 y750.length co56 : Value).ownBlock)) (rm_ (h := HO757.out)) hg hat)
    replace HB := am_ (hb)
    have HO762 := am_ (ho)
    clear HO_740005
    clear ho hb hg hat
    obtain ⟨Ao66, co66, eo66⟩ := Kd.R_slice HO762.out
    (first | subst eo66 | (injection eo66 with f1_ f2_ f3_; have f4_ := f1_.symm; have f5_ := f3_.symm; clear f1_ f2_ f3_; subst f4_; subst f5_))
    refine hK.out _ _ ?_
    clear hK K
    refine nm_ (some 85) (h := ?_)
    refine pm_ HT_ 8 86 10 511 ?_
    refine last_ (i := 9) (N := none) (bb 10 1023) rfl rfl (one_of HT_.out (by kernel_rfl)) (by decide) (fun K hK => ?_)
    have hs67 : w65.cell? ⟨gb739, 5, none⟩ = some (u740005) := (blk_cell BK739.out 5).trans rfl
    have hfs67 := blk_frozen BK739.out 5
    have hns67_0 := NB721_739.out
    have hms67_0 := NB739_721.out
    refine skip_ (w1 := ?_) (by rfl) rfl ?_ ?_
    rotate_left
    ·go_simp
     rfl
    refine hK.out _ _ ?_
    clear hK K
    refine done_ (done_of HT_.out (by kernel_rfl)) ?_
    try go_wp2
    go_roundg k2
    case measure => have := HJ4.out; have := HK2.out; omega
    case rel => exact ⟨(wrap64 (x51_2 + 1)), (y750), (y755), (y760), (.slice Ao56 y750.length co56), (.slice Ao61 y755.length co61), (.slice Ao66 y760.length co66), sr_, H', ⟨by have := HJ4.out; have := HK2.out; omega⟩, ⟨Kd.R_mono (Kd.R_s HO752 BK739) (fun _ hk => ⟨hk.1, hk.2⟩)⟩, ⟨Kd.R_mono (Kd.R_s HO757 BK739) (fun _ hk => ⟨hk.1, hk.2⟩)⟩, ⟨Kd.R_mono (Kd.R_s HO762 BK739) (fun _ hk => ⟨hk.1, hk.2⟩)⟩, ⟨kf_ BK721 NB721_739⟩, ⟨kpq_ (kputs BK739 [(5, _)])⟩, ⟨Kd.R_mono (Kd.R_s HO_4 BK739) (fun _ _ => trivial)⟩, ⟨(show Kd.C Kd.string _ (some ad744) y740.length y740 from by rw [Ny740.out, KA37.out]; exact Kd.C_drop (m := 1) (c := co8) ((Kd.R_reads' (Kd.R_s HO_4 BK739)).2.2) KL37.out ((Kd.R_reads' (Kd.R_s HO_4 BK739)).2.1))⟩, ⟨hb_ HB⟩⟩
   rw [if_neg c42] at H
   have c42b0 : ((t745.length : Int) == 3) = false := beq_eq_false_iff_ne.mpr c42
   have c42b1 : ((t745.length : Int) != 3) = true := bne_iff_ne.mpr c42
   have H' := am_ H
   clear H
   have p744 : 0 ≤ (x51_2 : Int) := od_
   have q744 : x51_2 < (y740.length : Int) := od_
   obtain ⟨ad744, e744, hx744_0⟩ := Kd.at_string HR743.out x51_2 p744 q744
   cases e744
   try replace hx744_0 := hc_ HB hx744_0
   replace p744 := eq_true p744
   replace q744 := eq_true q744
   go_wp2_with (first | ((with_reducible refine gk_ 53 ?_); refine gq_ 56 Tryz.func53 #[.string (rdOf ByteArray.empty y740 x51_2), .int .u8 32] ?_; (with_reducible refine (spec_l1Split.calls k2 (rdOf ByteArray.empty y740 x51_2) 32 t745 _ A41.out).mono ?_); rintro e w68 ⟨v746, rfl, ho0, hb⟩; refine ⟨_, rfl, ?_⟩; have HO747 := Kd.R_lo (Kd.R_nw ho0 HO_4) HB; replace HO_740003 := Kd.R_b HO_740003 hb; replace HO_740004 := Kd.R_b HO_740004 hb; replace HO_740005 := Kd.R_b HO_740005 hb; replace HO_4 := Kd.R_e HO_4 ho0 hb; replace BK721 := kb_ BK721 hb; replace BK739 := kb_ BK739 hb; replace HR743 := am_ (Kd.C_below (by repeat (first | (with_reducible exact HR743.out) | (with_reducible refine Kd.C_alloc ?_ _) | (with_reducible refine Kd.C_drewN ?_ _) | (with_reducible refine Kd.C_drew ?_) | exact HR743.out)) hb); replace HB := hbs_ HB hb; obtain ⟨Ao69, co69, eo69⟩ := Kd.R_slice HO747.out; subst eo69))
   go_roundg k2
   case measure => have := HJ4.out; have := HK2.out; omega
   case rel => exact ⟨(wrap64 (x51_2 + 1)), (x740003_2), (x740004_2), (x740005_2), (u740003), (u740004), (u740005), sr_, H', ⟨by have := HJ4.out; have := HK2.out; omega⟩, ⟨Kd.R_p HO_740003⟩, ⟨Kd.R_p HO_740004⟩, ⟨Kd.R_p HO_740005⟩, ⟨kp_ BK721⟩, ⟨kp_ BK739⟩, ⟨Kd.R_mono (Kd.R_p HO_4) (fun _ _ => trivial)⟩, ⟨by repeat (first | (with_reducible exact HR743.out) | (with_reducible refine Kd.C_alloc ?_ _) | (with_reducible refine Kd.C_drewN ?_ _) | (with_reducible refine Kd.C_drew ?_) | exact HR743.out)⟩, ⟨hb_ HB⟩⟩
  rw [if_neg c38] at H
  have c38b0 := decide_eq_false c38
  clear c38
  revert H; refine bn_ ?_; rintro t763 A70 H; try dsimp only at H
  by_cases c71 : t763 = true
  ·subst c71
   rw [if_pos rfl] at H
   revert H; refine bn_ ?_; rintro t764 A72 H; try dsimp only at H
   by_cases c73 : t764.toList = a0.toList
   ·rw [if_pos c73] at H
    have c73b0 : (t764.toList == a0.toList) = true := beq_iff_eq.mpr c73
    have c73b1 : (t764.toList != a0.toList) = false := bne_eq_false_iff_eq.mpr c73
    clear c73
    simp only [Option.some.injEq, Prod.mk.injEq] at H
    obtain ⟨rfl, rfl, rfl, rfl, rfl, rfl, rfl⟩ := H
    have := NB739_721.out
    have := NB721_739.out
    obtain ⟨hcz75_0, hcz75_1, hcz75_2, hcz75_3, hcz75_4, hcz75_5, hfz75_0, hfz75_1, hfz75_2, hfz75_3, hfz75_4, hfz75_5⟩ := bx6 BK739
    obtain ⟨Ao76, co76, eo76⟩ := Kd.R_slice HO_740003.out
    subst eo76
    obtain ⟨Ao77, co77, eo77⟩ := Kd.R_slice HO_740004.out
    subst eo77
    obtain ⟨Ao78, co78, eo78⟩ := Kd.R_slice HO_740005.out
    subst eo78
    go_wp2_with (first | ((with_reducible refine gk_ 31 ?_); refine gq_ 89 Tryz.func31 #[.agg #[.int .i64 t734, .int .i64 t736, .int .i64 t738, .slice Ao76 x740003_2.length co76, .slice Ao77 x740004_2.length co77, .slice Ao78 x740005_2.length co78]] ?_; (with_reducible refine (spec_moGood.calls k2 t734 t736 t738 _ _ x740003_2 _ _ x740004_2 _ _ x740005_2 true _ ?_ ?_ ?_ ?_ ?_ ?_ A70.out).mono ?_); exact Kd.C_o HO_740003; exact (Kd.R_reads' HO_740003.out).2.1; exact Kd.C_o HO_740004; exact (Kd.R_reads' HO_740004.out).2.1; exact Kd.C_o HO_740005; exact (Kd.R_reads' HO_740005.out).2.1; rintro e w79 ⟨rfl, hb⟩; refine ⟨_, rfl, ?_⟩; replace HO_740003 := Kd.R_b HO_740003 hb; replace HO_740004 := Kd.R_b HO_740004 hb; replace HO_740005 := Kd.R_b HO_740005 hb; replace HO_4 := Kd.R_b HO_4 hb; replace BK721 := kb_ BK721 hb; replace BK739 := kb_ BK739 hb; replace HB := hbs_ HB hb; obtain ⟨hcz80_0, hcz80_1, hcz80_2, hcz80_3, hcz80_4, hcz80_5, hfz80_0, hfz80_1, hfz80_2, hfz80_3, hfz80_4, hfz80_5⟩ := bx6 BK739) | (go_at_call 32; (with_reducible refine (spec_moText.calls k2 t734 t736 t738 _ _ x740003_2 _ _ x740004_2 _ _ x740005_2 t764 _ ?_ ?_ ?_ ?_ ?_ ?_ A72.out).mono ?_); exact Kd.C_o HO_740003; exact (Kd.R_reads' HO_740003.out).2.1; exact Kd.C_o HO_740004; exact (Kd.R_reads' HO_740004.out).2.1; exact Kd.C_o HO_740005; exact (Kd.R_reads' HO_740005.out).2.1; rintro e w81 ⟨rfl, hb⟩; replace HO_740003 := am_ (Kd.R_below (Kd.R_p HO_740003) hb); replace HO_740004 := am_ (Kd.R_below (Kd.R_p HO_740004) hb); replace HO_740005 := am_ (Kd.R_below (Kd.R_p HO_740005) hb); replace HO_4 := am_ (Kd.R_below (Kd.R_p HO_4) hb); replace BK721 := am_ (blk_below (kp_ BK721) hb); replace BK739 := am_ (blk_below (kp_ BK739) hb); replace HB := am_ (below_step (hb_ HB) hb); obtain ⟨hcz82_0, hcz82_1, hcz82_2, hcz82_3, hcz82_4, hcz82_5, hfz82_0, hfz82_1, hfz82_2, hfz82_3, hfz82_4, hfz82_5⟩ := bx6 BK739; obtain ⟨hcz83_0, hcz83_1, hcz83_2, hcz83_3, hcz83_4, hcz83_5, hfz83_0, hfz83_1, hfz83_2, hfz83_3, hfz83_4, hfz83_5⟩ := bx6 BK721))
    refine bodyPost_ret (results_ct rfl _ _ gb721 28 #[.int .i64 t734, .int .i64 t736, .int .i64 t738, .slice Ao76 x740003_2.length co76, .slice Ao77 x740004_2.length co77, .slice Ao78 x740005_2.length co78] (0, 0) _ rfl (kpq_ (kputs BK721 [(0, _), (1, _), (2, _), (3, _), (4, _), (5, _)])) Tryz.underlying28 rfl (by kernel_rfl)) rfl ?_
    exact ⟨_, _, _, se_, Kd.R_mono (Kd.R_s HO_740003 BK721) (fun _ hk => ⟨hk.1, hk.2⟩), Kd.R_mono (Kd.R_s HO_740004 BK721) (fun _ hk => ⟨hk.1, hk.2⟩), Kd.R_mono (Kd.R_s HO_740005 BK721) (fun _ hk => ⟨hk.1, hk.2⟩), hb_ HB⟩
   rw [if_neg c73] at H
   have c73b0 : (t764.toList == a0.toList) = false := beq_eq_false_iff_ne.mpr c73
   have c73b1 : (t764.toList != a0.toList) = true := bne_iff_ne.mpr c73
   simp only [Option.some.injEq, Prod.mk.injEq] at H
   obtain ⟨rfl, rfl, rfl, rfl, rfl, rfl, rfl⟩ := H
   have := NB739_721.out
   have := NB721_739.out
   obtain ⟨hcz85_0, hcz85_1, hcz85_2, hcz85_3, hcz85_4, hcz85_5, hfz85_0, hfz85_1, hfz85_2, hfz85_3, hfz85_4, hfz85_5⟩ := bx6 BK739
   obtain ⟨Ao86, co86, eo86⟩ := Kd.R_slice HO_740003.out
   subst eo86
   obtain ⟨Ao87, co87, eo87⟩ := Kd.R_slice HO_740004.out
   subst eo87
   obtain ⟨Ao88, co88, eo88⟩ := Kd.R_slice HO_740005.out
   subst eo88
   go_wp2_with (first | ((with_reducible refine gk_ 31 ?_); refine gq_ 89 Tryz.func31 #[.agg #[.int .i64 t734, .int .i64 t736, .int .i64 t738, .slice Ao86 x740003_2.length co86, .slice Ao87 x740004_2.length co87, .slice Ao88 x740005_2.length co88]] ?_; (with_reducible refine (spec_moGood.calls k2 t734 t736 t738 _ _ x740003_2 _ _ x740004_2 _ _ x740005_2 true _ ?_ ?_ ?_ ?_ ?_ ?_ A70.out).mono ?_); exact Kd.C_o HO_740003; exact (Kd.R_reads' HO_740003.out).2.1; exact Kd.C_o HO_740004; exact (Kd.R_reads' HO_740004.out).2.1; exact Kd.C_o HO_740005; exact (Kd.R_reads' HO_740005.out).2.1; rintro e w89 ⟨rfl, hb⟩; refine ⟨_, rfl, ?_⟩; replace HO_740003 := Kd.R_b HO_740003 hb; replace HO_740004 := Kd.R_b HO_740004 hb; replace HO_740005 := Kd.R_b HO_740005 hb; replace HO_4 := Kd.R_b HO_4 hb; replace BK721 := kb_ BK721 hb; replace BK739 := kb_ BK739 hb; replace HB := hbs_ HB hb; obtain ⟨hcz90_0, hcz90_1, hcz90_2, hcz90_3, hcz90_4, hcz90_5, hfz90_0, hfz90_1, hfz90_2, hfz90_3, hfz90_4, hfz90_5⟩ := bx6 BK739) | (go_at_call 32; (with_reducible refine (spec_moText.calls k2 t734 t736 t738 _ _ x740003_2 _ _ x740004_2 _ _ x740005_2 t764 _ ?_ ?_ ?_ ?_ ?_ ?_ A72.out).mono ?_); exact Kd.C_o HO_740003; exact (Kd.R_reads' HO_740003.out).2.1; exact Kd.C_o HO_740004; exact (Kd.R_reads' HO_740004.out).2.1; exact Kd.C_o HO_740005; exact (Kd.R_reads' HO_740005.out).2.1; rintro e w91 ⟨rfl, hb⟩; replace HO_740003 := am_ (Kd.R_below (Kd.R_p HO_740003) hb); replace HO_740004 := am_ (Kd.R_below (Kd.R_p HO_740004) hb); replace HO_740005 := am_ (Kd.R_below (Kd.R_p HO_740005) hb); replace HO_4 := am_ (Kd.R_below (Kd.R_p HO_4) hb); replace BK721 := am_ (blk_below (kp_ BK721) hb); replace BK739 := am_ (blk_below (kp_ BK739) hb); replace HB := am_ (below_step (hb_ HB) hb); obtain ⟨hcz92_0, hcz92_1, hcz92_2, hcz92_3, hcz92_4, hcz92_5, hfz92_0, hfz92_1, hfz92_2, hfz92_3, hfz92_4, hfz92_5⟩ := bx6 BK721))
   refine bodyPost_ret (results_ct rfl _ _ gb721 28 #[.int .i64 0, .int .i64 0, .int .i64 0, .slice none 0 0, .slice none 0 0, .slice none 0 0] (0, 0) _ rfl (kpq_ (kputs BK721 [(0, _), (1, _), (2, _), (3, _), (4, _), (5, _)])) Tryz.underlying28 rfl (by kernel_rfl)) rfl ?_
   exact ⟨_, _, _, se_, by first | exact Kd.R_nil _ _ _ _ _ | exact Kd.N_nil _ _ _ _ _ | exact Kd.V_nil _ _ _ _ _ | exact Kd.Q_nil _ _ _ _ _ | exact Kd.S_nil _ _ _ _ _, by first | exact Kd.R_nil _ _ _ _ _ | exact Kd.N_nil _ _ _ _ _ | exact Kd.V_nil _ _ _ _ _ | exact Kd.Q_nil _ _ _ _ _ | exact Kd.S_nil _ _ _ _ _, by first | exact Kd.R_nil _ _ _ _ _ | exact Kd.N_nil _ _ _ _ _ | exact Kd.V_nil _ _ _ _ _ | exact Kd.Q_nil _ _ _ _ _ | exact Kd.S_nil _ _ _ _ _, hb_ HB⟩
  replace c71 := Bool.eq_false_iff.mpr c71
  subst c71
  rw [if_neg (show ¬ (false = true) by decide)] at H
  simp only [Option.some.injEq, Prod.mk.injEq] at H
  obtain ⟨rfl, rfl, rfl, rfl, rfl, rfl, rfl⟩ := H
  have := NB739_721.out
  have := NB721_739.out
  obtain ⟨hcz94_0, hcz94_1, hcz94_2, hcz94_3, hcz94_4, hcz94_5, hfz94_0, hfz94_1, hfz94_2, hfz94_3, hfz94_4, hfz94_5⟩ := bx6 BK739
  obtain ⟨Ao95, co95, eo95⟩ := Kd.R_slice HO_740003.out
  subst eo95
  obtain ⟨Ao96, co96, eo96⟩ := Kd.R_slice HO_740004.out
  subst eo96
  obtain ⟨Ao97, co97, eo97⟩ := Kd.R_slice HO_740005.out
  subst eo97
  go_wp2_with (first | ((with_reducible refine gk_ 31 ?_); refine gq_ 89 Tryz.func31 #[.agg #[.int .i64 t734, .int .i64 t736, .int .i64 t738, .slice Ao95 x740003_2.length co95, .slice Ao96 x740004_2.length co96, .slice Ao97 x740005_2.length co97]] ?_; (with_reducible refine (spec_moGood.calls k2 t734 t736 t738 _ _ x740003_2 _ _ x740004_2 _ _ x740005_2 false _ ?_ ?_ ?_ ?_ ?_ ?_ A70.out).mono ?_); exact Kd.C_o HO_740003; exact (Kd.R_reads' HO_740003.out).2.1; exact Kd.C_o HO_740004; exact (Kd.R_reads' HO_740004.out).2.1; exact Kd.C_o HO_740005; exact (Kd.R_reads' HO_740005.out).2.1; rintro e w98 ⟨rfl, hb⟩; refine ⟨_, rfl, ?_⟩; replace HO_740003 := Kd.R_b HO_740003 hb; replace HO_740004 := Kd.R_b HO_740004 hb; replace HO_740005 := Kd.R_b HO_740005 hb; replace HO_4 := Kd.R_b HO_4 hb; replace BK721 := kb_ BK721 hb; replace BK739 := kb_ BK739 hb; replace HB := hbs_ HB hb; obtain ⟨hcz99_0, hcz99_1, hcz99_2, hcz99_3, hcz99_4, hcz99_5, hfz99_0, hfz99_1, hfz99_2, hfz99_3, hfz99_4, hfz99_5⟩ := bx6 BK721))
  refine bodyPost_ret (results_ct rfl _ _ gb721 28 #[.int .i64 0, .int .i64 0, .int .i64 0, .slice none 0 0, .slice none 0 0, .slice none 0 0] (0, 0) _ rfl (kpq_ (kputs BK721 [(0, _), (1, _), (2, _), (3, _), (4, _), (5, _)])) Tryz.underlying28 rfl (by kernel_rfl)) rfl ?_
  exact ⟨_, _, _, se_, by first | exact Kd.R_nil _ _ _ _ _ | exact Kd.N_nil _ _ _ _ _ | exact Kd.V_nil _ _ _ _ _ | exact Kd.Q_nil _ _ _ _ _ | exact Kd.S_nil _ _ _ _ _, by first | exact Kd.R_nil _ _ _ _ _ | exact Kd.N_nil _ _ _ _ _ | exact Kd.V_nil _ _ _ _ _ | exact Kd.Q_nil _ _ _ _ _ | exact Kd.S_nil _ _ _ _ _, by first | exact Kd.R_nil _ _ _ _ _ | exact Kd.N_nil _ _ _ _ _ | exact Kd.V_nil _ _ _ _ _ | exact Kd.Q_nil _ _ _ _ _ | exact Kd.S_nil _ _ _ _ _, hb_ HB⟩
 rw [if_neg c16] at H
 have c16b0 : ((t730.length : Int) == 3) = false := beq_eq_false_iff_ne.mpr c16
 have c16b1 : ((t730.length : Int) != 3) = true := bne_iff_ne.mpr c16
 simp only [Option.some.injEq, Prod.mk.injEq] at H
 obtain ⟨rfl, rfl, rfl, rfl, rfl, rfl, rfl⟩ := H
 obtain ⟨Ao100, co100, eo100⟩ := Kd.R_slice HO_5.out
 subst eo100
 have p729 : 0 ≤ (1 : Int) := (by omega)
 have q729 : 1 < (t726.length : Int) := od_
 obtain ⟨ad729, e729, hx729_0⟩ := Kd.at_string (Kd.R_reads' HO_5.out).2.2 1 p729 q729
 cases e729
 (try simp only [show (1 : Int).toNat = 1 from rfl, Nat.reduceMul, Nat.reduceEqDiff, Go.Addr.add, ↓reduceIte] at hx729_0)
 have qi729 : (1 < t726.length) = True := eq_true (by omega)
 (try rw [show ((1 : Int)).toNat = 1 from rfl] at hx729_0)
 replace p729 := eq_true p729
 replace q729 := eq_true q729
 go_wp2_with (first | ((with_reducible refine gk_ 53 ?_); refine gq_ 29 Tryz.func53 #[.string (rdOf ByteArray.empty t726 1), .int .u8 120] ?_; (with_reducible refine (spec_l1Split.calls kj4 (rdOf ByteArray.empty t726 1) 120 t730 _ A15.out).mono ?_); rintro e w101 ⟨v731, rfl, ho0, hb⟩; refine ⟨_, rfl, ?_⟩; have HO732 := Kd.R_lo (Kd.R_nw (Kd.R_nw ho0 HO_4) HO_5) HB; replace HO_4 := Kd.R_e HO_4 ho0 hb; replace HO_5 := Kd.R_e HO_5 ho0 hb; replace BK721 := kb_ BK721 hb; replace HB := hbs_ HB hb; obtain ⟨Ao102, co102, eo102⟩ := Kd.R_slice HO732.out; subst eo102; obtain ⟨hcz103_0, hcz103_1, hcz103_2, hcz103_3, hcz103_4, hcz103_5, hfz103_0, hfz103_1, hfz103_2, hfz103_3, hfz103_4, hfz103_5⟩ := bx6 BK721))
 refine bodyPost_ret (results_ct rfl _ _ gb721 28 #[.int .i64 0, .int .i64 0, .int .i64 0, .slice none 0 0, .slice none 0 0, .slice none 0 0] (0, 0) _ rfl (kpq_ (kputs BK721 [(0, _), (1, _), (2, _), (3, _), (4, _), (5, _)])) Tryz.underlying28 rfl (by kernel_rfl)) rfl ?_
 exact ⟨_, _, _, se_, by first | exact Kd.R_nil _ _ _ _ _ | exact Kd.N_nil _ _ _ _ _ | exact Kd.V_nil _ _ _ _ _ | exact Kd.Q_nil _ _ _ _ _ | exact Kd.S_nil _ _ _ _ _, by first | exact Kd.R_nil _ _ _ _ _ | exact Kd.N_nil _ _ _ _ _ | exact Kd.V_nil _ _ _ _ _ | exact Kd.Q_nil _ _ _ _ _ | exact Kd.S_nil _ _ _ _ _, by first | exact Kd.R_nil _ _ _ _ _ | exact Kd.N_nil _ _ _ _ _ | exact Kd.V_nil _ _ _ _ _ | exact Kd.Q_nil _ _ _ _ _ | exact Kd.S_nil _ _ _ _ _, hb_ HB⟩

end Go.Proofs.YthphbkkkbolcnaaGreatDoor.PFnModels
