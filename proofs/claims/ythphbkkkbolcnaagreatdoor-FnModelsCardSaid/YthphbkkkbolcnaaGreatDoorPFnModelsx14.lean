-- Laid for this claim by wip/tools/print2.sh, a changed copy of the kit's print (wip/tools/patch_print.py): not by print.sh.
import Derived.Test.YthphbkkkbolcnaaGreatDoorPFnModelsx1
import Derived.Test.YthphbkkkbolcnaaGreatDoorPFnModelsx8
import Derived.Test.YthphbkkkbolcnaaGreatDoorVFnModels
namespace Go.Proofs.YthphbkkkbolcnaaGreatDoor.PFnModels
set_option maxHeartbeats 8000000
set_option maxRecDepth 100000
open Go.RowKit Go.Proofs.YthphbkkkbolcnaaGreatDoorW.PrintWords Go.Proofs.YthphbkkkbolcnaaGreatDoorW.PrintLast Go.Proofs.YthphbkkkbolcnaaGreatDoorW.PrintMore
set_option linter.unusedVariables false
set_option linter.unusedSimpArgs false

attribute [local go_sem high] eqA25
/-! ### spec_RockTonnes: function 13 -/
def spec_RockTonnes.l0 : Nat → List Int → List Int → Int → Int → Int → Int → Int → List Int → List Int → List Int → Option (List Int × Bool)
 | 0, _, _, _, _, _, _, _, _, _, _ => none
 | k + 1, x4, x12, x13, x14, x493000, x493001, x493002, x493003, x493004, x493005 => if x14 < x13 then (if 0 ≤ x14 then (if x14 < (x12.length : Int) then (if 0 ≤ (rd x12 x14) then (if (rd x12 x14) < (x4.length : Int) then (if x14 < (x493003.length : Int) then (spec_RockTonnes.l0 k (x4.set ((rd x12 x14) : Int).toNat (wrap64 ((rd x4 (rd x12 x14)) + (rd x493003 x14)))) x12 x13 (wrap64 (x14 + 1)) x493000 x493001 x493002 x493003 x493004 x493005) else (none)) else (none)) else (none)) else (none)) else (none)) else (some (x4, true))
def spec_RockTonnes.f (k : Nat) (a0_0 : Int) (a0_1 : Int) (a0_2 : Int) (l0_3 : List Int) (l0_4 : List Int) (l0_5 : List Int) : Option (List Int × Bool) := (spec_moGood.f k a0_0 a0_1 a0_2 l0_3 l0_4 l0_5).bind fun t493 => (if t493 = true then (if 5 ≤ 35184372088832 then (spec_RockTonnes.l0 k (List.replicate 5 0) l0_5 (l0_5.length : Int) 0 a0_0 a0_1 a0_2 l0_3 l0_4 l0_5) else (none)) else (some (([] : List Int), false)))
def spec_RockTonnes.T7 : Bool × List (List Nat × List Nat) := (true, [([], []), ([], []), ([0, 1], [0, 1]), ([2], [2]), ([], []), ([4], [4]), ([], []), ([5, 6], [5, 6]), ([7], [7]), ([3, 8], [3, 8]), ([0, 1, 0, 1, 2, 3, 4, 5, 6, 7, 8, 9], [0, 1]), ([10, 9, 0, 1, 2, 3, 4, 5, 6, 7, 8, 9], [9, 10])])
def spec_RockTonnes.B7 : List Nat := [0, 0, 3, 7, 0, 16, 0, 112, 240, 511, 1023, 2047]
theorem spec_RockTonnes.tab7 : rtab .any (opsOf Tryz.f13 7) = spec_RockTonnes.T7 := by kernel_rfl
theorem spec_RockTonnes.bits7 : waitsOk spec_RockTonnes.T7.2 spec_RockTonnes.B7 = true := by kernel_rfl
theorem spec_RockTonnes.calls (k : Nat) (a0_0 : Int) (a0_1 : Int) (a0_2 : Int) (A0_3 : Option Addr) (c0_3 : Nat) (l0_3 : List Int) (A0_4 : Option Addr) (c0_4 : Nat) (l0_4 : List Int) (A0_5 : Option Addr) (c0_5 : Nat) (l0_5 : List Int) (r1 : List Int) (r2 : Bool) (w : World) (hr0_3 : Kd.C (Kd.int .i64) w A0_3 l0_3.length l0_3) (hc0_3 : l0_3.length ≤ c0_3) (hr0_4 : Kd.C (Kd.int .i64) w A0_4 l0_4.length l0_4) (hc0_4 : l0_4.length ≤ c0_4) (hr0_5 : Kd.C (Kd.int .i64) w A0_5 l0_5.length l0_5) (hc0_5 : l0_5.length ≤ c0_5) (h : spec_RockTonnes.f k a0_0 a0_1 a0_2 l0_3 l0_4 l0_5 = some (r1, r2)) :
  Calls Tryz.prog 13 #[.agg #[.int .i64 a0_0, .int .i64 a0_1, .int .i64 a0_2, .slice A0_3 l0_3.length c0_3, .slice A0_4 l0_4.length c0_4, .slice A0_5 l0_5.length c0_5]] w fun e w' => ∃ v0_ : Value, e = .returned (.tuple #[v0_, .bool r2]) ∧ Kd.R (Kd.int .i64) 3 w' w.heap.size (fun _ => True) v0_ r1 ∧ Below w.heap.size w w' := by
 have hu28 := Tryz.underlying28
 have HR0_3 := am_ hr0_3
 have HC0_3 := am_ hc0_3
 clear hr0_3 hc0_3
 have HR0_4 := am_ hr0_4
 have HC0_4 := am_ hc0_4
 clear hr0_4 hc0_4
 have HR0_5 := am_ hr0_5
 have HC0_5 := am_ hc0_5
 clear hr0_5 hc0_5
 have HB := am_ (Below.refl w.heap.size w)
 have H := h
 unfold spec_RockTonnes.f at H
 clear h
 revert H; refine bn_ ?_; rintro t493 A2 H; try dsimp only at H
 by_cases c3 : t493 = true
 ·subst c3
  rw [if_pos rfl] at H
  revert H; refine pf_ fun c4 H => ?_
  have c4b0 := eq_true c4
  have c4b1 := decide_eq_true c4
  clear c4
  obtain ⟨y494, hy494⟩ : ∃ y_ : List Int, y_ = (List.replicate 5 0) := ⟨_, rfl⟩
  (try with_reducible replace H := (Option.bind_some _ _).symm.trans H); (try dsimp only at H); (try rw [← hy494] at H)
  have Ny494 := am_ hy494
  clear hy494
  have H' := am_ H
  clear H
  go_enter Tryz.func13, Tryz.ntmps13
  go_wp2_with (first | ((with_reducible refine gate_dst (N := 1) rfl ?_); refine bv_ 1 (cs := #[.int .i64 a0_0, .int .i64 a0_1, .int .i64 a0_2, .slice A0_3 l0_3.length c0_3, .slice A0_4 l0_4.length c0_4, .slice A0_5 l0_5.length c0_5]) (t := 28) ?_; intro gb492 hg w5 hbox hb; have BK492 := am_ (hbox); have GW492 := gs_ hg HB; have GE492 := gs_ hg HB; replace HB := hbs_ HB hb; clear hb hbox hg; obtain ⟨hcz6_0, hcz6_1, hcz6_2, hcz6_3, hcz6_4, hcz6_5, hfz6_0, hfz6_1, hfz6_2, hfz6_3, hfz6_4, hfz6_5⟩ := bx6 BK492) | ((with_reducible refine gk_ 31 ?_); refine gq_ 8 Tryz.func31 #[.agg #[.int .i64 a0_0, .int .i64 a0_1, .int .i64 a0_2, .slice A0_3 l0_3.length c0_3, .slice A0_4 l0_4.length c0_4, .slice A0_5 l0_5.length c0_5]] ?_; (with_reducible refine (spec_moGood.calls k a0_0 a0_1 a0_2 _ _ l0_3 _ _ l0_4 _ _ l0_5 true _ ?_ ?_ ?_ ?_ ?_ ?_ A2.out).mono ?_); exact Kd.C_w HR0_3 HB; exact HC0_3.out; exact Kd.C_w HR0_4 HB; exact HC0_4.out; exact Kd.C_w HR0_5 HB; exact HC0_5.out; rintro e w7 ⟨rfl, hb⟩; refine ⟨_, rfl, ?_⟩; replace BK492 := kb_ BK492 hb; replace HB := hbs_ HB hb) | ((with_reducible refine gate_dst (N := 10) rfl ?_); refine Kd.R_make (Kd.int .i64) _ 3 rfl (N := 10) rfl 26 _ _ rfl 5 rfl rfl Tryz.underlying26 (.int .i64 0) 8 info3 rfl (by decide) (by omega) 0 (ok := fun _ => True) (okp := fun _ => True) rfl (fun _ hk => hk) trivial (by omega) (by omega) (Below.refl _ _) (Nat.le_refl _) ?_; intro v495 w8 ho9 hb hg_ hnew_; clear hg_ hnew_; (first | rw [← Ny494.out] at ho9 | (simp only [Int.reduceToNat] at ho9; rw [← Ny494.out] at ho9)); have HO496 := Kd.R_lo ho9 HB; replace BK492 := kb_ BK492 hb; replace HB := hbs_ HB hb; clear hb ho9; obtain ⟨hcz10_0, hcz10_1, hcz10_2, hcz10_3, hcz10_4, hcz10_5, hfz10_0, hfz10_1, hfz10_2, hfz10_3, hfz10_4, hfz10_5⟩ := bx6 BK492))
  go_loopg [14] k (fun kq v14 w' => ∃ (x4_1 : List Int) (x14_1 : Int), v14 = .int .i64 x14_1 ∧ Aside0 (spec_RockTonnes.l0 kq x4_1 l0_5 (l0_5.length : Int) x14_1 a0_0 a0_1 a0_2 l0_3 l0_4 l0_5 = some (r1, r2)) ∧ Aside0 (kq ≤ k) ∧ Aside0 (Kd.R (Kd.int .i64) 3 w' w.heap.size (fun _ => True) v495 x4_1) ∧ Aside0 (w'.heap[gb492]? = some (.cells #[.int .i64 a0_0, .int .i64 a0_1, .int .i64 a0_2, (.slice A0_3 l0_3.length c0_3), (.slice A0_4 l0_4.length c0_4), (.slice A0_5 l0_5.length c0_5)] 28 (0, 0))) ∧ Aside0 (Below w.heap.size w w'))
  case atStart => exact ⟨(y494), (0), sr_, H', ⟨Nat.le_refl _⟩, ⟨Kd.R_p HO496⟩, ⟨kp_ BK492⟩, ⟨hb_ HB⟩⟩
  clear H'
  obtain ⟨x4_1, x14_1, rfl, HA, HK1, HO_4, BK492, HB⟩ := hrel
  cases gk with
  | zero => exact absurd HA.out (by simp [spec_RockTonnes.l0])
  | succ k1 => ?_
  have H := HA.out
  clear HA
  simp only [spec_RockTonnes.l0] at H
  by_cases c11 : x14_1 < (l0_5.length : Int)
  case neg => rw [if_neg c11] at H; have c11b0 := decide_eq_false c11; clear c11; simp only [Option.some.injEq, Prod.mk.injEq] at H; obtain ⟨rfl, rfl⟩ := H; go_wp2; go_ret2; (exact ⟨_, se_, Kd.R_p HO_4, hb_ HB⟩)
  rw [if_pos c11] at H
  have c11b0 := decide_eq_true c11
  clear c11
  revert H; refine pd_ fun c12b0 H => ?_
  revert H; refine pd_ fun c13b0 H => ?_
  revert H; refine pd_ fun c14b0 H => ?_
  revert H; refine pd_ fun c15b0 H => ?_
  revert H; refine pd_ fun c16b0 H => ?_
  obtain ⟨y500, hy500⟩ : ∃ y_ : List Int, y_ = (x4_1.set ((rd l0_5 x14_1) : Int).toNat (wrap64 ((rd x4_1 (rd l0_5 x14_1)) + (rd l0_3 x14_1)))) := ⟨_, rfl⟩
  (try with_reducible replace H := (Option.bind_some _ _).symm.trans H); (try dsimp only at H); (try rw [← hy500] at H)
  have Ny500 := am_ hy500
  clear hy500
  have H' := am_ H
  clear H
  have p497 : 0 ≤ (x14_1 : Int) := od_
  have q497 : x14_1 < (l0_5.length : Int) := od_
  obtain ⟨ad497, e497, hx497_0⟩ := Kd.at_int HR0_5.out x14_1 p497 q497
  cases e497
  try replace hx497_0 := hc_ HB hx497_0
  replace p497 := eq_true p497
  replace q497 := eq_true q497
  try go_wp2
  replace HO_4 := am_ (Kd.R_drew HO_4.out)
  replace BK492 := am_ (blk_drew BK492.out)
  replace HB := am_ (below_drew1 HB.out)
  obtain ⟨Ao19, co19, eo19⟩ := Kd.R_slice HO_4.out
  (first | subst eo19 | (injection eo19 with f1_ f2_ f3_; have f4_ := f1_.symm; have f5_ := f3_.symm; clear f1_ f2_ f3_; subst f4_; subst f5_))
  obtain ⟨ad498, e498, hx498_0, p498, q498⟩ := ai_ (Kd.R_reads' HO_4.out).2.2 (rd l0_5 x14_1)
  cases e498
  have p499 : 0 ≤ (x14_1 : Int) := od_
  have q499 : x14_1 < (l0_3.length : Int) := od_
  obtain ⟨ad499, e499, hx499_0⟩ := Kd.at_int HR0_3.out x14_1 p499 q499
  have hw499_0 := hx499_0
  cases e499
  try replace hx499_0 := hc_ HB hx499_0
  replace p499 := eq_true p499
  replace q499 := eq_true q499
  have p17 : 0 ≤ ((rd l0_5 x14_1) : Int) := od_
  have q17 : ((rd l0_5 x14_1) : Int) < ((x4_1.length : Int) : Int) := od_
  obtain ⟨go17, co17, eo17, gb17, gl17, cl17, HG17⟩ := Kd.R_form HO_4.out (by omega)
  (first | cases eo17 | (injection eo17 with ea_ en_ ec_; (first | subst ea_ | (injection ea_ with ea_; subst ea_)); subst ec_; clear en_))
  have GB17 := am_ gb17
  have GG17 := am_ HG17
  clear gb17 gl17 HG17
  (first | simp only [add_plain] at hx498_0 | skip)
  obtain ⟨hx17_0, hf17_0⟩ := Kd.R_celln 0 HO_4.out ((rd l0_5 x14_1) : Int) p17 q17
  replace p17 := eq_true p17
  replace q17 := eq_true q17
  have HP20 := Kd.R_putn HO_4.out ((rd l0_5 x14_1) : Int) (wrap64 ((rd x4_1 (rd l0_5 x14_1)) + (rd l0_3 x14_1)))
  rw [← Ny500.out] at HP20
  have HQ20 := am_ HP20
  clear HP20
  refine start_ (n := 12) (S := fun w' => w'.cell? ⟨gb492, 0, none⟩ = some (.int .i64 a0_0) ∧ w'.cell? ⟨gb492, 1, none⟩ = some (.int .i64 a0_1) ∧ w'.cell? ⟨gb492, 2, none⟩ = some (.int .i64 a0_2) ∧ w'.cell? ⟨gb492, 3, none⟩ = some (.slice (some ad499) l0_3.length c0_3) ∧ w'.cell? ⟨gb492, 4, none⟩ = some (.slice A0_4 l0_4.length c0_4) ∧ w'.cell? ⟨gb492, 5, none⟩ = some (.slice (some ad497) l0_5.length c0_5) ∧ w'.cell? ⟨go17, ((rd l0_5 x14_1)).toNat, none⟩ = some (.int .i64 (rd x4_1 (rd l0_5 x14_1))) ∧ w'.cell? (ad499.add (x14_1).toNat) = some (.int .i64 (rd l0_3 x14_1))) (ds := [11]) (bb 12 0) (by kernel_rfl) rfl rfl ⟨(blk_cell BK492.out 0).trans rfl, (blk_cell BK492.out 1).trans rfl, (blk_cell BK492.out 2).trans rfl, (blk_cell BK492.out 3).trans rfl, (blk_cell BK492.out 4).trans rfl, (blk_cell BK492.out 5).trans rfl, hx498_0, (hcl_ HB hw499_0)⟩ (fun hHeld => ?_); refine with_tabW spec_RockTonnes.tab7 spec_RockTonnes.bits7 (fun HT_ HW_ => ?_)
  generalize wr.drew = w18 at HO_4 BK492 HB GG17 HQ20 hf17_0 hx17_0 hx498_0 hx499_0 hHeld ⊢
  refine pm_ HT_ 0 19 12 1 ?_
  refine pm_ HT_ 1 20 12 3 ?_
  refine pm_ HT_ 2 21 12 7 ?_
  refine pm_ HT_ 4 23 12 23 ?_
  refine pm_ HT_ 6 25 12 87 ?_
  refine tk_ HT_ HW_ hHeld 3 (some 22) (bb 12 95) (h := ?_)
  refine tk_ HT_ HW_ hHeld 5 (some 24) (bb 12 127) (h := ?_)
  refine pm_ HT_ 7 26 12 255 ?_
  refine tk_ HT_ HW_ hHeld 8 (some 27) (bb 12 511) (h := ?_)
  refine pm_ HT_ 9 28 12 1023 ?_
  refine pm_ HT_ 10 29 12 2047 ?_
  refine last_ (i := 11) (N := none) (bb 12 4095) rfl rfl (one_of HT_.out (by kernel_rfl)) (by decide) (fun K hK => ?_)
  refine skip_ (w1 := ?_) (by rfl) rfl ?_ ?_
  rotate_left
  ·go_simp
   rfl
  refine hK.out _ _ ?_
  clear hK K
  refine done_ (done_of HT_.out (by kernel_rfl)) ?_
  try go_wp2
  go_roundg k1
  case measure => have := HK1.out; omega
  case rel => exact ⟨(y500), (wrap64 (x14_1 + 1)), sr_, H', ⟨by have := HK1.out; omega⟩, ⟨Kd.R_p HQ20⟩, ⟨by (with_reducible repeat (first | refine blk_drewN ?_ _ | refine blk_drew ?_ | refine blk_alloc ?_ _)); refine blk_far ?_ (by have h_ := Kd.R_ne HO_4.out BK492.out (by decide); intro e_; exact h_ (by rw [e_]; rfl)) _; (with_reducible repeat (first | refine blk_drewN ?_ _ | refine blk_drew ?_ | refine blk_alloc ?_ _)); exact BK492.out⟩, ⟨by repeat (first | (with_reducible first | exact HB.out | apply below_alloc | apply pw_below_drewN | apply below_drew1 | refine below_set ?_ GB17.out | refine below_set ?_ GE492.out) | exact HB.out)⟩⟩
 replace c3 := Bool.eq_false_iff.mpr c3
 subst c3
 rw [if_neg (show ¬ (false = true) by decide)] at H
 simp only [Option.some.injEq, Prod.mk.injEq] at H
 obtain ⟨rfl, rfl⟩ := H
 go_enter Tryz.func13, Tryz.ntmps13
 go_wp2_with (first | ((with_reducible refine gate_dst (N := 1) rfl ?_); refine bv_ 1 (cs := #[.int .i64 a0_0, .int .i64 a0_1, .int .i64 a0_2, .slice A0_3 l0_3.length c0_3, .slice A0_4 l0_4.length c0_4, .slice A0_5 l0_5.length c0_5]) (t := 28) ?_; intro gb492 hg w21 hbox hb; have BK492 := am_ (hbox); have GW492 := gs_ hg HB; have GE492 := gs_ hg HB; replace HB := hbs_ HB hb; clear hb hbox hg; obtain ⟨hcz22_0, hcz22_1, hcz22_2, hcz22_3, hcz22_4, hcz22_5, hfz22_0, hfz22_1, hfz22_2, hfz22_3, hfz22_4, hfz22_5⟩ := bx6 BK492) | ((with_reducible refine gk_ 31 ?_); refine gq_ 8 Tryz.func31 #[.agg #[.int .i64 a0_0, .int .i64 a0_1, .int .i64 a0_2, .slice A0_3 l0_3.length c0_3, .slice A0_4 l0_4.length c0_4, .slice A0_5 l0_5.length c0_5]] ?_; (with_reducible refine (spec_moGood.calls k a0_0 a0_1 a0_2 _ _ l0_3 _ _ l0_4 _ _ l0_5 false _ ?_ ?_ ?_ ?_ ?_ ?_ A2.out).mono ?_); exact Kd.C_w HR0_3 HB; exact HC0_3.out; exact Kd.C_w HR0_4 HB; exact HC0_4.out; exact Kd.C_w HR0_5 HB; exact HC0_5.out; rintro e w23 ⟨rfl, hb⟩; refine ⟨_, rfl, ?_⟩; replace BK492 := kb_ BK492 hb; replace HB := hbs_ HB hb))
 go_ret2
 exact ⟨_, se_, by first | exact Kd.R_nil _ _ _ _ _ | exact Kd.N_nil _ _ _ _ _ | exact Kd.V_nil _ _ _ _ _ | exact Kd.Q_nil _ _ _ _ _ | exact Kd.S_nil _ _ _ _ _, hb_ HB⟩

/-! ### laws_sameInts: function 16 -/
def laws_sameInts.l0 : Nat → List Int → List Int → Int → Int → Option (Bool)
 | 0, _, _, _, _ => none
 | k + 1, x0, x1, x12, x13 => if x13 < x12 then (if 0 ≤ x13 then (if x13 < (x0.length : Int) then (if x13 < (x1.length : Int) then (if (rd x0 x13) = (rd x1 x13) then (laws_sameInts.l0 k x0 x1 x12 (wrap64 (x13 + 1))) else (some false)) else (none)) else (none)) else (none)) else (some true)
def laws_sameInts.f (k : Nat) (l0 : List Int) (l1 : List Int) : Option (Bool) := if (l0.length : Int) = (l1.length : Int) then (laws_sameInts.l0 k l0 l1 (l0.length : Int) 0) else (some false)
theorem laws_sameInts.calls (k : Nat) (A0 : Option Addr) (c0 : Nat) (l0 : List Int) (A1 : Option Addr) (c1 : Nat) (l1 : List Int) (r : Bool) (w : World) (hr0 : Kd.C (Kd.int .i64) w A0 l0.length l0) (hc0 : l0.length ≤ c0) (hr1 : Kd.C (Kd.int .i64) w A1 l1.length l1) (hc1 : l1.length ≤ c1) (h : laws_sameInts.f k l0 l1 = some r) :
  Calls Tryz.prog 16 #[.slice A0 l0.length c0, .slice A1 l1.length c1] w fun e w' => e = .returned (.bool r) ∧ Drawn0 w w' := by
 have HR0 := am_ hr0
 have HC0 := am_ hc0
 clear hr0 hc0
 have HR1 := am_ hr1
 have HC1 := am_ hc1
 clear hr1 hc1
 have H := h
 unfold laws_sameInts.f at H
 clear h
 by_cases c3 : (l0.length : Int) = (l1.length : Int)
 ·rw [if_pos c3] at H
  have c3b0 : ((l0.length : Int) == (l1.length : Int)) = true := beq_iff_eq.mpr c3
  have c3b1 : ((l0.length : Int) != (l1.length : Int)) = false := bne_eq_false_iff_eq.mpr c3
  have c3b2 : (l0.length == l1.length) = true := by first | simpa using c3 | (simp at c3 ⊢; omega)
  clear c3
  have H' := am_ H
  clear H
  go_enter Tryz.func16, Tryz.ntmps16
  go_wp2
  repeat (go_quiet (fail); try go_wp2)
  go_loopg [13] k (fun kq v13 w' => ∃ (x13_1 : Int), v13 = .int .i64 x13_1 ∧ Aside0 (laws_sameInts.l0 kq l0 l1 (l0.length : Int) x13_1 = some r) ∧ Aside0 (kq ≤ k) ∧ Drawn0 w w')
  case atStart => exact ⟨(0), sr_, H', ⟨Nat.le_refl _⟩, by repeat (first | exact Drawn0.refl _ | apply Drawn0.step)⟩
  clear H'
  obtain ⟨x13_1, rfl, HA, HK1, ⟨m1, rfl⟩⟩ := hrel
  cases gk with
  | zero => exact absurd HA.out (by simp [laws_sameInts.l0])
  | succ k1 => ?_
  have H := HA.out
  clear HA
  simp only [laws_sameInts.l0] at H
  by_cases c4 : x13_1 < (l0.length : Int)
  case neg => rw [if_neg c4] at H; have c4b0 := decide_eq_false c4; clear c4; obtain rfl := Option.some.inj H; go_wp2; (repeat (go_quiet (fail); try go_wp2)); go_ret; (exact ⟨by first | rfl | (simp; done) | (simp [*]; done), by repeat (first | exact Drawn0.refl _ | apply Drawn0.step)⟩)
  rw [if_pos c4] at H
  have c4b0 := decide_eq_true c4
  clear c4
  revert H; refine pd_ fun c5b0 H => ?_
  revert H; refine pd_ fun c6b0 H => ?_
  revert H; refine pd_ fun c7b0 H => ?_
  by_cases c8 : (rd l0 x13_1) = (rd l1 x13_1)
  ·rw [if_pos c8] at H
   have c8b0 : ((rd l0 x13_1) == (rd l1 x13_1)) = true := beq_iff_eq.mpr c8
   have c8b1 : ((rd l0 x13_1) != (rd l1 x13_1)) = false := bne_eq_false_iff_eq.mpr c8
   clear c8
   have H' := am_ H
   clear H
   obtain ⟨ad501, e501, hx501_0, p501, q501⟩ := ai_ HR0.out x13_1
   cases e501
   obtain ⟨ad502, e502, hx502_0, p502, q502⟩ := ai_ HR1.out x13_1
   cases e502
   go_wp2
   repeat (go_quiet (fail); try go_wp2)
   go_roundg k1
   case measure => have := HK1.out; omega
   case rel => exact ⟨(wrap64 (x13_1 + 1)), sr_, H', ⟨by have := HK1.out; omega⟩, by repeat (first | exact Drawn0.refl _ | apply Drawn0.step)⟩
  rw [if_neg c8] at H
  have c8b0 : ((rd l0 x13_1) == (rd l1 x13_1)) = false := beq_eq_false_iff_ne.mpr c8
  have c8b1 : ((rd l0 x13_1) != (rd l1 x13_1)) = true := bne_iff_ne.mpr c8
  obtain rfl := Option.some.inj H
  obtain ⟨ad501, e501, hx501_0, p501, q501⟩ := ai_ HR0.out x13_1
  cases e501
  obtain ⟨ad502, e502, hx502_0, p502, q502⟩ := ai_ HR1.out x13_1
  cases e502
  go_wp2
  repeat (go_quiet (fail); try go_wp2)
  go_ret
  exact ⟨by first | rfl | (simp; done) | (simp [*]; done), by repeat (first | exact Drawn0.refl _ | apply Drawn0.step)⟩
 rw [if_neg c3] at H
 have c3b0 : ((l0.length : Int) == (l1.length : Int)) = false := beq_eq_false_iff_ne.mpr c3
 have c3b1 : ((l0.length : Int) != (l1.length : Int)) = true := bne_iff_ne.mpr c3
 have c3b2 : (l0.length == l1.length) = false := by first | simpa using c3 | (simp at c3 ⊢; omega)
 obtain rfl := Option.some.inj H
 go_enter Tryz.func16, Tryz.ntmps16
 go_wp2
 repeat (go_quiet (fail); try go_wp2)
 go_ret
 exact ⟨by first | rfl | (simp; done) | (simp [*]; done), by repeat (first | exact Drawn0.refl _ | apply Drawn0.step)⟩

/-! ### laws_pSameModel: function 14 -/
def laws_pSameModel.f (k : Nat) (a0_0 : Int) (a0_1 : Int) (a0_2 : Int) (l0_3 : List Int) (l0_4 : List Int) (l0_5 : List Int) (a1_0 : Int) (a1_1 : Int) (a1_2 : Int) (l1_3 : List Int) (l1_4 : List Int) (l1_5 : List Int) : Option (Bool) := if (a0_0 == a1_0 && (a0_1 == a1_1 && (a0_2 == a1_2))) = true then ((laws_sameInts.f k l0_3 l1_3).bind fun t505 => (if t505 = true then ((laws_sameInts.f k l0_4 l1_4).bind fun t506 => (if t506 = true then ((laws_sameInts.f k l0_5 l1_5).bind fun t507 => (some t507)) else (some false))) else (some false))) else (some false)
theorem laws_pSameModel.calls (k : Nat) (a0_0 : Int) (a0_1 : Int) (a0_2 : Int) (A0_3 : Option Addr) (c0_3 : Nat) (l0_3 : List Int) (A0_4 : Option Addr) (c0_4 : Nat) (l0_4 : List Int) (A0_5 : Option Addr) (c0_5 : Nat) (l0_5 : List Int) (a1_0 : Int) (a1_1 : Int) (a1_2 : Int) (A1_3 : Option Addr) (c1_3 : Nat) (l1_3 : List Int) (A1_4 : Option Addr) (c1_4 : Nat) (l1_4 : List Int) (A1_5 : Option Addr) (c1_5 : Nat) (l1_5 : List Int) (r : Bool) (w : World) (hr0_3 : Kd.C (Kd.int .i64) w A0_3 l0_3.length l0_3) (hc0_3 : l0_3.length ≤ c0_3) (hr0_4 : Kd.C (Kd.int .i64) w A0_4 l0_4.length l0_4) (hc0_4 : l0_4.length ≤ c0_4) (hr0_5 : Kd.C (Kd.int .i64) w A0_5 l0_5.length l0_5) (hc0_5 : l0_5.length ≤ c0_5) (hr1_3 : Kd.C (Kd.int .i64) w A1_3 l1_3.length l1_3) (hc1_3 : l1_3.length ≤ c1_3) (hr1_4 : Kd.C (Kd.int .i64) w A1_4 l1_4.length l1_4) (hc1_4 : l1_4.length ≤ c1_4) (hr1_5 : Kd.C (Kd.int .i64) w A1_5 l1_5.length l1_5) (hc1_5 : l1_5.length ≤ c1_5) (h : laws_pSameModel.f k a0_0 a0_1 a0_2 l0_3 l0_4 l0_5 a1_0 a1_1 a1_2 l1_3 l1_4 l1_5 = some r) :
  Calls Tryz.prog 14 #[.agg #[.int .i64 a0_0, .int .i64 a0_1, .int .i64 a0_2, .slice A0_3 l0_3.length c0_3, .slice A0_4 l0_4.length c0_4, .slice A0_5 l0_5.length c0_5], .agg #[.int .i64 a1_0, .int .i64 a1_1, .int .i64 a1_2, .slice A1_3 l1_3.length c1_3, .slice A1_4 l1_4.length c1_4, .slice A1_5 l1_5.length c1_5]] w fun e w' => e = .returned (.bool r) ∧ Below w.heap.size w w' := by
 have hu28 := Tryz.underlying28
 have hu25 := Tryz.underlying25
 have HR0_3 := am_ hr0_3
 have HC0_3 := am_ hc0_3
 clear hr0_3 hc0_3
 have HR0_4 := am_ hr0_4
 have HC0_4 := am_ hc0_4
 clear hr0_4 hc0_4
 have HR0_5 := am_ hr0_5
 have HC0_5 := am_ hc0_5
 clear hr0_5 hc0_5
 have HR1_3 := am_ hr1_3
 have HC1_3 := am_ hc1_3
 clear hr1_3 hc1_3
 have HR1_4 := am_ hr1_4
 have HC1_4 := am_ hc1_4
 clear hr1_4 hc1_4
 have HR1_5 := am_ hr1_5
 have HC1_5 := am_ hc1_5
 clear hr1_5 hc1_5
 have HB := am_ (Below.refl w.heap.size w)
 have H := h
 unfold laws_pSameModel.f at H
 clear h
 by_cases c3 : (a0_0 == a1_0 && (a0_1 == a1_1 && (a0_2 == a1_2))) = true
 ·rw [if_pos c3] at H
  have c3b0 : (a0_0 == a1_0 && (a0_1 == a1_1 && (a0_2 == a1_2))) = true := c3
  clear c3
  revert H; refine bn_ ?_; rintro t505 A4 H; try dsimp only at H
  by_cases c5 : t505 = true
  ·subst c5
   rw [if_pos rfl] at H
   revert H; refine bn_ ?_; rintro t506 A6 H; try dsimp only at H
   by_cases c7 : t506 = true
   ·subst c7
    rw [if_pos rfl] at H
    revert H; refine bn_ ?_; rintro t507 A8 H; try dsimp only at H
    obtain rfl := Option.some.inj H
    go_enter Tryz.func14, Tryz.ntmps14
    go_wp2_with (first | ((with_reducible refine gate_dst (N := 2) rfl ?_); refine bv_ 2 (cs := #[.int .i64 a0_0, .int .i64 a0_1, .int .i64 a0_2, .slice A0_3 l0_3.length c0_3, .slice A0_4 l0_4.length c0_4, .slice A0_5 l0_5.length c0_5]) (t := 28) ?_; intro gb503 hg w9 hbox hb; have BK503 := am_ (hbox); have GW503 := gs_ hg HB; have GE503 := gs_ hg HB; replace HB := hbs_ HB hb; clear hb hbox hg) | ((with_reducible refine gate_dst (N := 3) rfl ?_); refine bv_ 3 (cs := #[.int .i64 a1_0, .int .i64 a1_1, .int .i64 a1_2, .slice A1_3 l1_3.length c1_3, .slice A1_4 l1_4.length c1_4, .slice A1_5 l1_5.length c1_5]) (t := 28) ?_; intro gb504 hg w10 hbox hb; have BK504 := am_ (hbox); have GW504 := gs_ hg HB; have GE504 := gs_ hg HB; have NB503_504 := nl_ hg BK503; have NB504_503 := ng_ hg BK503; replace BK503 := kb_ BK503 hb; replace HB := hbs_ HB hb; clear hb hbox hg; have := NB503_504.out; have := NB504_503.out; obtain ⟨hcz12_0, hcz12_1, hcz12_2, hcz12_3, hcz12_4, hcz12_5, hfz12_0, hfz12_1, hfz12_2, hfz12_3, hfz12_4, hfz12_5⟩ := bx6 BK503; obtain ⟨hcz13_0, hcz13_1, hcz13_2, hcz13_3, hcz13_4, hcz13_5, hfz13_0, hfz13_1, hfz13_2, hfz13_3, hfz13_4, hfz13_5⟩ := bx6 BK504) | (go_at_call 16; (with_reducible refine (laws_sameInts.calls k _ _ l0_3 _ _ l1_3 true _ ?_ ?_ ?_ ?_ A4.out).mono ?_); exact Kd.C_w HR0_3 HB; exact HC0_3.out; exact Kd.C_w HR1_3 HB; exact HC1_3.out; rintro e w' ⟨rfl, ⟨nd, rfl⟩⟩) | (go_at_call 16; (with_reducible refine (laws_sameInts.calls k _ _ l0_4 _ _ l1_4 true _ ?_ ?_ ?_ ?_ A6.out).mono ?_); exact Kd.C_below HR0_4.out (hb_ HB); exact HC0_4.out; exact Kd.C_below HR1_4.out (hb_ HB); exact HC1_4.out; rintro e w' ⟨rfl, ⟨nd, rfl⟩⟩) | (go_at_call 16; (with_reducible refine (laws_sameInts.calls k _ _ l0_5 _ _ l1_5 t507 _ ?_ ?_ ?_ ?_ A8.out).mono ?_); exact Kd.C_below HR0_5.out (hb_ HB); exact HC0_5.out; exact Kd.C_below HR1_5.out (hb_ HB); exact HC1_5.out; rintro e w' ⟨rfl, ⟨nd, rfl⟩⟩))
    go_ret
    exact ad_ (hb_ HB)
   replace c7 := Bool.eq_false_iff.mpr c7
   subst c7
   rw [if_neg (show ¬ (false = true) by decide)] at H
   obtain rfl := Option.some.inj H
   go_enter Tryz.func14, Tryz.ntmps14
   go_wp2_with (first | ((with_reducible refine gate_dst (N := 2) rfl ?_); refine bv_ 2 (cs := #[.int .i64 a0_0, .int .i64 a0_1, .int .i64 a0_2, .slice A0_3 l0_3.length c0_3, .slice A0_4 l0_4.length c0_4, .slice A0_5 l0_5.length c0_5]) (t := 28) ?_; intro gb503 hg w14 hbox hb; have BK503 := am_ (hbox); have GW503 := gs_ hg HB; have GE503 := gs_ hg HB; replace HB := hbs_ HB hb; clear hb hbox hg) | ((with_reducible refine gate_dst (N := 3) rfl ?_); refine bv_ 3 (cs := #[.int .i64 a1_0, .int .i64 a1_1, .int .i64 a1_2, .slice A1_3 l1_3.length c1_3, .slice A1_4 l1_4.length c1_4, .slice A1_5 l1_5.length c1_5]) (t := 28) ?_; intro gb504 hg w15 hbox hb; have BK504 := am_ (hbox); have GW504 := gs_ hg HB; have GE504 := gs_ hg HB; have NB503_504 := nl_ hg BK503; have NB504_503 := ng_ hg BK503; replace BK503 := kb_ BK503 hb; replace HB := hbs_ HB hb; clear hb hbox hg; have := NB503_504.out; have := NB504_503.out; obtain ⟨hcz17_0, hcz17_1, hcz17_2, hcz17_3, hcz17_4, hcz17_5, hfz17_0, hfz17_1, hfz17_2, hfz17_3, hfz17_4, hfz17_5⟩ := bx6 BK503; obtain ⟨hcz18_0, hcz18_1, hcz18_2, hcz18_3, hcz18_4, hcz18_5, hfz18_0, hfz18_1, hfz18_2, hfz18_3, hfz18_4, hfz18_5⟩ := bx6 BK504) | (go_at_call 16; (with_reducible refine (laws_sameInts.calls k _ _ l0_3 _ _ l1_3 true _ ?_ ?_ ?_ ?_ A4.out).mono ?_); exact Kd.C_w HR0_3 HB; exact HC0_3.out; exact Kd.C_w HR1_3 HB; exact HC1_3.out; rintro e w' ⟨rfl, ⟨nd, rfl⟩⟩) | (go_at_call 16; (with_reducible refine (laws_sameInts.calls k _ _ l0_4 _ _ l1_4 false _ ?_ ?_ ?_ ?_ A6.out).mono ?_); exact Kd.C_below HR0_4.out (hb_ HB); exact HC0_4.out; exact Kd.C_below HR1_4.out (hb_ HB); exact HC1_4.out; rintro e w' ⟨rfl, ⟨nd, rfl⟩⟩))
   go_ret
   exact ad_ (hb_ HB)
  replace c5 := Bool.eq_false_iff.mpr c5
  subst c5
  rw [if_neg (show ¬ (false = true) by decide)] at H
  obtain rfl := Option.some.inj H
  go_enter Tryz.func14, Tryz.ntmps14
  go_wp2_with (first | ((with_reducible refine gate_dst (N := 2) rfl ?_); refine bv_ 2 (cs := #[.int .i64 a0_0, .int .i64 a0_1, .int .i64 a0_2, .slice A0_3 l0_3.length c0_3, .slice A0_4 l0_4.length c0_4, .slice A0_5 l0_5.length c0_5]) (t := 28) ?_; intro gb503 hg w19 hbox hb; have BK503 := am_ (hbox); have GW503 := gs_ hg HB; have GE503 := gs_ hg HB; replace HB := hbs_ HB hb; clear hb hbox hg) | ((with_reducible refine gate_dst (N := 3) rfl ?_); refine bv_ 3 (cs := #[.int .i64 a1_0, .int .i64 a1_1, .int .i64 a1_2, .slice A1_3 l1_3.length c1_3, .slice A1_4 l1_4.length c1_4, .slice A1_5 l1_5.length c1_5]) (t := 28) ?_; intro gb504 hg w20 hbox hb; have BK504 := am_ (hbox); have GW504 := gs_ hg HB; have GE504 := gs_ hg HB; have NB503_504 := nl_ hg BK503; have NB504_503 := ng_ hg BK503; replace BK503 := kb_ BK503 hb; replace HB := hbs_ HB hb; clear hb hbox hg; have := NB503_504.out; have := NB504_503.out; obtain ⟨hcz22_0, hcz22_1, hcz22_2, hcz22_3, hcz22_4, hcz22_5, hfz22_0, hfz22_1, hfz22_2, hfz22_3, hfz22_4, hfz22_5⟩ := bx6 BK503; obtain ⟨hcz23_0, hcz23_1, hcz23_2, hcz23_3, hcz23_4, hcz23_5, hfz23_0, hfz23_1, hfz23_2, hfz23_3, hfz23_4, hfz23_5⟩ := bx6 BK504) | (go_at_call 16; (with_reducible refine (laws_sameInts.calls k _ _ l0_3 _ _ l1_3 false _ ?_ ?_ ?_ ?_ A4.out).mono ?_); exact Kd.C_w HR0_3 HB; exact HC0_3.out; exact Kd.C_w HR1_3 HB; exact HC1_3.out; rintro e w' ⟨rfl, ⟨nd, rfl⟩⟩))
  go_ret
  exact ad_ (hb_ HB)
 rw [if_neg c3] at H
 have c3b0 : (a0_0 == a1_0 && (a0_1 == a1_1 && (a0_2 == a1_2))) = false := by simpa using c3
 clear c3
 obtain rfl := Option.some.inj H
 go_enter Tryz.func14, Tryz.ntmps14
 go_wp2_with (first | ((with_reducible refine gate_dst (N := 2) rfl ?_); refine bv_ 2 (cs := #[.int .i64 a0_0, .int .i64 a0_1, .int .i64 a0_2, .slice A0_3 l0_3.length c0_3, .slice A0_4 l0_4.length c0_4, .slice A0_5 l0_5.length c0_5]) (t := 28) ?_; intro gb503 hg w24 hbox hb; have BK503 := am_ (hbox); have GW503 := gs_ hg HB; have GE503 := gs_ hg HB; replace HB := hbs_ HB hb; clear hb hbox hg) | ((with_reducible refine gate_dst (N := 3) rfl ?_); refine bv_ 3 (cs := #[.int .i64 a1_0, .int .i64 a1_1, .int .i64 a1_2, .slice A1_3 l1_3.length c1_3, .slice A1_4 l1_4.length c1_4, .slice A1_5 l1_5.length c1_5]) (t := 28) ?_; intro gb504 hg w25 hbox hb; have BK504 := am_ (hbox); have GW504 := gs_ hg HB; have GE504 := gs_ hg HB; have NB503_504 := nl_ hg BK503; have NB504_503 := ng_ hg BK503; replace BK503 := kb_ BK503 hb; replace HB := hbs_ HB hb; clear hb hbox hg; have := NB503_504.out; have := NB504_503.out; obtain ⟨hcz27_0, hcz27_1, hcz27_2, hcz27_3, hcz27_4, hcz27_5, hfz27_0, hfz27_1, hfz27_2, hfz27_3, hfz27_4, hfz27_5⟩ := bx6 BK503; obtain ⟨hcz28_0, hcz28_1, hcz28_2, hcz28_3, hcz28_4, hcz28_5, hfz28_0, hfz28_1, hfz28_2, hfz28_3, hfz28_4, hfz28_5⟩ := bx6 BK504))
 go_ret
 exact ad_ (hb_ HB)

/-! ### laws_sameLists: function 15 -/
def laws_sameLists.l0 : Nat → List (List Int) → List (List Int) → Int → Int → Option (Bool)
 | 0, _, _, _, _ => none
 | k + 1, x0, x1, x12, x13 => if x13 < x12 then (if 0 ≤ x13 then (if x13 < (x0.length : Int) then (if x13 < (x1.length : Int) then ((laws_sameInts.f k (rd_L6 x0 x13) (rd_L6 x1 x13)).bind fun t510 => (if t510 = true then (laws_sameLists.l0 k x0 x1 x12 (wrap64 (x13 + 1))) else (some false))) else (none)) else (none)) else (none)) else (some true)
def laws_sameLists.f (k : Nat) (l0 : List (List Int)) (l1 : List (List Int)) : Option (Bool) := if (l0.length : Int) = (l1.length : Int) then (laws_sameLists.l0 k l0 l1 (l0.length : Int) 0) else (some false)
theorem laws_sameLists.calls (k : Nat) (A0 : Option Addr) (c0 : Nat) (l0 : List (List Int)) (A1 : Option Addr) (c1 : Nat) (l1 : List (List Int)) (r : Bool) (w : World) (hr0 : Kd.C (Kd.slice 3 (Kd.int .i64)) w A0 l0.length l0) (hc0 : l0.length ≤ c0) (hr1 : Kd.C (Kd.slice 3 (Kd.int .i64)) w A1 l1.length l1) (hc1 : l1.length ≤ c1) (h : laws_sameLists.f k l0 l1 = some r) :
  Calls Tryz.prog 15 #[.slice A0 l0.length c0, .slice A1 l1.length c1] w fun e w' => e = .returned (.bool r) ∧ Drawn0 w w' := by
 have HR0 := am_ hr0
 have HC0 := am_ hc0
 clear hr0 hc0
 have HR1 := am_ hr1
 have HC1 := am_ hc1
 clear hr1 hc1
 have H := h
 unfold laws_sameLists.f at H
 clear h
 by_cases c3 : (l0.length : Int) = (l1.length : Int)
 ·rw [if_pos c3] at H
  have c3b0 : ((l0.length : Int) == (l1.length : Int)) = true := beq_iff_eq.mpr c3
  have c3b1 : ((l0.length : Int) != (l1.length : Int)) = false := bne_eq_false_iff_eq.mpr c3
  have c3b2 : (l0.length == l1.length) = true := by first | simpa using c3 | (simp at c3 ⊢; omega)
  clear c3
  have H' := am_ H
  clear H
  go_enter Tryz.func15, Tryz.ntmps15
  go_wp2
  repeat (go_quiet (fail); try go_wp2)
  go_loopg [13] k (fun kq v13 w' => ∃ (x13_1 : Int), v13 = .int .i64 x13_1 ∧ Aside0 (laws_sameLists.l0 kq l0 l1 (l0.length : Int) x13_1 = some r) ∧ Aside0 (kq ≤ k) ∧ Drawn0 w w')
  case atStart => exact ⟨(0), sr_, H', ⟨Nat.le_refl _⟩, by repeat (first | exact Drawn0.refl _ | apply Drawn0.step)⟩
  clear H'
  obtain ⟨x13_1, rfl, HA, HK1, ⟨m1, rfl⟩⟩ := hrel
  cases gk with
  | zero => exact absurd HA.out (by simp [laws_sameLists.l0])
  | succ k1 => ?_
  have H := HA.out
  clear HA
  simp only [laws_sameLists.l0] at H
  by_cases c4 : x13_1 < (l0.length : Int)
  case neg => rw [if_neg c4] at H; have c4b0 := decide_eq_false c4; clear c4; obtain rfl := Option.some.inj H; go_wp2; (repeat (go_quiet (fail); try go_wp2)); go_ret; (exact ⟨by first | rfl | (simp; done) | (simp [*]; done), by repeat (first | exact Drawn0.refl _ | apply Drawn0.step)⟩)
  rw [if_pos c4] at H
  have c4b0 := decide_eq_true c4
  clear c4
  revert H; refine pd_ fun c5b0 H => ?_
  revert H; refine pd_ fun c6b0 H => ?_
  revert H; refine pd_ fun c7b0 H => ?_
  revert H; refine bn_ ?_; rintro t510 A8 H; try dsimp only at H
  by_cases c9 : t510 = true
  ·subst c9
   rw [if_pos rfl] at H
   have H' := am_ H
   clear H
   have p508 : 0 ≤ (x13_1 : Int) := od_
   have q508 : x13_1 < (l0.length : Int) := od_
   obtain ⟨ad508, A508_0, c508_0, e508, hx508_0, hl508_0, hi508_0⟩ := at_L6 HR0.out x13_1 p508 q508
   cases e508
   have HR508_0 := am_ hi508_0
   have HC508_0 := am_ hl508_0
   clear hi508_0 hl508_0
   replace p508 := eq_true p508
   replace q508 := eq_true q508
   have p509 : 0 ≤ (x13_1 : Int) := od_
   have q509 : x13_1 < (l1.length : Int) := od_
   obtain ⟨ad509, A509_0, c509_0, e509, hx509_0, hl509_0, hi509_0⟩ := at_L6 HR1.out x13_1 p509 q509
   cases e509
   have HR509_0 := am_ hi509_0
   have HC509_0 := am_ hl509_0
   clear hi509_0 hl509_0
   replace p509 := eq_true p509
   replace q509 := eq_true q509
   go_wp2_with (first | (go_at_call 16; (with_reducible refine (laws_sameInts.calls k1 _ _ (rd_L6 l0 x13_1) _ _ (rd_L6 l1 x13_1) true _ ?side1 ?_ ?side3 ?_ A8.out).mono ?_); (case side1 => repeat (first | exact HR508_0.out | (with_reducible refine Kd.C_alloc ?_ _) | (with_reducible refine Kd.C_drewN ?_ _) | (with_reducible refine Kd.C_drew ?_))); exact HC508_0.out; (case side3 => repeat (first | exact HR509_0.out | (with_reducible refine Kd.C_alloc ?_ _) | (with_reducible refine Kd.C_drewN ?_ _) | (with_reducible refine Kd.C_drew ?_))); exact HC509_0.out; rintro e w' ⟨rfl, ⟨nd, rfl⟩⟩; (try first | exact ⟨rfl, _, World.drewN_drewN _ _ _⟩ | exact ⟨rfl, _, Eq.trans (World.drewN_drewN _ _ _) (congrArg (World.drewN _) (Nat.add_assoc _ _ _))⟩)))
   repeat (go_quiet (first | (go_at_call 16; (with_reducible refine (laws_sameInts.calls k1 _ _ (rd_L6 l0 x13_1) _ _ (rd_L6 l1 x13_1) true _ ?side1 ?_ ?side3 ?_ A8.out).mono ?_); (case side1 => repeat (first | exact HR508_0.out | (with_reducible refine Kd.C_alloc ?_ _) | (with_reducible refine Kd.C_drewN ?_ _) | (with_reducible refine Kd.C_drew ?_))); exact HC508_0.out; (case side3 => repeat (first | exact HR509_0.out | (with_reducible refine Kd.C_alloc ?_ _) | (with_reducible refine Kd.C_drewN ?_ _) | (with_reducible refine Kd.C_drew ?_))); exact HC509_0.out; rintro e w' ⟨rfl, ⟨nd, rfl⟩⟩; (try first | exact ⟨rfl, _, World.drewN_drewN _ _ _⟩ | exact ⟨rfl, _, Eq.trans (World.drewN_drewN _ _ _) (congrArg (World.drewN _) (Nat.add_assoc _ _ _))⟩))); try go_wp2)
   go_roundg k1
   case measure => have := HK1.out; omega
   case rel => exact ⟨(wrap64 (x13_1 + 1)), sr_, H', ⟨by have := HK1.out; omega⟩, by repeat (first | exact Drawn0.refl _ | apply Drawn0.step)⟩
  replace c9 := Bool.eq_false_iff.mpr c9
  subst c9
  rw [if_neg (show ¬ (false = true) by decide)] at H
  obtain rfl := Option.some.inj H
  have p508 : 0 ≤ (x13_1 : Int) := od_
  have q508 : x13_1 < (l0.length : Int) := od_
  obtain ⟨ad508, A508_0, c508_0, e508, hx508_0, hl508_0, hi508_0⟩ := at_L6 HR0.out x13_1 p508 q508
  cases e508
  have HR508_0 := am_ hi508_0
  have HC508_0 := am_ hl508_0
  clear hi508_0 hl508_0
  replace p508 := eq_true p508
  replace q508 := eq_true q508
  have p509 : 0 ≤ (x13_1 : Int) := od_
  have q509 : x13_1 < (l1.length : Int) := od_
  obtain ⟨ad509, A509_0, c509_0, e509, hx509_0, hl509_0, hi509_0⟩ := at_L6 HR1.out x13_1 p509 q509
  cases e509
  have HR509_0 := am_ hi509_0
  have HC509_0 := am_ hl509_0
  clear hi509_0 hl509_0
  replace p509 := eq_true p509
  replace q509 := eq_true q509
  go_wp2_with (first | (go_at_call 16; (with_reducible refine (laws_sameInts.calls k1 _ _ (rd_L6 l0 x13_1) _ _ (rd_L6 l1 x13_1) false _ ?side1 ?_ ?side3 ?_ A8.out).mono ?_); (case side1 => repeat (first | exact HR508_0.out | (with_reducible refine Kd.C_alloc ?_ _) | (with_reducible refine Kd.C_drewN ?_ _) | (with_reducible refine Kd.C_drew ?_))); exact HC508_0.out; (case side3 => repeat (first | exact HR509_0.out | (with_reducible refine Kd.C_alloc ?_ _) | (with_reducible refine Kd.C_drewN ?_ _) | (with_reducible refine Kd.C_drew ?_))); exact HC509_0.out; rintro e w' ⟨rfl, ⟨nd, rfl⟩⟩; (try first | exact ⟨rfl, _, World.drewN_drewN _ _ _⟩ | exact ⟨rfl, _, Eq.trans (World.drewN_drewN _ _ _) (congrArg (World.drewN _) (Nat.add_assoc _ _ _))⟩)))
  repeat (go_quiet (first | (go_at_call 16; (with_reducible refine (laws_sameInts.calls k1 _ _ (rd_L6 l0 x13_1) _ _ (rd_L6 l1 x13_1) false _ ?side1 ?_ ?side3 ?_ A8.out).mono ?_); (case side1 => repeat (first | exact HR508_0.out | (with_reducible refine Kd.C_alloc ?_ _) | (with_reducible refine Kd.C_drewN ?_ _) | (with_reducible refine Kd.C_drew ?_))); exact HC508_0.out; (case side3 => repeat (first | exact HR509_0.out | (with_reducible refine Kd.C_alloc ?_ _) | (with_reducible refine Kd.C_drewN ?_ _) | (with_reducible refine Kd.C_drew ?_))); exact HC509_0.out; rintro e w' ⟨rfl, ⟨nd, rfl⟩⟩; (try first | exact ⟨rfl, _, World.drewN_drewN _ _ _⟩ | exact ⟨rfl, _, Eq.trans (World.drewN_drewN _ _ _) (congrArg (World.drewN _) (Nat.add_assoc _ _ _))⟩))); try go_wp2)
  go_ret
  exact ⟨by first | rfl | (simp; done) | (simp [*]; done), by repeat (first | exact Drawn0.refl _ | apply Drawn0.step)⟩
 rw [if_neg c3] at H
 have c3b0 : ((l0.length : Int) == (l1.length : Int)) = false := beq_eq_false_iff_ne.mpr c3
 have c3b1 : ((l0.length : Int) != (l1.length : Int)) = true := bne_iff_ne.mpr c3
 have c3b2 : (l0.length == l1.length) = false := by first | simpa using c3 | (simp at c3 ⊢; omega)
 obtain rfl := Option.some.inj H
 go_enter Tryz.func15, Tryz.ntmps15
 go_wp2
 repeat (go_quiet (fail); try go_wp2)
 go_ret
 exact ⟨by first | rfl | (simp; done) | (simp [*]; done), by repeat (first | exact Drawn0.refl _ | apply Drawn0.step)⟩

/-! ### laws_pSum: function 17 -/
def laws_pSum.l0 : Nat → Int → List Int → Int → Int → Option (Int)
 | 0, _, _, _, _ => none
 | k + 1, x3, x6, x7, x8 => if x8 < x7 then (if 0 ≤ x8 then (if x8 < (x6.length : Int) then (laws_pSum.l0 k (wrap64 (x3 + (rd x6 x8))) x6 x7 (wrap64 (x8 + 1))) else (none)) else (none)) else (some x3)
def laws_pSum.f (k : Nat) (l0 : List Int) : Option (Int) := laws_pSum.l0 k 0 l0 (l0.length : Int) 0
theorem laws_pSum.calls (k : Nat) (A0 : Option Addr) (c0 : Nat) (l0 : List Int) (r : Int) (w : World) (hr0 : Kd.C (Kd.int .i64) w A0 l0.length l0) (hc0 : l0.length ≤ c0) (h : laws_pSum.f k l0 = some r) :
  Calls Tryz.prog 17 #[.slice A0 l0.length c0] w fun e w' => e = .returned (.int .i64 r) ∧ Drawn0 w w' := by
 have HR0 := am_ hr0
 have HC0 := am_ hc0
 clear hr0 hc0
 have H := h
 unfold laws_pSum.f at H
 clear h
 have H' := am_ H
 clear H
 go_enter Tryz.func17, Tryz.ntmps17
 go_wp2
 go_loopg [3, 8] k (fun kq v3 v8 w' => ∃ (x3_1 : Int) (x8_1 : Int), v3 = .int .i64 x3_1 ∧ v8 = .int .i64 x8_1 ∧ Aside0 (laws_pSum.l0 kq x3_1 l0 (l0.length : Int) x8_1 = some r) ∧ Aside0 (kq ≤ k) ∧ Drawn0 w w')
 case atStart => exact ⟨(0), (0), sr_, sr_, H', ⟨Nat.le_refl _⟩, by repeat (first | exact Drawn0.refl _ | apply Drawn0.step)⟩
 clear H'
 obtain ⟨x3_1, x8_1, rfl, rfl, HA, HK1, ⟨m1, rfl⟩⟩ := hrel
 cases gk with
 | zero => exact absurd HA.out (by simp [laws_pSum.l0])
 | succ k1 => ?_
 have H := HA.out
 clear HA
 simp only [laws_pSum.l0] at H
 by_cases c2 : x8_1 < (l0.length : Int)
 case neg => rw [if_neg c2] at H; have c2b0 := decide_eq_false c2; clear c2; obtain rfl := Option.some.inj H; go_wp2; go_ret; (exact ⟨by first | rfl | (simp; done) | (simp [*]; done), by repeat (first | exact Drawn0.refl _ | apply Drawn0.step)⟩)
 rw [if_pos c2] at H
 have c2b0 := decide_eq_true c2
 clear c2
 revert H; refine pd_ fun c3b0 H => ?_
 revert H; refine pd_ fun c4b0 H => ?_
 have H' := am_ H
 clear H
 obtain ⟨ad511, e511, hx511_0, p511, q511⟩ := ai_ HR0.out x8_1
 cases e511
 go_wp2
 go_roundg k1
 case measure => have := HK1.out; omega
 case rel => exact ⟨(wrap64 (x3_1 + (rd l0 x8_1))), (wrap64 (x8_1 + 1)), sr_, sr_, H', ⟨by have := HK1.out; omega⟩, by repeat (first | exact Drawn0.refl _ | apply Drawn0.step)⟩

end Go.Proofs.YthphbkkkbolcnaaGreatDoor.PFnModels
