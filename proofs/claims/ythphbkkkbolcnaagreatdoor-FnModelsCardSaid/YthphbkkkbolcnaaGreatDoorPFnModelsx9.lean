-- Laid for this claim by wip/tools/print2.sh, a changed copy of the kit's print (wip/tools/patch_print.py): not by print.sh. Changed by wip/fix/strsize.py.
import Derived.Test.YthphbkkkbolcnaaGreatDoorPFnModelsx8
import Derived.Test.YthphbkkkbolcnaaGreatDoorVFnModels
namespace Go.Proofs.YthphbkkkbolcnaaGreatDoor.PFnModels
set_option maxHeartbeats 8000000
set_option maxRecDepth 100000
open Go.RowKit Go.Proofs.YthphbkkkbolcnaaGreatDoorW.PrintWords Go.Proofs.YthphbkkkbolcnaaGreatDoorW.PrintLast Go.Proofs.YthphbkkkbolcnaaGreatDoorW.PrintMore
set_option linter.unusedVariables false
set_option linter.unusedSimpArgs false

/-! ### spec_grText: function 61 -/
def spec_grText.f (k : Nat) (a0_0 : Int) (a0_1 : Int) (a0_2 : Int) : Option (ByteArray) := (spec_l1Num.f k a0_0).bind fun t352 => (if t352.size + 1 ≤ 9223372036854775807 then ((spec_l1Num.f k a0_1).bind fun t353 => (if (t352 ++ (⟨#[120]⟩ : ByteArray)).size + t353.size ≤ 9223372036854775807 then (if ((t352 ++ (⟨#[120]⟩ : ByteArray)) ++ t353).size + 1 ≤ 9223372036854775807 then ((spec_l1Num.f k a0_2).bind fun t354 => (if (((t352 ++ (⟨#[120]⟩ : ByteArray)) ++ t353) ++ (⟨#[120]⟩ : ByteArray)).size + t354.size ≤ 9223372036854775807 then (some ((((t352 ++ (⟨#[120]⟩ : ByteArray)) ++ t353) ++ (⟨#[120]⟩ : ByteArray)) ++ t354)) else (none))) else (none)) else (none))) else (none))
def spec_grText.T1 : Bool × List (List Nat × List Nat) := (true, [([], []), ([0], [0]), ([1], [1]), ([2], [2]), ([], []), ([4], [4]), ([5, 2], [5]), ([3, 6], [3, 6]), ([7], [7]), ([], []), ([9], [9]), ([10, 6], [10]), ([8, 11], [8, 11]), ([12, 11, 0, 1, 2, 3, 4, 5, 6, 7, 8, 9, 10, 11, 12], [12])])
def spec_grText.B1 : List Nat := [0, 1, 3, 7, 0, 16, 55, 127, 255, 0, 512, 1655, 4095, 8191]
theorem spec_grText.tab1 : rtab .any (opsOf Tryz.f61 1) = spec_grText.T1 := by kernel_rfl
theorem spec_grText.bits1 : waitsOk spec_grText.T1.2 spec_grText.B1 = true := by kernel_rfl
theorem spec_grText.calls (k : Nat) (a0_0 : Int) (a0_1 : Int) (a0_2 : Int) (r : ByteArray) (w : World) (h : spec_grText.f k a0_0 a0_1 a0_2 = some r) :
  Calls Tryz.prog 61 #[.agg #[.int .i64 a0_0, .int .i64 a0_1, .int .i64 a0_2]] w fun e w' => e = .returned (.string r) ∧ Below w.heap.size w w' := by
 have hu25 := Tryz.underlying25
 have HB := am_ (Below.refl w.heap.size w)
 have H := h
 unfold spec_grText.f at H
 clear h
 revert H; refine bn_ ?_; rintro t352 A2 H; try dsimp only at H
 revert H; refine pf_ fun c3 H => ?_
 have c3b0 := eq_true c3
 have c3b1 := decide_eq_true c3
 try have c3b2 : (9223372036854775807 < t352.size + 1) = False := eq_false (Nat.not_lt.2 c3)
 revert H; refine bn_ ?_; rintro t353 A4 H; try dsimp only at H
 revert H; refine pf_ fun c5 H => ?_
 have c5b0 := eq_true c5
 have c5b1 := decide_eq_true c5
 try have c5b2 : (9223372036854775807 < (t352 ++ (⟨#[120]⟩ : ByteArray)).size + t353.size) = False := eq_false (Nat.not_lt.2 c5)
 have c5b3 : (9223372036854775807 < t352.size + 1 + t353.size) = False := eq_false (Nat.not_lt.2 (by have h_ := c5; simp only [ByteArray.size_append] at h_; exact h_))
 revert H; refine pf_ fun c6 H => ?_
 have c6b0 := eq_true c6
 have c6b1 := decide_eq_true c6
 try have c6b2 : (9223372036854775807 < ((t352 ++ (⟨#[120]⟩ : ByteArray)) ++ t353).size + 1) = False := eq_false (Nat.not_lt.2 c6)
 have c6b3 : (9223372036854775807 < t352.size + 1 + t353.size + 1) = False := eq_false (Nat.not_lt.2 (by have h_ := c6; simp only [ByteArray.size_append] at h_; exact h_))
 revert H; refine bn_ ?_; rintro t354 A7 H; try dsimp only at H
 revert H; refine pf_ fun c8 H => ?_
 have c8b0 := eq_true c8
 have c8b1 := decide_eq_true c8
 try have c8b2 : (9223372036854775807 < (((t352 ++ (⟨#[120]⟩ : ByteArray)) ++ t353) ++ (⟨#[120]⟩ : ByteArray)).size + t354.size) = False := eq_false (Nat.not_lt.2 c8)
 have c8b3 : (9223372036854775807 < t352.size + 1 + t353.size + 1 + t354.size) = False := eq_false (Nat.not_lt.2 (by have h_ := c8; simp only [ByteArray.size_append] at h_; exact h_))
 obtain rfl := Option.some.inj H
 go_enter Tryz.func61, Tryz.ntmps61
 try go_wp2_with (first | ((with_reducible refine gate_dst (N := 1) rfl ?_); refine bv_ 1 (cs := #[.int .i64 a0_0, .int .i64 a0_1, .int .i64 a0_2]) (t := 25) ?_; intro gb351 hg w9 hbox hb; have BK351 := am_ (hbox); have GW351 := gs_ hg HB; have GE351 := gs_ hg HB; replace HB := hbs_ HB hb; clear hb hbox hg))
 replace BK351 := am_ (blk_drew BK351.out)
 replace HB := am_ (below_drew1 HB.out)
 refine start_ (n := 14) (S := fun w' => w'.cell? ⟨gb351, 0, none⟩ = some (.int .i64 a0_0) ∧ w'.cell? ⟨gb351, 1, none⟩ = some (.int .i64 a0_1) ∧ w'.cell? ⟨gb351, 2, none⟩ = some (.int .i64 a0_2)) (ds := []) (bb 14 0) (by kernel_rfl) rfl rfl ⟨(blk_cell BK351.out 0).trans rfl, (blk_cell BK351.out 1).trans rfl, (blk_cell BK351.out 2).trans rfl⟩ (fun hHeld => ?_); refine with_tabW spec_grText.tab1 spec_grText.bits1 (fun HT_ HW_ => ?_)
 generalize w9.drew = w10 at BK351 HB hHeld ⊢
 refine pm_ HT_ 0 3 14 1 ?_
 refine pm_ HT_ 4 7 14 17 ?_
 refine pm_ HT_ 9 12 14 529 ?_
 refine tk_ HT_ HW_ hHeld 1 (some 4) (bb 14 531) (h := ?_)
 refine tk_ HT_ HW_ hHeld 5 (some 8) (bb 14 563) (h := ?_)
 refine tk_ HT_ HW_ hHeld 10 (some 13) (bb 14 1587) (h := ?_)
 refine one_ (i := 2) (N := some 5) (bb 14 1591) rfl rfl (one_of HT_.out (by kernel_rfl)) (by decide) (fun K hK => ?_)
 refine goes_ Tryz.func62 (by kernel_rfl) rfl #[.int .i64 a0_0] (by rfl) rfl rfl (by (try simp only [List.map_toArray, List.map_cons, List.map_nil]); first | done | rfl | (simp only [List.length_drop, List.length_take]; rfl)) ?_
 with_reducible refine (spec_l1Num.calls k a0_0 t352 _ A2.out).mono ?_
 rintro e w11 ⟨rfl, hb⟩
 refine ⟨_, rfl, ?_⟩
 replace BK351 := am_ (blk_below (kp_ BK351) hb)
 replace HB := am_ (below_step (hb_ HB) hb)
 refine hK.out _ _ ⟨(blk_cell BK351.out 0).trans rfl, (blk_cell BK351.out 1).trans rfl, (blk_cell BK351.out 2).trans rfl⟩ (fun hHeld => ?_)
 clear hK K
 refine nm_ (some 5) (h := ?_)
 refine pm_ HT_ 3 6 14 1599 ?_
 refine one_ (i := 6) (N := some 9) (bb 14 1663) rfl rfl (one_of HT_.out (by kernel_rfl)) (by decide) (fun K hK => ?_)
 refine goes_ Tryz.func62 (by kernel_rfl) rfl #[.int .i64 a0_1] (by rfl) rfl rfl (by (try simp only [List.map_toArray, List.map_cons, List.map_nil]); first | done | rfl | (simp only [List.length_drop, List.length_take]; rfl)) ?_
 with_reducible refine (spec_l1Num.calls k a0_1 t353 _ A4.out).mono ?_
 rintro e w12 ⟨rfl, hb⟩
 refine ⟨_, rfl, ?_⟩
 replace BK351 := am_ (blk_below (kp_ BK351) hb)
 replace HB := am_ (below_step (hb_ HB) hb)
 refine hK.out _ _ ⟨(blk_cell BK351.out 0).trans rfl, (blk_cell BK351.out 1).trans rfl, (blk_cell BK351.out 2).trans rfl⟩ (fun hHeld => ?_)
 clear hK K
 refine nm_ (some 9) (h := ?_)
 refine pm_ HT_ 7 10 14 1791 ?_
 refine pm_ HT_ 8 11 14 2047 ?_
 refine one_ (i := 11) (N := some 14) (bb 14 4095) rfl rfl (one_of HT_.out (by kernel_rfl)) (by decide) (fun K hK => ?_)
 refine goes_ Tryz.func62 (by kernel_rfl) rfl #[.int .i64 a0_2] (by rfl) rfl rfl (by (try simp only [List.map_toArray, List.map_cons, List.map_nil]); first | done | rfl | (simp only [List.length_drop, List.length_take]; rfl)) ?_
 with_reducible refine (spec_l1Num.calls k a0_2 t354 _ A7.out).mono ?_
 rintro e w13 ⟨rfl, hb⟩
 refine ⟨_, rfl, ?_⟩
 replace BK351 := am_ (blk_below (kp_ BK351) hb)
 replace HB := am_ (below_step (hb_ HB) hb)
 refine hK.out _ _ ⟨(blk_cell BK351.out 0).trans rfl, (blk_cell BK351.out 1).trans rfl, (blk_cell BK351.out 2).trans rfl⟩ (fun hHeld => ?_)
 clear hK K
 refine nm_ (some 14) (h := ?_)
 refine pm_ HT_ 12 15 14 8191 ?_
 refine pm_ HT_ 13 2 14 16383 ?_
 refine done_ (done_of HT_.out (by kernel_rfl)) ?_
 try go_wp2
 go_ret
 exact ad_ (hb_ HB)

/-! ### spec_moText: function 32 -/
def spec_moText.l0 : Nat → ByteArray → List Int → Int → Int → Int → Int → Int → List Int → List Int → List Int → Option (ByteArray)
 | 0, _, _, _, _, _, _, _, _, _, _ => none
 | k + 1, x3, x12, x13, x14, x356000, x356001, x356002, x356003, x356004, x356005 => if x14 < x13 then (if 0 ≤ x14 then (if x14 < (x12.length : Int) then ((spec_l1Num.f k (rd x12 x14)).bind fun t358 => (if t358.size + 1 ≤ 9223372036854775807 then (if x14 < (x356004.length : Int) then ((spec_l1Num.f k (rd x356004 x14)).bind fun t360 => (if (t358 ++ (⟨#[32]⟩ : ByteArray)).size + t360.size ≤ 9223372036854775807 then (if ((t358 ++ (⟨#[32]⟩ : ByteArray)) ++ t360).size + 1 ≤ 9223372036854775807 then (if x14 < (x356005.length : Int) then ((spec_l1Num.f k (rd x356005 x14)).bind fun t362 => (if (((t358 ++ (⟨#[32]⟩ : ByteArray)) ++ t360) ++ (⟨#[32]⟩ : ByteArray)).size + t362.size ≤ 9223372036854775807 then (if ((((t358 ++ (⟨#[32]⟩ : ByteArray)) ++ t360) ++ (⟨#[32]⟩ : ByteArray)) ++ t362).size + 1 ≤ 9223372036854775807 then (if x3.size + (((((t358 ++ (⟨#[32]⟩ : ByteArray)) ++ t360) ++ (⟨#[32]⟩ : ByteArray)) ++ t362) ++ (⟨#[10]⟩ : ByteArray)).size ≤ 9223372036854775807 then (spec_moText.l0 k (x3 ++ (((((t358 ++ (⟨#[32]⟩ : ByteArray)) ++ t360) ++ (⟨#[32]⟩ : ByteArray)) ++ t362) ++ (⟨#[10]⟩ : ByteArray))) x12 x13 (wrap64 (x14 + 1)) x356000 x356001 x356002 x356003 x356004 x356005) else (none)) else (none)) else (none))) else (none)) else (none)) else (none))) else (none)) else (none))) else (none)) else (none)) else (some x3)
def spec_moText.f (k : Nat) (a0_0 : Int) (a0_1 : Int) (a0_2 : Int) (l0_3 : List Int) (l0_4 : List Int) (l0_5 : List Int) : Option (ByteArray) := (spec_grText.f k a0_0 a0_1 a0_2).bind fun t356 => (if 6 + t356.size ≤ 9223372036854775807 then (if ((⟨#[109, 111, 100, 101, 108, 32]⟩ : ByteArray) ++ t356).size + 1 ≤ 9223372036854775807 then (spec_moText.l0 k (((⟨#[109, 111, 100, 101, 108, 32]⟩ : ByteArray) ++ t356) ++ (⟨#[10]⟩ : ByteArray)) l0_3 (l0_3.length : Int) 0 a0_0 a0_1 a0_2 l0_3 l0_4 l0_5) else (none)) else (none))
def spec_moText.T5 : Bool × List (List Nat × List Nat) := (true, [([], []), ([], []), ([1], [1]), ([2], [2]), ([], []), ([4], [4]), ([], []), ([5, 6], [5, 6]), ([7], [7]), ([8, 2], [8]), ([3, 9], [3, 9]), ([10], [10]), ([], []), ([12], [12]), ([], []), ([13, 14], [13, 14]), ([15], [15]), ([16, 9], [16]), ([11, 17], [11, 17]), ([18], [18]), ([0, 19], [0, 19]), ([20, 17, 0, 1, 2, 3, 4, 5, 6, 7, 8, 9, 10, 11, 12, 13, 14, 15, 16, 17, 18, 19, 20], [0, 20])])
def spec_moText.B5 : List Nat := [0, 0, 2, 6, 0, 16, 0, 112, 240, 502, 1022, 2046, 0, 4096, 0, 28672, 61440, 127990, 262142, 524286, 1048575, 2097151]
theorem spec_moText.tab5 : rtab .any (opsOf Tryz.f32 5) = spec_moText.T5 := by kernel_rfl
theorem spec_moText.bits5 : waitsOk spec_moText.T5.2 spec_moText.B5 = true := by kernel_rfl
theorem spec_moText.calls (k : Nat) (a0_0 : Int) (a0_1 : Int) (a0_2 : Int) (A0_3 : Option Addr) (c0_3 : Nat) (l0_3 : List Int) (A0_4 : Option Addr) (c0_4 : Nat) (l0_4 : List Int) (A0_5 : Option Addr) (c0_5 : Nat) (l0_5 : List Int) (r : ByteArray) (w : World) (hr0_3 : Kd.C (Kd.int .i64) w A0_3 l0_3.length l0_3) (hc0_3 : l0_3.length ≤ c0_3) (hr0_4 : Kd.C (Kd.int .i64) w A0_4 l0_4.length l0_4) (hc0_4 : l0_4.length ≤ c0_4) (hr0_5 : Kd.C (Kd.int .i64) w A0_5 l0_5.length l0_5) (hc0_5 : l0_5.length ≤ c0_5) (h : spec_moText.f k a0_0 a0_1 a0_2 l0_3 l0_4 l0_5 = some r) :
  Calls Tryz.prog 32 #[.agg #[.int .i64 a0_0, .int .i64 a0_1, .int .i64 a0_2, .slice A0_3 l0_3.length c0_3, .slice A0_4 l0_4.length c0_4, .slice A0_5 l0_5.length c0_5]] w fun e w' => e = .returned (.string r) ∧ Below w.heap.size w w' := by
 have hu28 := Tryz.underlying28
 have hu25 := Tryz.underlying25
 have HR0_3 := am_ hr0_3
 have HC0_3 := am_ hc0_3
 clear hr0_3 hc0_3
 have HR0_4 := am_ hr0_4
 have HC0_4 := am_ hc0_4
 clear hr0_4 hc0_4
 have HR0_5 := am_ hr0_5
 have HC0_5 := am_ hc0_5
 clear hr0_5 hc0_5
 have HB := am_ (Below.refl w.heap.size w)
 have H := h
 unfold spec_moText.f at H
 clear h
 revert H; refine bn_ ?_; rintro t356 A2 H; try dsimp only at H
 revert H; refine pf_ fun c3 H => ?_
 have c3b0 := eq_true c3
 have c3b1 := decide_eq_true c3
 try have c3b2 : (9223372036854775807 < 6 + t356.size) = False := eq_false (Nat.not_lt.2 c3)
 revert H; refine pf_ fun c4 H => ?_
 have c4b0 := eq_true c4
 have c4b1 := decide_eq_true c4
 try have c4b2 : (9223372036854775807 < ((⟨#[109, 111, 100, 101, 108, 32]⟩ : ByteArray) ++ t356).size + 1) = False := eq_false (Nat.not_lt.2 c4)
 have c4b3 : (9223372036854775807 < 6 + t356.size + 1) = False := eq_false (Nat.not_lt.2 (by have h_ := c4; simp only [ByteArray.size_append] at h_; exact h_))
 have H' := am_ H
 clear H
 go_enter Tryz.func32, Tryz.ntmps32
 go_wp2_with (first | ((with_reducible refine gate_dst (N := 1) rfl ?_); refine bv_ 1 (cs := #[.int .i64 a0_0, .int .i64 a0_1, .int .i64 a0_2, .slice A0_3 l0_3.length c0_3, .slice A0_4 l0_4.length c0_4, .slice A0_5 l0_5.length c0_5]) (t := 28) ?_; intro gb355 hg w5 hbox hb; have BK355 := am_ (hbox); have GW355 := gs_ hg HB; have GE355 := gs_ hg HB; replace HB := hbs_ HB hb; clear hb hbox hg; obtain ⟨hcz6_0, hcz6_1, hcz6_2, hcz6_3, hcz6_4, hcz6_5, hfz6_0, hfz6_1, hfz6_2, hfz6_3, hfz6_4, hfz6_5⟩ := bx6 BK355) | ((with_reducible refine gk_ 61 ?_); refine gq_ 8 Tryz.func61 #[.agg #[.int .i64 a0_0, .int .i64 a0_1, .int .i64 a0_2]] ?_; (with_reducible refine (spec_grText.calls k a0_0 a0_1 a0_2 t356 _ A2.out).mono ?_); rintro e w7 ⟨rfl, hb⟩; refine ⟨_, rfl, ?_⟩; replace BK355 := kb_ BK355 hb; replace HB := hbs_ HB hb; obtain ⟨hcz8_0, hcz8_1, hcz8_2, hcz8_3, hcz8_4, hcz8_5, hfz8_0, hfz8_1, hfz8_2, hfz8_3, hfz8_4, hfz8_5⟩ := bx6 BK355))
 go_loopg [3, 14] k (fun kq v3 v14 w' => ∃ (x3_1 : ByteArray) (x14_1 : Int), v3 = .string x3_1 ∧ v14 = .int .i64 x14_1 ∧ Aside0 (spec_moText.l0 kq x3_1 l0_3 (l0_3.length : Int) x14_1 a0_0 a0_1 a0_2 l0_3 l0_4 l0_5 = some r) ∧ Aside0 (kq ≤ k) ∧ Aside0 (w'.heap[gb355]? = some (.cells #[.int .i64 a0_0, .int .i64 a0_1, .int .i64 a0_2, (.slice A0_3 l0_3.length c0_3), (.slice A0_4 l0_4.length c0_4), (.slice A0_5 l0_5.length c0_5)] 28 (0, 0))) ∧ Aside0 (Below w.heap.size w w'))
 case atStart => exact ⟨(((⟨#[109, 111, 100, 101, 108, 32]⟩ : ByteArray) ++ t356) ++ (⟨#[10]⟩ : ByteArray)), (0), sr_, sr_, H', ⟨Nat.le_refl _⟩, ⟨kp_ BK355⟩, ⟨hb_ HB⟩⟩
 clear H'
 obtain ⟨x3_1, x14_1, rfl, rfl, HA, HK1, BK355, HB⟩ := hrel
 cases gk with
 | zero => exact absurd HA.out (by simp [spec_moText.l0])
 | succ k1 => ?_
 have H := HA.out
 clear HA
 simp only [spec_moText.l0] at H
 by_cases c9 : x14_1 < (l0_3.length : Int)
 case neg => rw [if_neg c9] at H; have c9b0 := decide_eq_false c9; clear c9; obtain rfl := Option.some.inj H; go_wp2; go_ret; exact ad_ (hb_ HB)
 rw [if_pos c9] at H
 have c9b0 := decide_eq_true c9
 clear c9
 revert H; refine pd_ fun c10b0 H => ?_
 revert H; refine pd_ fun c11b0 H => ?_
 revert H; refine bn_ ?_; rintro t358 A12 H; try dsimp only at H
 revert H; refine pf_ fun c13 H => ?_
 have c13b0 := eq_true c13
 have c13b1 := decide_eq_true c13
 try have c13b2 : (9223372036854775807 < t358.size + 1) = False := eq_false (Nat.not_lt.2 c13)
 revert H; refine pd_ fun c14b0 H => ?_
 revert H; refine bn_ ?_; rintro t360 A15 H; try dsimp only at H
 revert H; refine pf_ fun c16 H => ?_
 have c16b0 := eq_true c16
 have c16b1 := decide_eq_true c16
 try have c16b2 : (9223372036854775807 < (t358 ++ (⟨#[32]⟩ : ByteArray)).size + t360.size) = False := eq_false (Nat.not_lt.2 c16)
 have c16b3 : (9223372036854775807 < t358.size + 1 + t360.size) = False := eq_false (Nat.not_lt.2 (by have h_ := c16; simp only [ByteArray.size_append] at h_; exact h_))
 revert H; refine pf_ fun c17 H => ?_
 have c17b0 := eq_true c17
 have c17b1 := decide_eq_true c17
 try have c17b2 : (9223372036854775807 < ((t358 ++ (⟨#[32]⟩ : ByteArray)) ++ t360).size + 1) = False := eq_false (Nat.not_lt.2 c17)
 have c17b3 : (9223372036854775807 < t358.size + 1 + t360.size + 1) = False := eq_false (Nat.not_lt.2 (by have h_ := c17; simp only [ByteArray.size_append] at h_; exact h_))
 revert H; refine pd_ fun c18b0 H => ?_
 revert H; refine bn_ ?_; rintro t362 A19 H; try dsimp only at H
 revert H; refine pf_ fun c20 H => ?_
 have c20b0 := eq_true c20
 have c20b1 := decide_eq_true c20
 try have c20b2 : (9223372036854775807 < (((t358 ++ (⟨#[32]⟩ : ByteArray)) ++ t360) ++ (⟨#[32]⟩ : ByteArray)).size + t362.size) = False := eq_false (Nat.not_lt.2 c20)
 have c20b3 : (9223372036854775807 < t358.size + 1 + t360.size + 1 + t362.size) = False := eq_false (Nat.not_lt.2 (by have h_ := c20; simp only [ByteArray.size_append] at h_; exact h_))
 revert H; refine pf_ fun c21 H => ?_
 have c21b0 := eq_true c21
 have c21b1 := decide_eq_true c21
 try have c21b2 : (9223372036854775807 < ((((t358 ++ (⟨#[32]⟩ : ByteArray)) ++ t360) ++ (⟨#[32]⟩ : ByteArray)) ++ t362).size + 1) = False := eq_false (Nat.not_lt.2 c21)
 have c21b3 : (9223372036854775807 < t358.size + 1 + t360.size + 1 + t362.size + 1) = False := eq_false (Nat.not_lt.2 (by have h_ := c21; simp only [ByteArray.size_append] at h_; exact h_))
 revert H; refine pf_ fun c22 H => ?_
 have c22b0 := eq_true c22
 have c22b1 := decide_eq_true c22
 try have c22b2 : (9223372036854775807 < x3_1.size + (((((t358 ++ (⟨#[32]⟩ : ByteArray)) ++ t360) ++ (⟨#[32]⟩ : ByteArray)) ++ t362) ++ (⟨#[10]⟩ : ByteArray)).size) = False := eq_false (Nat.not_lt.2 c22)
 have c22b3 : (9223372036854775807 < x3_1.size + (t358.size + 1 + t360.size + 1 + t362.size + 1)) = False := eq_false (Nat.not_lt.2 (by have h_ := c22; simp only [ByteArray.size_append] at h_; exact h_))
 have H' := am_ H
 clear H
 have p357 : 0 ≤ (x14_1 : Int) := od_
 have q357 : x14_1 < (l0_3.length : Int) := od_
 obtain ⟨ad357, e357, hx357_0⟩ := Kd.at_int HR0_3.out x14_1 p357 q357
 cases e357
 try replace hx357_0 := hc_ HB hx357_0
 replace p357 := eq_true p357
 replace q357 := eq_true q357
 try go_wp2
 replace BK355 := am_ (blk_drew BK355.out)
 replace HB := am_ (below_drew1 HB.out)
 have p359 : 0 ≤ (x14_1 : Int) := od_
 have q359 : x14_1 < (l0_4.length : Int) := od_
 obtain ⟨ad359, e359, hx359_0⟩ := Kd.at_int HR0_4.out x14_1 p359 q359
 have hw359_0 := hx359_0
 cases e359
 try replace hx359_0 := hc_ HB hx359_0
 replace p359 := eq_true p359
 replace q359 := eq_true q359
 have p361 : 0 ≤ (x14_1 : Int) := od_
 have q361 : x14_1 < (l0_5.length : Int) := od_
 obtain ⟨ad361, e361, hx361_0⟩ := Kd.at_int HR0_5.out x14_1 p361 q361
 have hw361_0 := hx361_0
 cases e361
 try replace hx361_0 := hc_ HB hx361_0
 replace p361 := eq_true p361
 replace q361 := eq_true q361
 refine start_ (n := 22) (S := fun w' => w'.cell? ⟨gb355, 0, none⟩ = some (.int .i64 a0_0) ∧ w'.cell? ⟨gb355, 1, none⟩ = some (.int .i64 a0_1) ∧ w'.cell? ⟨gb355, 2, none⟩ = some (.int .i64 a0_2) ∧ w'.cell? ⟨gb355, 3, none⟩ = some (.slice (some ad357) l0_3.length c0_3) ∧ w'.cell? ⟨gb355, 4, none⟩ = some (.slice (some ad359) l0_4.length c0_4) ∧ w'.cell? ⟨gb355, 5, none⟩ = some (.slice (some ad361) l0_5.length c0_5) ∧ w'.cell? (ad359.add (x14_1).toNat) = some (.int .i64 (rd l0_4 x14_1)) ∧ w'.cell? (ad361.add (x14_1).toNat) = some (.int .i64 (rd l0_5 x14_1))) (ds := []) (bb 22 0) (by kernel_rfl) rfl rfl ⟨(blk_cell BK355.out 0).trans rfl, (blk_cell BK355.out 1).trans rfl, (blk_cell BK355.out 2).trans rfl, (blk_cell BK355.out 3).trans rfl, (blk_cell BK355.out 4).trans rfl, (blk_cell BK355.out 5).trans rfl, (hcl_ HB hw359_0), (hcl_ HB hw361_0)⟩ (fun hHeld => ?_); refine with_tabW spec_moText.tab5 spec_moText.bits5 (fun HT_ HW_ => ?_)
 generalize wr.drew = w23 at BK355 HB hx359_0 hx361_0 hHeld ⊢
 refine pm_ HT_ 0 19 22 1 ?_
 refine pm_ HT_ 1 20 22 3 ?_
 refine pm_ HT_ 4 23 22 19 ?_
 refine pm_ HT_ 6 25 22 83 ?_
 refine pm_ HT_ 12 31 22 4179 ?_
 refine pm_ HT_ 14 33 22 20563 ?_
 refine tk_ HT_ HW_ hHeld 5 (some 24) (bb 22 20595) (h := ?_)
 refine pm_ HT_ 7 26 22 20723 ?_
 refine tk_ HT_ HW_ hHeld 8 (some 27) (bb 22 20979) (h := ?_)
 refine tk_ HT_ HW_ hHeld 13 (some 32) (bb 22 29171) (h := ?_)
 refine pm_ HT_ 15 34 22 61939 ?_
 refine tk_ HT_ HW_ hHeld 16 (some 35) (bb 22 127475) (h := ?_)
 refine one_ (i := 2) (N := some 21) (bb 22 127479) rfl rfl (one_of HT_.out (by kernel_rfl)) (by decide) (fun K hK => ?_)
 refine goes_ Tryz.func62 (by kernel_rfl) rfl #[.int .i64 (rd l0_3 x14_1)] (by rfl) rfl rfl (by (try simp only [List.map_toArray, List.map_cons, List.map_nil]); first | done | rfl | (simp only [List.length_drop, List.length_take]; rfl)) ?_
 with_reducible refine (spec_l1Num.calls k1 (rd l0_3 x14_1) t358 _ A12.out).mono ?_
 rintro e w24 ⟨rfl, hb⟩
 refine ⟨_, rfl, ?_⟩
 replace BK355 := am_ (blk_below (kp_ BK355) hb)
 replace HB := am_ (below_step (hb_ HB) hb)
 refine hK.out _ _ ⟨(blk_cell BK355.out 0).trans rfl, (blk_cell BK355.out 1).trans rfl, (blk_cell BK355.out 2).trans rfl, (blk_cell BK355.out 3).trans rfl, (blk_cell BK355.out 4).trans rfl, (blk_cell BK355.out 5).trans rfl, (hcl_ HB hw359_0), (hcl_ HB hw361_0)⟩ (fun hHeld => ?_)
 clear hK K
 refine nm_ (some 21) (h := ?_)
 refine pm_ HT_ 3 22 22 127487 ?_
 refine one_ (i := 9) (N := some 28) (bb 22 127999) rfl rfl (one_of HT_.out (by kernel_rfl)) (by decide) (fun K hK => ?_)
 refine goes_ Tryz.func62 (by kernel_rfl) rfl #[.int .i64 (rd l0_4 x14_1)] (by rfl) rfl rfl (by (try simp only [List.map_toArray, List.map_cons, List.map_nil]); first | done | rfl | (simp only [List.length_drop, List.length_take]; rfl)) ?_
 with_reducible refine (spec_l1Num.calls k1 (rd l0_4 x14_1) t360 _ A15.out).mono ?_
 rintro e w25 ⟨rfl, hb⟩
 refine ⟨_, rfl, ?_⟩
 replace BK355 := am_ (blk_below (kp_ BK355) hb)
 replace HB := am_ (below_step (hb_ HB) hb)
 refine hK.out _ _ ⟨(blk_cell BK355.out 0).trans rfl, (blk_cell BK355.out 1).trans rfl, (blk_cell BK355.out 2).trans rfl, (blk_cell BK355.out 3).trans rfl, (blk_cell BK355.out 4).trans rfl, (blk_cell BK355.out 5).trans rfl, (hcl_ HB hw359_0), (hcl_ HB hw361_0)⟩ (fun hHeld => ?_)
 clear hK K
 refine nm_ (some 28) (h := ?_)
 refine pm_ HT_ 10 29 22 129023 ?_
 refine pm_ HT_ 11 30 22 131071 ?_
 refine one_ (i := 17) (N := some 36) (bb 22 262143) rfl rfl (one_of HT_.out (by kernel_rfl)) (by decide) (fun K hK => ?_)
 refine goes_ Tryz.func62 (by kernel_rfl) rfl #[.int .i64 (rd l0_5 x14_1)] (by rfl) rfl rfl (by (try simp only [List.map_toArray, List.map_cons, List.map_nil]); first | done | rfl | (simp only [List.length_drop, List.length_take]; rfl)) ?_
 with_reducible refine (spec_l1Num.calls k1 (rd l0_5 x14_1) t362 _ A19.out).mono ?_
 rintro e w26 ⟨rfl, hb⟩
 refine ⟨_, rfl, ?_⟩
 replace BK355 := am_ (blk_below (kp_ BK355) hb)
 replace HB := am_ (below_step (hb_ HB) hb)
 refine hK.out _ _ ⟨(blk_cell BK355.out 0).trans rfl, (blk_cell BK355.out 1).trans rfl, (blk_cell BK355.out 2).trans rfl, (blk_cell BK355.out 3).trans rfl, (blk_cell BK355.out 4).trans rfl, (blk_cell BK355.out 5).trans rfl, (hcl_ HB hw359_0), (hcl_ HB hw361_0)⟩ (fun hHeld => ?_)
 clear hK K
 refine nm_ (some 36) (h := ?_)
 refine pm_ HT_ 18 37 22 524287 ?_
 refine pm_ HT_ 19 38 22 1048575 ?_
 refine pm_ HT_ 20 39 22 2097151 ?_
 refine pm_ HT_ 21 3 22 4194303 ?_
 refine done_ (done_of HT_.out (by kernel_rfl)) ?_
 try go_wp2
 go_roundg k1
 case measure => have := HK1.out; omega
 case rel => exact ⟨(x3_1 ++ (((((t358 ++ (⟨#[32]⟩ : ByteArray)) ++ t360) ++ (⟨#[32]⟩ : ByteArray)) ++ t362) ++ (⟨#[10]⟩ : ByteArray))), (wrap64 (x14_1 + 1)), sr_, sr_, H', ⟨by have := HK1.out; omega⟩, ⟨kp_ BK355⟩, ⟨hb_ HB⟩⟩

/-! ### spec_ModelText: function 7 -/
def spec_ModelText.f (k : Nat) (a0_0 : Int) (a0_1 : Int) (a0_2 : Int) (l0_3 : List Int) (l0_4 : List Int) (l0_5 : List Int) : Option (ByteArray × Bool) := (spec_moGood.f k a0_0 a0_1 a0_2 l0_3 l0_4 l0_5).bind fun t364 => (if t364 = true then ((spec_moText.f k a0_0 a0_1 a0_2 l0_3 l0_4 l0_5).bind fun t365 => (some (t365, true))) else (some ((⟨#[]⟩ : ByteArray), false)))
theorem spec_ModelText.calls (k : Nat) (a0_0 : Int) (a0_1 : Int) (a0_2 : Int) (A0_3 : Option Addr) (c0_3 : Nat) (l0_3 : List Int) (A0_4 : Option Addr) (c0_4 : Nat) (l0_4 : List Int) (A0_5 : Option Addr) (c0_5 : Nat) (l0_5 : List Int) (r1 : ByteArray) (r2 : Bool) (w : World) (hr0_3 : Kd.C (Kd.int .i64) w A0_3 l0_3.length l0_3) (hc0_3 : l0_3.length ≤ c0_3) (hr0_4 : Kd.C (Kd.int .i64) w A0_4 l0_4.length l0_4) (hc0_4 : l0_4.length ≤ c0_4) (hr0_5 : Kd.C (Kd.int .i64) w A0_5 l0_5.length l0_5) (hc0_5 : l0_5.length ≤ c0_5) (h : spec_ModelText.f k a0_0 a0_1 a0_2 l0_3 l0_4 l0_5 = some (r1, r2)) :
  Calls Tryz.prog 7 #[.agg #[.int .i64 a0_0, .int .i64 a0_1, .int .i64 a0_2, .slice A0_3 l0_3.length c0_3, .slice A0_4 l0_4.length c0_4, .slice A0_5 l0_5.length c0_5]] w fun e w' => e = .returned (.tuple #[.string r1, .bool r2]) ∧ Below w.heap.size w w' := by
 have hu28 := Tryz.underlying28
 have HR0_3 := am_ hr0_3
 have HC0_3 := am_ hc0_3
 clear hr0_3 hc0_3
 have HR0_4 := am_ hr0_4
 have HC0_4 := am_ hc0_4
 clear hr0_4 hc0_4
 have HR0_5 := am_ hr0_5
 have HC0_5 := am_ hc0_5
 clear hr0_5 hc0_5
 have HB := am_ (Below.refl w.heap.size w)
 have H := h
 unfold spec_ModelText.f at H
 clear h
 revert H; refine bn_ ?_; rintro t364 A2 H; try dsimp only at H
 by_cases c3 : t364 = true
 ·subst c3
  rw [if_pos rfl] at H
  revert H; refine bn_ ?_; rintro t365 A4 H; try dsimp only at H
  simp only [Option.some.injEq, Prod.mk.injEq] at H
  obtain ⟨rfl, rfl⟩ := H
  go_enter Tryz.func7, Tryz.ntmps7
  go_wp2_with (first | ((with_reducible refine gate_dst (N := 1) rfl ?_); refine bv_ 1 (cs := #[.int .i64 a0_0, .int .i64 a0_1, .int .i64 a0_2, .slice A0_3 l0_3.length c0_3, .slice A0_4 l0_4.length c0_4, .slice A0_5 l0_5.length c0_5]) (t := 28) ?_; intro gb363 hg w5 hbox hb; have BK363 := am_ (hbox); have GW363 := gs_ hg HB; have GE363 := gs_ hg HB; replace HB := hbs_ HB hb; clear hb hbox hg; obtain ⟨hcz6_0, hcz6_1, hcz6_2, hcz6_3, hcz6_4, hcz6_5, hfz6_0, hfz6_1, hfz6_2, hfz6_3, hfz6_4, hfz6_5⟩ := bx6 BK363) | ((with_reducible refine gk_ 31 ?_); refine gq_ 5 Tryz.func31 #[.agg #[.int .i64 a0_0, .int .i64 a0_1, .int .i64 a0_2, .slice A0_3 l0_3.length c0_3, .slice A0_4 l0_4.length c0_4, .slice A0_5 l0_5.length c0_5]] ?_; (with_reducible refine (spec_moGood.calls k a0_0 a0_1 a0_2 _ _ l0_3 _ _ l0_4 _ _ l0_5 true _ ?_ ?_ ?_ ?_ ?_ ?_ A2.out).mono ?_); exact Kd.C_w HR0_3 HB; exact HC0_3.out; exact Kd.C_w HR0_4 HB; exact HC0_4.out; exact Kd.C_w HR0_5 HB; exact HC0_5.out; rintro e w7 ⟨rfl, hb⟩; refine ⟨_, rfl, ?_⟩; replace BK363 := kb_ BK363 hb; replace HB := hbs_ HB hb; obtain ⟨hcz8_0, hcz8_1, hcz8_2, hcz8_3, hcz8_4, hcz8_5, hfz8_0, hfz8_1, hfz8_2, hfz8_3, hfz8_4, hfz8_5⟩ := bx6 BK363) | ((with_reducible refine gk_ 32 ?_); refine gq_ 8 Tryz.func32 #[.agg #[.int .i64 a0_0, .int .i64 a0_1, .int .i64 a0_2, .slice A0_3 l0_3.length c0_3, .slice A0_4 l0_4.length c0_4, .slice A0_5 l0_5.length c0_5]] ?_; (with_reducible refine (spec_moText.calls k a0_0 a0_1 a0_2 _ _ l0_3 _ _ l0_4 _ _ l0_5 t365 _ ?_ ?_ ?_ ?_ ?_ ?_ A4.out).mono ?_); exact Kd.C_w HR0_3 HB; exact HC0_3.out; exact Kd.C_w HR0_4 HB; exact HC0_4.out; exact Kd.C_w HR0_5 HB; exact HC0_5.out; rintro e w9 ⟨rfl, hb⟩; refine ⟨_, rfl, ?_⟩; replace BK363 := kb_ BK363 hb; replace HB := hbs_ HB hb))
  go_ret2
  exact ad_ (hb_ HB)
 replace c3 := Bool.eq_false_iff.mpr c3
 subst c3
 rw [if_neg (show ¬ (false = true) by decide)] at H
 simp only [Option.some.injEq, Prod.mk.injEq] at H
 obtain ⟨rfl, rfl⟩ := H
 go_enter Tryz.func7, Tryz.ntmps7
 go_wp2_with (first | ((with_reducible refine gate_dst (N := 1) rfl ?_); refine bv_ 1 (cs := #[.int .i64 a0_0, .int .i64 a0_1, .int .i64 a0_2, .slice A0_3 l0_3.length c0_3, .slice A0_4 l0_4.length c0_4, .slice A0_5 l0_5.length c0_5]) (t := 28) ?_; intro gb363 hg w10 hbox hb; have BK363 := am_ (hbox); have GW363 := gs_ hg HB; have GE363 := gs_ hg HB; replace HB := hbs_ HB hb; clear hb hbox hg; obtain ⟨hcz11_0, hcz11_1, hcz11_2, hcz11_3, hcz11_4, hcz11_5, hfz11_0, hfz11_1, hfz11_2, hfz11_3, hfz11_4, hfz11_5⟩ := bx6 BK363) | ((with_reducible refine gk_ 31 ?_); refine gq_ 5 Tryz.func31 #[.agg #[.int .i64 a0_0, .int .i64 a0_1, .int .i64 a0_2, .slice A0_3 l0_3.length c0_3, .slice A0_4 l0_4.length c0_4, .slice A0_5 l0_5.length c0_5]] ?_; (with_reducible refine (spec_moGood.calls k a0_0 a0_1 a0_2 _ _ l0_3 _ _ l0_4 _ _ l0_5 false _ ?_ ?_ ?_ ?_ ?_ ?_ A2.out).mono ?_); exact Kd.C_w HR0_3 HB; exact HC0_3.out; exact Kd.C_w HR0_4 HB; exact HC0_4.out; exact Kd.C_w HR0_5 HB; exact HC0_5.out; rintro e w12 ⟨rfl, hb⟩; refine ⟨_, rfl, ?_⟩; replace BK363 := kb_ BK363 hb; replace HB := hbs_ HB hb))
 go_ret2
 exact ad_ (hb_ HB)

/-! ### stringslite_HasSuffix: function 81 -/
def stringslite_HasSuffix.f (a0 : ByteArray) (a1 : ByteArray) : Option (Bool) := if (a0.size : Int) ≥ (a1.size : Int) then (if 0 ≤ (wrap64 ((a0.size : Int) - (a1.size : Int))) then (if (wrap64 ((a0.size : Int) - (a1.size : Int))) ≤ (a0.size : Int) then (some ((a0.extract ((wrap64 ((a0.size : Int) - (a1.size : Int))) : Int).toNat a0.size).toList == a1.toList)) else (none)) else (none)) else (some false)
theorem stringslite_HasSuffix.calls (a0 : ByteArray) (a1 : ByteArray) (r : Bool) (w : World) (h : stringslite_HasSuffix.f a0 a1 = some r) :
  Calls Tryz.prog 81 #[.string a0, .string a1] w fun e w' => e = .returned (.bool r) ∧ Drawn0 w w' := by
 have H := h
 unfold stringslite_HasSuffix.f at H
 clear h
 by_cases c3 : (a0.size : Int) ≥ (a1.size : Int)
 ·rw [if_pos c3] at H
  have c3b0 : decide ((a1.size : Int) ≤ (a0.size : Int)) = true := decide_eq_true c3
  have c3b1 : decide (a1.size ≤ a0.size) = true := decide_eq_true (Int.ofNat_le.mp c3)
  clear c3
  obtain ⟨ji4, hji4⟩ : ∃ j_ : Int, (wrap64 ((a0.size : Int) - (a1.size : Int))) = j_ := ⟨_, rfl⟩
  first | rw [hji4] at H | simp only [hji4] at H
  have hji4w : (IntKind.i64.wrap ((a0.size : Int) - (a1.size : Int))) = ji4 := (i64_w _).trans hji4
  revert H; refine pf_ fun c5 H => ?_
  have c5b0 := eq_true c5
  have c5b1 := decide_eq_true c5
  clear c5
  by_cases c6 : (ji4) ≤ (a0.size : Int)
  ·rw [if_pos c6] at H
   have c6b0 := eq_true c6
   have c6b1 := decide_eq_true c6
   clear c6
   obtain rfl := Option.some.inj H
   go_enter Tryz.func81, Tryz.ntmps81
   go_wp2
   go_ret
   exact ⟨by first | rfl | (simp; done) | (simp only [← hji4] <;> (first | rfl | simp)) | (simp [*]; done), by repeat (first | exact Drawn0.refl _ | apply Drawn0.step)⟩
  rw [if_neg c6] at H
  exact absurd H (by simp)
 rw [if_neg c3] at H
 have c3b0 : decide ((a1.size : Int) ≤ (a0.size : Int)) = false := decide_eq_false c3
 have c3b1 : decide (a1.size ≤ a0.size) = false := decide_eq_false (fun h => c3 (Int.ofNat_le.mpr h))
 clear c3
 obtain rfl := Option.some.inj H
 go_enter Tryz.func81, Tryz.ntmps81
 go_wp2
 go_ret
 exact ⟨by first | rfl | (simp; done) | (simp [*]; done), by repeat (first | exact Drawn0.refl _ | apply Drawn0.step)⟩

/-! ### strings_HasSuffix: function 63 -/
def strings_HasSuffix.f (a0 : ByteArray) (a1 : ByteArray) : Option (Bool) := (stringslite_HasSuffix.f a0 a1).bind fun t366 => (some t366)
theorem strings_HasSuffix.calls (a0 : ByteArray) (a1 : ByteArray) (r : Bool) (w : World) (h : strings_HasSuffix.f a0 a1 = some r) :
  Calls Tryz.prog 63 #[.string a0, .string a1] w fun e w' => e = .returned (.bool r) ∧ Drawn0 w w' := by
 have H := h
 unfold strings_HasSuffix.f at H
 clear h
 revert H; refine bn_ ?_; rintro t366 A3 H; try dsimp only at H
 obtain rfl := Option.some.inj H
 go_enter Tryz.func63, Tryz.ntmps63
 go_wp2_with (first | ((with_reducible refine gk_ 81 ?_); refine gq_ 7 Tryz.func81 #[.string a0, .string a1] ?_; (with_reducible refine (stringslite_HasSuffix.calls a0 a1 t366 _ A3.out).mono ?_); rintro e w' ⟨rfl, ⟨nd, rfl⟩⟩; refine ⟨_, rfl, ?_⟩))
 go_ret
 exact ⟨by first | rfl | (simp; done) | (simp [*]; done), by repeat (first | exact Drawn0.refl _ | apply Drawn0.step)⟩

end Go.Proofs.YthphbkkkbolcnaaGreatDoor.PFnModels
