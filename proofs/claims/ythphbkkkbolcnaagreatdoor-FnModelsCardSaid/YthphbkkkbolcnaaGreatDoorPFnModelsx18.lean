-- Laid for this claim by wip/tools/print2.sh, a changed copy of the kit's print (wip/tools/patch_print.py): not by print.sh.
import Derived.Test.YthphbkkkbolcnaaGreatDoorPFnModelsx13
import Derived.Test.YthphbkkkbolcnaaGreatDoorPFnModelsx17
import Derived.Test.YthphbkkkbolcnaaGreatDoorVFnModels
namespace Go.Proofs.YthphbkkkbolcnaaGreatDoor.PFnModels
set_option maxHeartbeats 8000000
set_option maxRecDepth 100000
open Go.RowKit Go.Proofs.YthphbkkkbolcnaaGreatDoorW.PrintWords Go.Proofs.YthphbkkkbolcnaaGreatDoorW.PrintLast Go.Proofs.YthphbkkkbolcnaaGreatDoorW.PrintMore
set_option linter.unusedVariables false
set_option linter.unusedSimpArgs false

/-! ### spec_moOwn: function 49 -/
def spec_moOwn.f (a0_0 : Int) (a0_1 : Int) (a0_2 : Int) (l0_3 : List Int) (l0_4 : List Int) (l0_5 : List Int) : Option (Int × Int × Int × List Int × List Int × List Int) := (spec_l1Own.f l0_3).bind fun t641 => ((spec_l1Own.f l0_4).bind fun t644 => ((spec_l1Own.f l0_5).bind fun t647 => (some (a0_0, a0_1, a0_2, t641, t644, t647))))
def spec_moOwn.T1 : Bool × List (List Nat × List Nat) := (true, [([], []), ([0], [0]), ([], []), ([2], [2]), ([3], [3]), ([], []), ([5], [5]), ([6, 4], [6]), ([], []), ([8], [8]), ([9, 7], [9]), ([1, 4, 7, 10], [1, 4, 7, 10]), ([11, 10, 0, 1, 2, 3, 4, 5, 6, 7, 8, 9, 10, 11], [11])])
def spec_moOwn.B1 : List Nat := [0, 1, 0, 4, 12, 0, 32, 124, 0, 256, 1020, 2047, 4095]
theorem spec_moOwn.tab1 : rtab .any (opsOf Tryz.f49 1) = spec_moOwn.T1 := by kernel_rfl
theorem spec_moOwn.bits1 : waitsOk spec_moOwn.T1.2 spec_moOwn.B1 = true := by kernel_rfl
theorem spec_moOwn.calls (a0_0 : Int) (a0_1 : Int) (a0_2 : Int) (A0_3 : Option Addr) (c0_3 : Nat) (l0_3 : List Int) (A0_4 : Option Addr) (c0_4 : Nat) (l0_4 : List Int) (A0_5 : Option Addr) (c0_5 : Nat) (l0_5 : List Int) (r1 : Int) (r2 : Int) (r3 : Int) (r4 : List Int) (r5 : List Int) (r6 : List Int) (w : World) (hr0_3 : Kd.C (Kd.int .i64) w A0_3 l0_3.length l0_3) (hc0_3 : l0_3.length ≤ c0_3) (hr0_4 : Kd.C (Kd.int .i64) w A0_4 l0_4.length l0_4) (hc0_4 : l0_4.length ≤ c0_4) (hr0_5 : Kd.C (Kd.int .i64) w A0_5 l0_5.length l0_5) (hc0_5 : l0_5.length ≤ c0_5) (h : spec_moOwn.f a0_0 a0_1 a0_2 l0_3 l0_4 l0_5 = some (r1, r2, r3, r4, r5, r6)) :
  Calls Tryz.prog 49 #[.agg #[.int .i64 a0_0, .int .i64 a0_1, .int .i64 a0_2, .slice A0_3 l0_3.length c0_3, .slice A0_4 l0_4.length c0_4, .slice A0_5 l0_5.length c0_5]] w fun e w' => ∃ v3_ v4_ v5_ : Value, e = .returned (.agg #[.int .i64 r1, .int .i64 r2, .int .i64 r3, v3_, v4_, v5_]) ∧ Kd.R (Kd.int .i64) 3 w' w.heap.size (fun k_ => some k_ ≠ (v4_ : Value).ownBlock ∧ some k_ ≠ (v5_ : Value).ownBlock) v3_ r4 ∧ Kd.R (Kd.int .i64) 3 w' w.heap.size (fun k_ => some k_ ≠ (v3_ : Value).ownBlock ∧ some k_ ≠ (v5_ : Value).ownBlock) v4_ r5 ∧ Kd.R (Kd.int .i64) 3 w' w.heap.size (fun k_ => some k_ ≠ (v3_ : Value).ownBlock ∧ some k_ ≠ (v4_ : Value).ownBlock) v5_ r6 ∧ Below w.heap.size w w' := by
 have hu28 := Tryz.underlying28
 have hu25 := Tryz.underlying25
 have HR0_3 := am_ hr0_3
 have HC0_3 := am_ hc0_3
 clear hr0_3 hc0_3
 have HR0_4 := am_ hr0_4
 have HC0_4 := am_ hc0_4
 clear hr0_4 hc0_4
 have HR0_5 := am_ hr0_5
 have HC0_5 := am_ hc0_5
 clear hr0_5 hc0_5
 have HB := am_ (Below.refl w.heap.size w)
 have H := h
 unfold spec_moOwn.f at H
 clear h
 revert H; refine bn_ ?_; rintro t641 A2 H; try dsimp only at H
 revert H; refine bn_ ?_; rintro t644 A3 H; try dsimp only at H
 revert H; refine bn_ ?_; rintro t647 A4 H; try dsimp only at H
 simp only [Option.some.injEq, Prod.mk.injEq] at H
 obtain ⟨rfl, rfl, rfl, rfl, rfl, rfl⟩ := H
 go_enter Tryz.func49, Tryz.ntmps49
 try go_wp2_with (first | ((with_reducible refine gate_dst (N := 1) rfl ?_); refine bv_ 1 (cs := #[.int .i64 a0_0, .int .i64 a0_1, .int .i64 a0_2, .slice A0_3 l0_3.length c0_3, .slice A0_4 l0_4.length c0_4, .slice A0_5 l0_5.length c0_5]) (t := 28) ?_; intro gb639 hg w5 hbox hb; have BK639 := am_ (hbox); have GW639 := gs_ hg HB; have GE639 := gs_ hg HB; replace HB := hbs_ HB hb; clear hb hbox hg) | ((with_reducible refine gate_dst (N := 2) rfl ?_); refine bv_ 2 (cs := #[.int .i64 0, .int .i64 0, .int .i64 0, .slice none 0 0, .slice none 0 0, .slice none 0 0]) (t := 28) ?_; intro gb640 hg w6 hbox hb; have BK640 := am_ (hbox); have GW640 := gs_ hg HB; have GE640 := gs_ hg HB; have NB639_640 := nl_ hg BK639; have NB640_639 := ng_ hg BK639; replace BK639 := kb_ BK639 hb; replace HB := hbs_ HB hb; clear hb hbox hg))
 replace BK639 := am_ (blk_drew BK639.out)
 replace BK640 := am_ (blk_drew BK640.out)
 replace HB := am_ (below_drew1 HB.out)
 refine start_ (n := 13) (S := fun w' => w'.cell? ⟨gb639, 0, none⟩ = some (.int .i64 a0_0) ∧ w'.cell? ⟨gb639, 1, none⟩ = some (.int .i64 a0_1) ∧ w'.cell? ⟨gb639, 2, none⟩ = some (.int .i64 a0_2) ∧ w'.cell? ⟨gb639, 3, none⟩ = some (.slice A0_3 l0_3.length c0_3) ∧ w'.cell? ⟨gb639, 4, none⟩ = some (.slice A0_4 l0_4.length c0_4) ∧ w'.cell? ⟨gb639, 5, none⟩ = some (.slice A0_5 l0_5.length c0_5)) (ds := []) (bb 13 0) (by kernel_rfl) rfl rfl ⟨(blk_cell BK639.out 0).trans rfl, (blk_cell BK639.out 1).trans rfl, (blk_cell BK639.out 2).trans rfl, (blk_cell BK639.out 3).trans rfl, (blk_cell BK639.out 4).trans rfl, (blk_cell BK639.out 5).trans rfl⟩ (fun hHeld => ?_); refine with_tabW spec_moOwn.tab1 spec_moOwn.bits1 (fun HT_ HW_ => ?_)
 generalize w6.drew = w7 at BK639 BK640 HB hHeld ⊢
 refine pm_ HT_ 0 3 13 1 ?_
 refine pm_ HT_ 2 5 13 5 ?_
 refine pm_ HT_ 5 8 13 37 ?_
 refine pm_ HT_ 8 11 13 293 ?_
 refine tk_ HT_ HW_ hHeld 1 (some 4) (bb 13 295) (h := ?_)
 refine tk_ HT_ HW_ hHeld 3 (some 6) (bb 13 303) (h := ?_)
 refine tk_ HT_ HW_ hHeld 6 (some 9) (bb 13 367) (h := ?_)
 refine tk_ HT_ HW_ hHeld 9 (some 12) (bb 13 879) (h := ?_)
 refine one_ (i := 4) (N := some 7) (bb 13 895) rfl rfl (one_of HT_.out (by kernel_rfl)) (by decide) (fun K hK => ?_)
 refine goes_ Tryz.func72 (by kernel_rfl) rfl #[.slice A0_3 l0_3.length c0_3] (by rfl) rfl rfl (by (try simp only [List.map_toArray, List.map_cons, List.map_nil]); first | done | rfl | (simp only [List.length_drop, List.length_take]; rfl)) ?_
 with_reducible refine (spec_l1Own.calls _ _ l0_3 t641 _ ?side1 ?side2 A2.out).mono ?_
 (case side1 => exact Kd.C_w HR0_3 HB)
 (case side2 => exact HC0_3.out)
 rintro e w8 ⟨v642, rfl, ho0, hb⟩
 refine ⟨_, rfl, ?_⟩
 have HO643 := am_ (Kd.R_lower ho0 (below_size (hb_ HB)))
 replace BK639 := am_ (blk_below (kp_ BK639) hb)
 replace BK640 := am_ (blk_below (kp_ BK640) hb)
 replace HB := am_ (below_step (hb_ HB) hb)
 refine hK.out _ _ ⟨(blk_cell BK639.out 0).trans rfl, (blk_cell BK639.out 1).trans rfl, (blk_cell BK639.out 2).trans rfl, (blk_cell BK639.out 3).trans rfl, (blk_cell BK639.out 4).trans rfl, (blk_cell BK639.out 5).trans rfl⟩ (fun hHeld => ?_)
 clear hK K
 refine nm_ (some 7) (h := ?_)
 refine one_ (i := 7) (N := some 10) (bb 13 1023) rfl rfl (one_of HT_.out (by kernel_rfl)) (by decide) (fun K hK => ?_)
 refine goes_ Tryz.func72 (by kernel_rfl) rfl #[.slice A0_4 l0_4.length c0_4] (by rfl) rfl rfl (by (try simp only [List.map_toArray, List.map_cons, List.map_nil]); first | done | rfl | (simp only [List.length_drop, List.length_take]; rfl)) ?_
 with_reducible refine (spec_l1Own.calls _ _ l0_4 t644 _ ?side1 ?side2 A3.out).mono ?_
 (case side1 => exact Kd.C_w HR0_4 HB)
 (case side2 => exact HC0_4.out)
 rintro e w9 ⟨v645, rfl, ho0, hb⟩
 refine ⟨_, rfl, ?_⟩
 have n0_ := am_ (Kd.R_elder' (Kd.R_p HO643) (Kd.R_base ho0) hb)
 have n1_ := am_ (Kd.R_lower (Kd.R_nw ho0 HO643) (below_size (hb_ HB)))
 have n2_ := am_ (blk_below (kp_ BK639) hb)
 have n3_ := am_ (blk_below (kp_ BK640) hb)
 have n4_ := am_ (below_step (hb_ HB) hb)
 clear HO643
 clear BK639
 clear BK640
 clear HB
 have HO643 := n0_
 have HO646 := n1_
 have BK639 := n2_
 have BK640 := n3_
 have HB := n4_
 clear n0_ n1_ n2_ n3_ n4_
 refine hK.out _ _ ⟨(blk_cell BK639.out 0).trans rfl, (blk_cell BK639.out 1).trans rfl, (blk_cell BK639.out 2).trans rfl, (blk_cell BK639.out 3).trans rfl, (blk_cell BK639.out 4).trans rfl, (blk_cell BK639.out 5).trans rfl⟩ (fun hHeld => ?_)
 clear hK K
 refine nm_ (some 10) (h := ?_)
 refine one_ (i := 10) (N := some 13) (bb 13 2047) rfl rfl (one_of HT_.out (by kernel_rfl)) (by decide) (fun K hK => ?_)
 refine goes_ Tryz.func72 (by kernel_rfl) rfl #[.slice A0_5 l0_5.length c0_5] (by rfl) rfl rfl (by (try simp only [List.map_toArray, List.map_cons, List.map_nil]); first | done | rfl | (simp only [List.length_drop, List.length_take]; rfl)) ?_
 with_reducible refine (spec_l1Own.calls _ _ l0_5 t647 _ ?side1 ?side2 A4.out).mono ?_
 (case side1 => exact Kd.C_w HR0_5 HB)
 (case side2 => exact HC0_5.out)
 rintro e w10 ⟨v648, rfl, ho0, hb⟩
 refine ⟨_, rfl, ?_⟩
 have n0_ := am_ (Kd.R_elder' (Kd.R_p HO643) (Kd.R_base ho0) hb)
 have n1_ := am_ (Kd.R_elder' (Kd.R_p HO646) (Kd.R_base ho0) hb)
 have n2_ := am_ (Kd.R_lower (Kd.R_nw (Kd.R_nw ho0 HO643) HO646) (below_size (hb_ HB)))
 have n3_ := am_ (blk_below (kp_ BK639) hb)
 have n4_ := am_ (blk_below (kp_ BK640) hb)
 have n5_ := am_ (below_step (hb_ HB) hb)
 clear HO643
 clear HO646
 clear BK639
 clear BK640
 clear HB
 have HO643 := n0_
 have HO646 := n1_
 have HO649 := n2_
 have BK639 := n3_
 have BK640 := n4_
 have HB := n5_
 clear n0_ n1_ n2_ n3_ n4_ n5_
 obtain ⟨Ao11, co11, eo11⟩ := Kd.R_slice HO649.out
 (first | subst eo11 | (injection eo11 with f1_ f2_ f3_; have f4_ := f1_.symm; have f5_ := f3_.symm; clear f1_ f2_ f3_; subst f4_; subst f5_))
 obtain ⟨Ao12, co12, eo12⟩ := Kd.R_slice HO646.out
 (first | subst eo12 | (injection eo12 with f1_ f2_ f3_; have f4_ := f1_.symm; have f5_ := f3_.symm; clear f1_ f2_ f3_; subst f4_; subst f5_))
 obtain ⟨Ao13, co13, eo13⟩ := Kd.R_slice HO643.out
 (first | subst eo13 | (injection eo13 with f1_ f2_ f3_; have f4_ := f1_.symm; have f5_ := f3_.symm; clear f1_ f2_ f3_; subst f4_; subst f5_))
 refine hK.out _ _ ⟨(blk_cell BK639.out 0).trans rfl, (blk_cell BK639.out 1).trans rfl, (blk_cell BK639.out 2).trans rfl, (blk_cell BK639.out 3).trans rfl, (blk_cell BK639.out 4).trans rfl, (blk_cell BK639.out 5).trans rfl⟩ (fun hHeld => ?_)
 clear hK K
 refine nm_ (some 13) (h := ?_)
 refine pm_ HT_ 11 14 13 4095 ?_
 refine one_ (i := 12) (N := none) (bb 13 8191) rfl rfl (one_of HT_.out (by kernel_rfl)) (by decide) (fun K hK => ?_)
 have hs14 : w10.cell? ⟨gb640, 0, none⟩ = some (.int .i64 0) := (blk_cell BK640.out 0).trans rfl
 have hfs14 := blk_frozen BK640.out 0
 have hns14_0 := NB639_640.out
 have hms14_0 := NB640_639.out
 have hs15 : w10.cell? ⟨gb640, 1, none⟩ = some (.int .i64 0) := (blk_cell BK640.out 1).trans rfl
 have hfs15 := blk_frozen BK640.out 1
 have hns15_0 := NB639_640.out
 have hms15_0 := NB640_639.out
 have hs16 : w10.cell? ⟨gb640, 2, none⟩ = some (.int .i64 0) := (blk_cell BK640.out 2).trans rfl
 have hfs16 := blk_frozen BK640.out 2
 have hns16_0 := NB639_640.out
 have hms16_0 := NB640_639.out
 have hs17 : w10.cell? ⟨gb640, 3, none⟩ = some (.slice none 0 0) := (blk_cell BK640.out 3).trans rfl
 have hfs17 := blk_frozen BK640.out 3
 have hns17_0 := NB639_640.out
 have hms17_0 := NB640_639.out
 have hs18 : w10.cell? ⟨gb640, 4, none⟩ = some (.slice none 0 0) := (blk_cell BK640.out 4).trans rfl
 have hfs18 := blk_frozen BK640.out 4
 have hns18_0 := NB639_640.out
 have hms18_0 := NB640_639.out
 have hs19 : w10.cell? ⟨gb640, 5, none⟩ = some (.slice none 0 0) := (blk_cell BK640.out 5).trans rfl
 have hfs19 := blk_frozen BK640.out 5
 have hns19_0 := NB639_640.out
 have hms19_0 := NB640_639.out
 refine skip_ (w1 := ?_) (by rfl) rfl ?_ ?_
 rotate_left
 ·go_simp
  rfl
 refine hK.out _ _ ⟨((cell_far (p := ⟨gb640, _, none⟩) NB639_640.out _).trans (((cell_far (p := ⟨gb640, _, none⟩) NB639_640.out _).trans (((cell_far (p := ⟨gb640, _, none⟩) NB639_640.out _).trans (((cell_far (p := ⟨gb640, _, none⟩) NB639_640.out _).trans (((cell_far (p := ⟨gb640, _, none⟩) NB639_640.out _).trans (((cell_far (p := ⟨gb640, _, none⟩) NB639_640.out _).trans (hHeld.1)))))))))))), ((cell_far (p := ⟨gb640, _, none⟩) NB639_640.out _).trans (((cell_far (p := ⟨gb640, _, none⟩) NB639_640.out _).trans (((cell_far (p := ⟨gb640, _, none⟩) NB639_640.out _).trans (((cell_far (p := ⟨gb640, _, none⟩) NB639_640.out _).trans (((cell_far (p := ⟨gb640, _, none⟩) NB639_640.out _).trans (((cell_far (p := ⟨gb640, _, none⟩) NB639_640.out _).trans (hHeld.2.1)))))))))))), ((cell_far (p := ⟨gb640, _, none⟩) NB639_640.out _).trans (((cell_far (p := ⟨gb640, _, none⟩) NB639_640.out _).trans (((cell_far (p := ⟨gb640, _, none⟩) NB639_640.out _).trans (((cell_far (p := ⟨gb640, _, none⟩) NB639_640.out _).trans (((cell_far (p := ⟨gb640, _, none⟩) NB639_640.out _).trans (((cell_far (p := ⟨gb640, _, none⟩) NB639_640.out _).trans (hHeld.2.2.1)))))))))))), ((cell_far (p := ⟨gb640, _, none⟩) NB639_640.out _).trans (((cell_far (p := ⟨gb640, _, none⟩) NB639_640.out _).trans (((cell_far (p := ⟨gb640, _, none⟩) NB639_640.out _).trans (((cell_far (p := ⟨gb640, _, none⟩) NB639_640.out _).trans (((cell_far (p := ⟨gb640, _, none⟩) NB639_640.out _).trans (((cell_far (p := ⟨gb640, _, none⟩) NB639_640.out _).trans (hHeld.2.2.2.1)))))))))))), ((cell_far (p := ⟨gb640, _, none⟩) NB639_640.out _).trans (((cell_far (p := ⟨gb640, _, none⟩) NB639_640.out _).trans (((cell_far (p := ⟨gb640, _, none⟩) NB639_640.out _).trans (((cell_far (p := ⟨gb640, _, none⟩) NB639_640.out _).trans (((cell_far (p := ⟨gb640, _, none⟩) NB639_640.out _).trans (((cell_far (p := ⟨gb640, _, none⟩) NB639_640.out _).trans (hHeld.2.2.2.2.1)))))))))))), ((cell_far (p := ⟨gb640, _, none⟩) NB639_640.out _).trans (((cell_far (p := ⟨gb640, _, none⟩) NB639_640.out _).trans (((cell_far (p := ⟨gb640, _, none⟩) NB639_640.out _).trans (((cell_far (p := ⟨gb640, _, none⟩) NB639_640.out _).trans (((cell_far (p := ⟨gb640, _, none⟩) NB639_640.out _).trans (((cell_far (p := ⟨gb640, _, none⟩) NB639_640.out _).trans (hHeld.2.2.2.2.2))))))))))))⟩ (fun hHeld => ?_)
 clear hK K
 refine done_ (done_of HT_.out (by kernel_rfl)) ?_
 try go_wp2
 refine bodyPost_ret (results_cell_row rfl _ _ gb640 28 #[.int .i64 a0_0, .int .i64 a0_1, .int .i64 a0_2, .slice Ao13 t641.length co13, .slice Ao12 t644.length co12, .slice Ao11 t647.length co11] (0, 0) _ rfl (kpq_ (kputs BK640 [(0, _), (1, _), (2, _), (3, _), (4, _), (5, _)])) Tryz.underlying28 rfl (by kernel_rfl)) rfl ?_
 exact ⟨_, _, _, se_, Kd.R_mono (Kd.R_s HO643 BK640) (fun _ hk => ⟨hk.1.2, hk.2⟩), Kd.R_mono (Kd.R_s HO646 BK640) (fun _ hk => ⟨hk.1.2, hk.2⟩), Kd.R_mono (Kd.R_s HO649 BK640) (fun _ hk => ⟨hk.1.2, hk.2⟩), hb_ HB⟩

/-! ### spec_EmptyBlocks: function 23 -/
def spec_EmptyBlocks.l0 : Nat → List Int → Int → Int → Int → Int → Int → List Int → List Int → List Int → Option (Int × Int × Int × List Int × List Int × List Int × Bool)
 | 0, _, _, _, _, _, _, _, _, _ => none
 | k + 1, x16, x17, x18, x666000, x666001, x666002, x666003, x666004, x666005 => if x18 < x17 then (if 0 ≤ x18 then (if x18 < (x16.length : Int) then (if 0 ≤ (rd x16 x18) then (if (rd x16 x18) < (x666003.length : Int) then (spec_EmptyBlocks.l0 k x16 x17 (wrap64 (x18 + 1)) x666000 x666001 x666002 (x666003.set ((rd x16 x18) : Int).toNat 0) x666004 x666005) else (none)) else (none)) else (none)) else (none)) else (some (x666000, x666001, x666002, x666003, x666004, x666005, true))
def spec_EmptyBlocks.f (k : Nat) (a0_0 : Int) (a0_1 : Int) (a0_2 : Int) (l0_3 : List Int) (l0_4 : List Int) (l0_5 : List Int) (l1 : List Int) : Option (Int × Int × Int × List Int × List Int × List Int × Bool) := (spec_moList.f k a0_0 a0_1 a0_2 l0_3 l0_4 l0_5 l1).bind fun t652 => (if t652 = true then ((spec_moOwn.f a0_0 a0_1 a0_2 l0_3 l0_4 l0_5).bind fun bt653 => (spec_EmptyBlocks.l0 k l1 (l1.length : Int) 0 bt653.1 bt653.2.1 bt653.2.2.1 bt653.2.2.2.1 bt653.2.2.2.2.1 bt653.2.2.2.2.2)) else (some (0, 0, 0, ([] : List Int), ([] : List Int), ([] : List Int), false)))
theorem spec_EmptyBlocks.calls (k : Nat) (a0_0 : Int) (a0_1 : Int) (a0_2 : Int) (A0_3 : Option Addr) (c0_3 : Nat) (l0_3 : List Int) (A0_4 : Option Addr) (c0_4 : Nat) (l0_4 : List Int) (A0_5 : Option Addr) (c0_5 : Nat) (l0_5 : List Int) (A1 : Option Addr) (c1 : Nat) (l1 : List Int) (r1 : Int) (r2 : Int) (r3 : Int) (r4 : List Int) (r5 : List Int) (r6 : List Int) (r7 : Bool) (w : World) (hr0_3 : Kd.C (Kd.int .i64) w A0_3 l0_3.length l0_3) (hc0_3 : l0_3.length ≤ c0_3) (hr0_4 : Kd.C (Kd.int .i64) w A0_4 l0_4.length l0_4) (hc0_4 : l0_4.length ≤ c0_4) (hr0_5 : Kd.C (Kd.int .i64) w A0_5 l0_5.length l0_5) (hc0_5 : l0_5.length ≤ c0_5) (hr1 : Kd.C (Kd.int .i64) w A1 l1.length l1) (hc1 : l1.length ≤ c1) (h : spec_EmptyBlocks.f k a0_0 a0_1 a0_2 l0_3 l0_4 l0_5 l1 = some (r1, r2, r3, r4, r5, r6, r7)) :
  Calls Tryz.prog 23 #[.agg #[.int .i64 a0_0, .int .i64 a0_1, .int .i64 a0_2, .slice A0_3 l0_3.length c0_3, .slice A0_4 l0_4.length c0_4, .slice A0_5 l0_5.length c0_5], .slice A1 l1.length c1] w fun e w' => ∃ v3_ v4_ v5_ : Value, e = .returned (.tuple #[.agg #[.int .i64 r1, .int .i64 r2, .int .i64 r3, v3_, v4_, v5_], .bool r7]) ∧ Kd.R (Kd.int .i64) 3 w' w.heap.size (fun k_ => some k_ ≠ (v4_ : Value).ownBlock ∧ some k_ ≠ (v5_ : Value).ownBlock) v3_ r4 ∧ Kd.R (Kd.int .i64) 3 w' w.heap.size (fun k_ => some k_ ≠ (v3_ : Value).ownBlock ∧ some k_ ≠ (v5_ : Value).ownBlock) v4_ r5 ∧ Kd.R (Kd.int .i64) 3 w' w.heap.size (fun k_ => some k_ ≠ (v3_ : Value).ownBlock ∧ some k_ ≠ (v4_ : Value).ownBlock) v5_ r6 ∧ Below w.heap.size w w' := by
 have hu28 := Tryz.underlying28
 have HR0_3 := am_ hr0_3
 have HC0_3 := am_ hc0_3
 clear hr0_3 hc0_3
 have HR0_4 := am_ hr0_4
 have HC0_4 := am_ hc0_4
 clear hr0_4 hc0_4
 have HR0_5 := am_ hr0_5
 have HC0_5 := am_ hc0_5
 clear hr0_5 hc0_5
 have HR1 := am_ hr1
 have HC1 := am_ hc1
 clear hr1 hc1
 have HB := am_ (Below.refl w.heap.size w)
 have H := h
 unfold spec_EmptyBlocks.f at H
 clear h
 revert H; refine bn_ ?_; rintro t652 A3 H; try dsimp only at H
 by_cases c4 : t652 = true
 ·subst c4
  rw [if_pos rfl] at H
  revert H; refine bn_ ?_; rintro ⟨t653, t654, t655, t656, t659, t662⟩ A5 H; try dsimp only at H
  have H' := am_ H
  clear H
  go_enter Tryz.func23, Tryz.ntmps23
  go_wp2_with (first | ((with_reducible refine gate_dst (N := 2) rfl ?_); refine bv_ 2 (cs := #[.int .i64 a0_0, .int .i64 a0_1, .int .i64 a0_2, .slice A0_3 l0_3.length c0_3, .slice A0_4 l0_4.length c0_4, .slice A0_5 l0_5.length c0_5]) (t := 28) ?_; intro gb650 hg w6 hbox hb; have BK650 := am_ (hbox); have GW650 := gs_ hg HB; have GE650 := gs_ hg HB; replace HB := hbs_ HB hb; clear hb hbox hg) | ((with_reducible refine gate_dst (N := 4) rfl ?_); refine bv_ 4 (cs := #[.int .i64 0, .int .i64 0, .int .i64 0, .slice none 0 0, .slice none 0 0, .slice none 0 0]) (t := 28) ?_; intro gb651 hg w7 hbox hb; have BK651 := am_ (hbox); have GW651 := gs_ hg HB; have GE651 := gs_ hg HB; have NB650_651 := nl_ hg BK650; have NB651_650 := ng_ hg BK650; replace BK650 := kb_ BK650 hb; replace HB := hbs_ HB hb; clear hb hbox hg; have := NB650_651.out; have := NB651_650.out; obtain ⟨hcz9_0, hcz9_1, hcz9_2, hcz9_3, hcz9_4, hcz9_5, hfz9_0, hfz9_1, hfz9_2, hfz9_3, hfz9_4, hfz9_5⟩ := bx6 BK650) | ((with_reducible refine gk_ 48 ?_); refine gq_ 11 Tryz.func48 #[.agg #[.int .i64 a0_0, .int .i64 a0_1, .int .i64 a0_2, .slice A0_3 l0_3.length c0_3, .slice A0_4 l0_4.length c0_4, .slice A0_5 l0_5.length c0_5], .slice A1 l1.length c1] ?_; (with_reducible refine (spec_moList.calls k a0_0 a0_1 a0_2 _ _ l0_3 _ _ l0_4 _ _ l0_5 _ _ l1 true _ ?_ ?_ ?_ ?_ ?_ ?_ ?_ ?_ A3.out).mono ?_); exact Kd.C_w HR0_3 HB; exact HC0_3.out; exact Kd.C_w HR0_4 HB; exact HC0_4.out; exact Kd.C_w HR0_5 HB; exact HC0_5.out; exact Kd.C_w HR1 HB; exact HC1.out; rintro e w10 ⟨rfl, hb⟩; refine ⟨_, rfl, ?_⟩; replace BK650 := kb_ BK650 hb; replace BK651 := kb_ BK651 hb; replace HB := hbs_ HB hb; obtain ⟨hcz11_0, hcz11_1, hcz11_2, hcz11_3, hcz11_4, hcz11_5, hfz11_0, hfz11_1, hfz11_2, hfz11_3, hfz11_4, hfz11_5⟩ := bx6 BK650) | ((with_reducible refine gk_ 49 ?_); refine gq_ 15 Tryz.func49 #[.agg #[.int .i64 a0_0, .int .i64 a0_1, .int .i64 a0_2, .slice A0_3 l0_3.length c0_3, .slice A0_4 l0_4.length c0_4, .slice A0_5 l0_5.length c0_5]] ?_; (with_reducible refine (spec_moOwn.calls a0_0 a0_1 a0_2 _ _ l0_3 _ _ l0_4 _ _ l0_5 t653 t654 t655 t656 t659 t662 _ ?_ ?_ ?_ ?_ ?_ ?_ A5.out).mono ?_); exact Kd.C_w HR0_3 HB; exact HC0_3.out; exact Kd.C_w HR0_4 HB; exact HC0_4.out; exact Kd.C_w HR0_5 HB; exact HC0_5.out; rintro e w12 ⟨v657, v660, v663, rfl, ho0, ho1, ho2, hb⟩; refine ⟨_, rfl, ?_⟩; have HO658 := Kd.R_lo ho0 HB; have HO661 := Kd.R_lo ho1 HB; have HO664 := Kd.R_lo ho2 HB; replace BK650 := kb_ BK650 hb; replace BK651 := kb_ BK651 hb; replace HB := hbs_ HB hb; try clear BK650; try clear GW650; try clear GE650; try clear NB650_651; try clear NB651_650) | ((with_reducible refine gate_dst (N := 6) rfl ?_); refine bv_ 6 (cs := #[.int .i64 0, .int .i64 0, .int .i64 0, .slice none 0 0, .slice none 0 0, .slice none 0 0]) (t := 28) ?_; intro gb665 hg w13 hbox hb; have BK665 := am_ (hbox); have GW665 := gs_ hg HB; have GE665 := gs_ hg HB; have NB651_665 := nl_ hg BK651; have NB665_651 := ng_ hg BK651; replace HO658 := Kd.R_b HO658 hb; replace HO661 := Kd.R_b HO661 hb; replace HO664 := Kd.R_b HO664 hb; replace BK651 := kb_ BK651 hb; replace HB := hbs_ HB hb; clear hb hbox hg; have := NB665_651.out; have := NB651_665.out; obtain ⟨hcz15_0, hcz15_1, hcz15_2, hcz15_3, hcz15_4, hcz15_5, hfz15_0, hfz15_1, hfz15_2, hfz15_3, hfz15_4, hfz15_5⟩ := bx6 BK665; obtain ⟨Ao16, co16, eo16⟩ := Kd.R_slice HO658.out; subst eo16; obtain ⟨Ao17, co17, eo17⟩ := Kd.R_slice HO661.out; subst eo17; obtain ⟨Ao18, co18, eo18⟩ := Kd.R_slice HO664.out; subst eo18))
  go_loopg [18] k (fun kq v18 w' => ∃ (x18_1 : Int) (x666003_1 : List Int) (x666004_1 : List Int) (x666005_1 : List Int) (u666003 : Value) (u666004 : Value) (u666005 : Value), v18 = .int .i64 x18_1 ∧ Aside0 (spec_EmptyBlocks.l0 kq l1 (l1.length : Int) x18_1 t653 t654 t655 x666003_1 x666004_1 x666005_1 = some (r1, r2, r3, r4, r5, r6, r7)) ∧ Aside0 (kq ≤ k) ∧ Aside0 (Kd.R (Kd.int .i64) 3 w' w.heap.size (fun k_ => some k_ ≠ (u666004 : Value).ownBlock ∧ some k_ ≠ (u666005 : Value).ownBlock) u666003 x666003_1) ∧ Aside0 (Kd.R (Kd.int .i64) 3 w' w.heap.size (fun k_ => some k_ ≠ (u666003 : Value).ownBlock ∧ some k_ ≠ (u666005 : Value).ownBlock) u666004 x666004_1) ∧ Aside0 (Kd.R (Kd.int .i64) 3 w' w.heap.size (fun k_ => some k_ ≠ (u666003 : Value).ownBlock ∧ some k_ ≠ (u666004 : Value).ownBlock) u666005 x666005_1) ∧ Aside0 (w'.heap[gb651]? = some (.cells #[.int .i64 0, .int .i64 0, .int .i64 0, (.slice none 0 0), (.slice none 0 0), (.slice none 0 0)] 28 (0, 0))) ∧ Aside0 (w'.heap[gb665]? = some (.cells #[.int .i64 t653, .int .i64 t654, .int .i64 t655, u666003, u666004, u666005] 28 (0, 0))) ∧ Aside0 (Below w.heap.size w w'))
  case atStart => exact ⟨(0), (t656), (t659), (t662), (.slice Ao16 t656.length co16), (.slice Ao17 t659.length co17), (.slice Ao18 t662.length co18), sr_, H', ⟨Nat.le_refl _⟩, ⟨Kd.R_mono (Kd.R_s HO658 BK665) (fun _ hk => ⟨hk.1, hk.2⟩)⟩, ⟨Kd.R_mono (Kd.R_s HO661 BK665) (fun _ hk => ⟨hk.1, hk.2⟩)⟩, ⟨Kd.R_mono (Kd.R_s HO664 BK665) (fun _ hk => ⟨hk.1, hk.2⟩)⟩, ⟨kf_ BK651 NB651_665⟩, ⟨kpq_ (kputs BK665 [(0, _), (1, _), (2, _), (3, _), (4, _), (5, _)])⟩, ⟨hb_ HB⟩⟩
  clear H'
  obtain ⟨x18_1, x666003_1, x666004_1, x666005_1, u666003, u666004, u666005, rfl, HA, HK1, HO_666003, HO_666004, HO_666005, BK651, BK665, HB⟩ := hrel
  cases gk with
  | zero => exact absurd HA.out (by simp [spec_EmptyBlocks.l0])
  | succ k1 => ?_
  have H := HA.out
  clear HA
  simp only [spec_EmptyBlocks.l0] at H
  by_cases c19 : x18_1 < (l1.length : Int)
  ·rw [if_pos c19] at H
   have c19b0 := decide_eq_true c19
   clear c19
   revert H; refine pd_ fun c20b0 H => ?_
   revert H; refine pd_ fun c21b0 H => ?_
   revert H; refine pd_ fun c22b0 H => ?_
   revert H; refine pd_ fun c23b0 H => ?_
   obtain ⟨y667, hy667⟩ : ∃ y_ : List Int, y_ = (x666003_1.set ((rd l1 x18_1) : Int).toNat 0) := ⟨_, rfl⟩
   (try with_reducible replace H := (Option.bind_some _ _).symm.trans H); (try dsimp only at H); (try rw [← hy667] at H)
   have Ny667 := am_ hy667
   clear hy667
   have H' := am_ H
   clear H
   have p666 : 0 ≤ (x18_1 : Int) := od_
   have q666 : x18_1 < (l1.length : Int) := od_
   obtain ⟨ad666, e666, hx666_0⟩ := Kd.at_int HR1.out x18_1 p666 q666
   cases e666
   try replace hx666_0 := hc_ HB hx666_0
   replace p666 := eq_true p666
   replace q666 := eq_true q666
   have := NB665_651.out
   have := NB651_665.out
   obtain ⟨hcz26_0, hcz26_1, hcz26_2, hcz26_3, hcz26_4, hcz26_5, hfz26_0, hfz26_1, hfz26_2, hfz26_3, hfz26_4, hfz26_5⟩ := bx6 BK665
   have p24 : 0 ≤ ((rd l1 x18_1) : Int) := od_
   have q24 : ((rd l1 x18_1) : Int) < ((x666003_1.length : Int) : Int) := od_
   obtain ⟨go24, co24, eo24, gb24, gl24, cl24, HG24⟩ := Kd.R_form HO_666003.out (by omega)
   (first | cases eo24 | (injection eo24 with ea_ en_ ec_; (first | subst ea_ | (injection ea_ with ea_; subst ea_)); subst ec_; clear en_))
   have GB24 := am_ gb24
   have GG24 := am_ HG24
   clear gb24 gl24 HG24
   obtain ⟨hx24_0, hf24_0⟩ := Kd.R_celln 0 HO_666003.out ((rd l1 x18_1) : Int) p24 q24
   replace p24 := eq_true p24
   replace q24 := eq_true q24
   have HP27 := Kd.R_putg HO_666003.out ((rd l1 x18_1) : Int) 0
   go_wp2_with (first | ((with_reducible refine gate_store (t := 3) (p := 25) rfl ?_); refine store_event (t := 3) (p := 25) (v := ?vo_w28) (w1 := (wr.setCell ⟨go24, ((rd l1 x18_1) : Int).toNat, none⟩ (.int .i64 0))) ?hg ?ho ?hn ?hr ?_; (case ho => rfl); (case hg => rfl); (case hn => rfl); (case hr => first | (go_simp; done) | (go_simp; rfl)); intro w28 hw; have hg : wr.grownBy w28 (some go24) := (by rw [hw]; exact HP27.2); have hp_ : Kd.R (Kd.int .i64) 3 w28 w.heap.size (fun k_ => some k_ ≠ (u666004 : Value).ownBlock ∧ some k_ ≠ (u666005 : Value).ownBlock) (.slice (some ⟨go24, 0, none⟩) x666003_1.length co24) y667 := (by rw [hw, Ny667.out]; exact HP27.1); clear HP27; replace HO_666004 := am_ (Kd.R_after (v := (.slice (some ⟨go24, 0, none⟩) x666003_1.length co24)) (v1 := (.slice (some ⟨go24, 0, none⟩) x666003_1.length co24)) (ok := (fun k_ => some k_ ≠ (u666005 : Value).ownBlock)) (rm_ (h := HO_666004.out)) hg (.inl rfl)); replace HO_666005 := am_ (Kd.R_after (v := (.slice (some ⟨go24, 0, none⟩) x666003_1.length co24)) (v1 := (.slice (some ⟨go24, 0, none⟩) x666003_1.length co24)) (ok := (fun k_ => some k_ ≠ (u666004 : Value).ownBlock)) (rm_ (h := HO_666005.out)) hg (.inl rfl)); replace BK651 := am_ (blk_grown (kp_ BK651) hg (Kd.R_ne HO_666003.out BK651.out (by decide))); replace BK665 := am_ (blk_grown (kp_ BK665) hg (Kd.R_ne HO_666003.out BK665.out (by decide))); replace HB := am_ ((by rw [hw]; exact below_set (HB.out) GB24.out : Below w.heap.size w w28)); replace HO_666003 := am_ (hp_); clear hg hw hp_))
   go_roundg k1
   case measure => have := HK1.out; omega
   case rel => exact ⟨(wrap64 (x18_1 + 1)), (y667), (x666004_1), (x666005_1), (.slice (some ⟨go24, 0, none⟩) x666003_1.length co24), (u666004), (u666005), sr_, H', ⟨by have := HK1.out; omega⟩, ⟨Kd.R_p HO_666003⟩, ⟨rm_ (h := HO_666004.out)⟩, ⟨rm_ (h := HO_666005.out)⟩, ⟨kp_ BK651⟩, ⟨kp_ BK665⟩, ⟨hb_ HB⟩⟩
  rw [if_neg c19] at H
  have c19b0 := decide_eq_false c19
  clear c19
  simp only [Option.some.injEq, Prod.mk.injEq] at H
  obtain ⟨rfl, rfl, rfl, rfl, rfl, rfl, rfl⟩ := H
  have := NB665_651.out
  have := NB651_665.out
  obtain ⟨hcz30_0, hcz30_1, hcz30_2, hcz30_3, hcz30_4, hcz30_5, hfz30_0, hfz30_1, hfz30_2, hfz30_3, hfz30_4, hfz30_5⟩ := bx6 BK665
  obtain ⟨hcz31_0, hcz31_1, hcz31_2, hcz31_3, hcz31_4, hcz31_5, hfz31_0, hfz31_1, hfz31_2, hfz31_3, hfz31_4, hfz31_5⟩ := bx6 BK651
  obtain ⟨Ao32, co32, eo32⟩ := Kd.R_slice HO_666003.out
  subst eo32
  obtain ⟨Ao33, co33, eo33⟩ := Kd.R_slice HO_666004.out
  subst eo33
  obtain ⟨Ao34, co34, eo34⟩ := Kd.R_slice HO_666005.out
  subst eo34
  go_wp2
  refine bodyPost_ret (results_ct rfl _ _ gb651 28 #[.int .i64 t653, .int .i64 t654, .int .i64 t655, .slice Ao32 x666003_1.length co32, .slice Ao33 x666004_1.length co33, .slice Ao34 x666005_1.length co34] (0, 0) _ rfl (kpq_ (kputs BK651 [(0, _), (1, _), (2, _), (3, _), (4, _), (5, _)])) Tryz.underlying28 rfl (by kernel_rfl)) rfl ?_
  exact ⟨_, _, _, se_, Kd.R_mono (Kd.R_s HO_666003 BK651) (fun _ hk => ⟨hk.1, hk.2⟩), Kd.R_mono (Kd.R_s HO_666004 BK651) (fun _ hk => ⟨hk.1, hk.2⟩), Kd.R_mono (Kd.R_s HO_666005 BK651) (fun _ hk => ⟨hk.1, hk.2⟩), hb_ HB⟩
 replace c4 := Bool.eq_false_iff.mpr c4
 subst c4
 rw [if_neg (show ¬ (false = true) by decide)] at H
 simp only [Option.some.injEq, Prod.mk.injEq] at H
 obtain ⟨rfl, rfl, rfl, rfl, rfl, rfl, rfl⟩ := H
 go_enter Tryz.func23, Tryz.ntmps23
 go_wp2_with (first | ((with_reducible refine gate_dst (N := 2) rfl ?_); refine bv_ 2 (cs := #[.int .i64 a0_0, .int .i64 a0_1, .int .i64 a0_2, .slice A0_3 l0_3.length c0_3, .slice A0_4 l0_4.length c0_4, .slice A0_5 l0_5.length c0_5]) (t := 28) ?_; intro gb650 hg w35 hbox hb; have BK650 := am_ (hbox); have GW650 := gs_ hg HB; have GE650 := gs_ hg HB; replace HB := hbs_ HB hb; clear hb hbox hg) | ((with_reducible refine gate_dst (N := 4) rfl ?_); refine bv_ 4 (cs := #[.int .i64 0, .int .i64 0, .int .i64 0, .slice none 0 0, .slice none 0 0, .slice none 0 0]) (t := 28) ?_; intro gb651 hg w36 hbox hb; have BK651 := am_ (hbox); have GW651 := gs_ hg HB; have GE651 := gs_ hg HB; have NB650_651 := nl_ hg BK650; have NB651_650 := ng_ hg BK650; replace BK650 := kb_ BK650 hb; replace HB := hbs_ HB hb; clear hb hbox hg; have := NB650_651.out; have := NB651_650.out; obtain ⟨hcz38_0, hcz38_1, hcz38_2, hcz38_3, hcz38_4, hcz38_5, hfz38_0, hfz38_1, hfz38_2, hfz38_3, hfz38_4, hfz38_5⟩ := bx6 BK650) | ((with_reducible refine gk_ 48 ?_); refine gq_ 11 Tryz.func48 #[.agg #[.int .i64 a0_0, .int .i64 a0_1, .int .i64 a0_2, .slice A0_3 l0_3.length c0_3, .slice A0_4 l0_4.length c0_4, .slice A0_5 l0_5.length c0_5], .slice A1 l1.length c1] ?_; (with_reducible refine (spec_moList.calls k a0_0 a0_1 a0_2 _ _ l0_3 _ _ l0_4 _ _ l0_5 _ _ l1 false _ ?_ ?_ ?_ ?_ ?_ ?_ ?_ ?_ A3.out).mono ?_); exact Kd.C_w HR0_3 HB; exact HC0_3.out; exact Kd.C_w HR0_4 HB; exact HC0_4.out; exact Kd.C_w HR0_5 HB; exact HC0_5.out; exact Kd.C_w HR1 HB; exact HC1.out; rintro e w39 ⟨rfl, hb⟩; refine ⟨_, rfl, ?_⟩; replace BK650 := kb_ BK650 hb; replace BK651 := kb_ BK651 hb; replace HB := hbs_ HB hb; obtain ⟨hcz40_0, hcz40_1, hcz40_2, hcz40_3, hcz40_4, hcz40_5, hfz40_0, hfz40_1, hfz40_2, hfz40_3, hfz40_4, hfz40_5⟩ := bx6 BK651))
 refine bodyPost_ret (results_ct rfl _ _ gb651 28 #[.int .i64 0, .int .i64 0, .int .i64 0, .slice none 0 0, .slice none 0 0, .slice none 0 0] (0, 0) _ rfl (kpq_ (kputs BK651 [(0, _), (1, _), (2, _), (3, _), (4, _), (5, _)])) Tryz.underlying28 rfl (by kernel_rfl)) rfl ?_
 exact ⟨_, _, _, se_, by first | exact Kd.R_nil _ _ _ _ _ | exact Kd.N_nil _ _ _ _ _ | exact Kd.V_nil _ _ _ _ _ | exact Kd.Q_nil _ _ _ _ _ | exact Kd.S_nil _ _ _ _ _, by first | exact Kd.R_nil _ _ _ _ _ | exact Kd.N_nil _ _ _ _ _ | exact Kd.V_nil _ _ _ _ _ | exact Kd.Q_nil _ _ _ _ _ | exact Kd.S_nil _ _ _ _ _, by first | exact Kd.R_nil _ _ _ _ _ | exact Kd.N_nil _ _ _ _ _ | exact Kd.V_nil _ _ _ _ _ | exact Kd.Q_nil _ _ _ _ _ | exact Kd.S_nil _ _ _ _ _, hb_ HB⟩

/-! ### impl_SumsOf: function 24 -/
def impl_SumsOf.f (k : Nat) (a0_0 : Int) (a0_1 : Int) (a0_2 : Int) (l0_3 : List Int) (l0_4 : List Int) (l0_5 : List Int) (l1 : List Int) : Option (Int × Int × Bool) := (impl_IsModel.f k a0_0 a0_1 a0_2 l0_3 l0_4 l0_5).bind fun t669 => (if t669 = true then ((impl_areBlocks.f k l1 (l0_3.length : Int)).bind fun t670 => (if t670 = true then ((impl_sumsOf.f k a0_0 a0_1 a0_2 l0_3 l0_4 l0_5 l1).bind fun bt671 => (some (bt671.1, bt671.2, true))) else (some (0, 0, false)))) else (some (0, 0, false)))
theorem impl_SumsOf.calls (k : Nat) (a0_0 : Int) (a0_1 : Int) (a0_2 : Int) (A0_3 : Option Addr) (c0_3 : Nat) (l0_3 : List Int) (A0_4 : Option Addr) (c0_4 : Nat) (l0_4 : List Int) (A0_5 : Option Addr) (c0_5 : Nat) (l0_5 : List Int) (A1 : Option Addr) (c1 : Nat) (l1 : List Int) (r1 : Int) (r2 : Int) (r3 : Bool) (w : World) (hr0_3 : Kd.C (Kd.int .i64) w A0_3 l0_3.length l0_3) (hc0_3 : l0_3.length ≤ c0_3) (hr0_4 : Kd.C (Kd.int .i64) w A0_4 l0_4.length l0_4) (hc0_4 : l0_4.length ≤ c0_4) (hr0_5 : Kd.C (Kd.int .i64) w A0_5 l0_5.length l0_5) (hc0_5 : l0_5.length ≤ c0_5) (hr1 : Kd.C (Kd.int .i64) w A1 l1.length l1) (hc1 : l1.length ≤ c1) (h : impl_SumsOf.f k a0_0 a0_1 a0_2 l0_3 l0_4 l0_5 l1 = some (r1, r2, r3)) :
  Calls Tryz.prog 24 #[.agg #[.int .i64 a0_0, .int .i64 a0_1, .int .i64 a0_2, .slice A0_3 l0_3.length c0_3, .slice A0_4 l0_4.length c0_4, .slice A0_5 l0_5.length c0_5], .slice A1 l1.length c1] w fun e w' => e = .returned (.tuple #[.int .i64 r1, .int .i64 r2, .bool r3]) ∧ Below w.heap.size w w' := by
 have hu28 := Tryz.underlying28
 have HR0_3 := am_ hr0_3
 have HC0_3 := am_ hc0_3
 clear hr0_3 hc0_3
 have HR0_4 := am_ hr0_4
 have HC0_4 := am_ hc0_4
 clear hr0_4 hc0_4
 have HR0_5 := am_ hr0_5
 have HC0_5 := am_ hc0_5
 clear hr0_5 hc0_5
 have HR1 := am_ hr1
 have HC1 := am_ hc1
 clear hr1 hc1
 have HB := am_ (Below.refl w.heap.size w)
 have H := h
 unfold impl_SumsOf.f at H
 clear h
 revert H; refine bn_ ?_; rintro t669 A3 H; try dsimp only at H
 by_cases c4 : t669 = true
 ·subst c4
  rw [if_pos rfl] at H
  revert H; refine bn_ ?_; rintro t670 A5 H; try dsimp only at H
  by_cases c6 : t670 = true
  ·subst c6
   rw [if_pos rfl] at H
   revert H; refine bn_ ?_; rintro ⟨t671, t672⟩ A7 H; try dsimp only at H
   simp only [Option.some.injEq, Prod.mk.injEq] at H
   obtain ⟨rfl, rfl, rfl⟩ := H
   go_enter Tryz.func24, Tryz.ntmps24
   go_wp2_with (first | ((with_reducible refine gate_dst (N := 2) rfl ?_); (try (refine gate_guard (by rfl) ?_; dsimp only)); refine bv_ 2 (cs := #[.int .i64 a0_0, .int .i64 a0_1, .int .i64 a0_2, .slice A0_3 l0_3.length c0_3, .slice A0_4 l0_4.length c0_4, .slice A0_5 l0_5.length c0_5]) (t := 28) ?_; intro gb668 hg w8 hbox hb; have BK668 := am_ (hbox); have GW668 := gs_ hg HB; have GE668 := gs_ hg HB; replace HB := hbs_ HB hb; clear hb hbox hg; obtain ⟨hcz9_0, hcz9_1, hcz9_2, hcz9_3, hcz9_4, hcz9_5, hfz9_0, hfz9_1, hfz9_2, hfz9_3, hfz9_4, hfz9_5⟩ := bx6 BK668) | ((with_reducible refine gk_ 8 ?_); refine gq_ 10 Tryz.func8 #[.agg #[.int .i64 a0_0, .int .i64 a0_1, .int .i64 a0_2, .slice A0_3 l0_3.length c0_3, .slice A0_4 l0_4.length c0_4, .slice A0_5 l0_5.length c0_5]] ?_; (with_reducible refine (impl_IsModel.calls k a0_0 a0_1 a0_2 _ _ l0_3 _ _ l0_4 _ _ l0_5 true _ ?_ ?_ ?_ ?_ ?_ ?_ A3.out).mono ?_); exact Kd.C_w HR0_3 HB; exact HC0_3.out; exact Kd.C_w HR0_4 HB; exact HC0_4.out; exact Kd.C_w HR0_5 HB; exact HC0_5.out; rintro e w10 ⟨rfl, hb⟩; refine ⟨_, rfl, ?_⟩; replace BK668 := kb_ BK668 hb; replace HB := hbs_ HB hb; obtain ⟨hcz11_0, hcz11_1, hcz11_2, hcz11_3, hcz11_4, hcz11_5, hfz11_0, hfz11_1, hfz11_2, hfz11_3, hfz11_4, hfz11_5⟩ := bx6 BK668) | (go_at_call 46; (with_reducible refine (impl_areBlocks.calls k _ _ l1 (l0_3.length : Int) true _ ?_ ?_ A5.out).mono ?_); exact Kd.C_w HR1 HB; exact HC1.out; rintro e w' ⟨rfl, ⟨nd, rfl⟩⟩) | ((with_reducible refine gk_ 41 ?_); refine gq_ 23 Tryz.func41 #[.agg #[.int .i64 a0_0, .int .i64 a0_1, .int .i64 a0_2, .slice A0_3 l0_3.length c0_3, .slice A0_4 l0_4.length c0_4, .slice A0_5 l0_5.length c0_5], .slice A1 l1.length c1] ?_; (with_reducible refine (impl_sumsOf.calls k a0_0 a0_1 a0_2 _ _ l0_3 _ _ l0_4 _ _ l0_5 _ _ l1 t671 t672 _ ?_ ?_ ?_ ?_ ?_ ?_ ?_ ?_ A7.out).mono ?_); exact Kd.C_below HR0_3.out (hb_ HB); exact HC0_3.out; exact Kd.C_below HR0_4.out (hb_ HB); exact HC0_4.out; exact Kd.C_below HR0_5.out (hb_ HB); exact HC0_5.out; exact Kd.C_below HR1.out (hb_ HB); exact HC1.out; rintro e w12 ⟨rfl, hb⟩; refine ⟨_, rfl, ?_⟩; replace BK668 := kb_ BK668 hb; replace HB := hbs_ HB hb))
   go_ret3
   exact ad_ (hb_ HB)
  replace c6 := Bool.eq_false_iff.mpr c6
  subst c6
  rw [if_neg (show ¬ (false = true) by decide)] at H
  simp only [Option.some.injEq, Prod.mk.injEq] at H
  obtain ⟨rfl, rfl, rfl⟩ := H
  go_enter Tryz.func24, Tryz.ntmps24
  go_wp2_with (first | ((with_reducible refine gate_dst (N := 2) rfl ?_); (try (refine gate_guard (by rfl) ?_; dsimp only)); refine bv_ 2 (cs := #[.int .i64 a0_0, .int .i64 a0_1, .int .i64 a0_2, .slice A0_3 l0_3.length c0_3, .slice A0_4 l0_4.length c0_4, .slice A0_5 l0_5.length c0_5]) (t := 28) ?_; intro gb668 hg w13 hbox hb; have BK668 := am_ (hbox); have GW668 := gs_ hg HB; have GE668 := gs_ hg HB; replace HB := hbs_ HB hb; clear hb hbox hg; obtain ⟨hcz14_0, hcz14_1, hcz14_2, hcz14_3, hcz14_4, hcz14_5, hfz14_0, hfz14_1, hfz14_2, hfz14_3, hfz14_4, hfz14_5⟩ := bx6 BK668) | ((with_reducible refine gk_ 8 ?_); refine gq_ 10 Tryz.func8 #[.agg #[.int .i64 a0_0, .int .i64 a0_1, .int .i64 a0_2, .slice A0_3 l0_3.length c0_3, .slice A0_4 l0_4.length c0_4, .slice A0_5 l0_5.length c0_5]] ?_; (with_reducible refine (impl_IsModel.calls k a0_0 a0_1 a0_2 _ _ l0_3 _ _ l0_4 _ _ l0_5 true _ ?_ ?_ ?_ ?_ ?_ ?_ A3.out).mono ?_); exact Kd.C_w HR0_3 HB; exact HC0_3.out; exact Kd.C_w HR0_4 HB; exact HC0_4.out; exact Kd.C_w HR0_5 HB; exact HC0_5.out; rintro e w15 ⟨rfl, hb⟩; refine ⟨_, rfl, ?_⟩; replace BK668 := kb_ BK668 hb; replace HB := hbs_ HB hb; obtain ⟨hcz16_0, hcz16_1, hcz16_2, hcz16_3, hcz16_4, hcz16_5, hfz16_0, hfz16_1, hfz16_2, hfz16_3, hfz16_4, hfz16_5⟩ := bx6 BK668) | (go_at_call 46; (with_reducible refine (impl_areBlocks.calls k _ _ l1 (l0_3.length : Int) false _ ?_ ?_ A5.out).mono ?_); exact Kd.C_w HR1 HB; exact HC1.out; rintro e w' ⟨rfl, ⟨nd, rfl⟩⟩))
  go_ret3
  exact ad_ (hb_ HB)
 replace c4 := Bool.eq_false_iff.mpr c4
 subst c4
 rw [if_neg (show ¬ (false = true) by decide)] at H
 simp only [Option.some.injEq, Prod.mk.injEq] at H
 obtain ⟨rfl, rfl, rfl⟩ := H
 go_enter Tryz.func24, Tryz.ntmps24
 go_wp2_with (first | ((with_reducible refine gate_dst (N := 2) rfl ?_); (try (refine gate_guard (by rfl) ?_; dsimp only)); refine bv_ 2 (cs := #[.int .i64 a0_0, .int .i64 a0_1, .int .i64 a0_2, .slice A0_3 l0_3.length c0_3, .slice A0_4 l0_4.length c0_4, .slice A0_5 l0_5.length c0_5]) (t := 28) ?_; intro gb668 hg w17 hbox hb; have BK668 := am_ (hbox); have GW668 := gs_ hg HB; have GE668 := gs_ hg HB; replace HB := hbs_ HB hb; clear hb hbox hg; obtain ⟨hcz18_0, hcz18_1, hcz18_2, hcz18_3, hcz18_4, hcz18_5, hfz18_0, hfz18_1, hfz18_2, hfz18_3, hfz18_4, hfz18_5⟩ := bx6 BK668) | ((with_reducible refine gk_ 8 ?_); refine gq_ 10 Tryz.func8 #[.agg #[.int .i64 a0_0, .int .i64 a0_1, .int .i64 a0_2, .slice A0_3 l0_3.length c0_3, .slice A0_4 l0_4.length c0_4, .slice A0_5 l0_5.length c0_5]] ?_; (with_reducible refine (impl_IsModel.calls k a0_0 a0_1 a0_2 _ _ l0_3 _ _ l0_4 _ _ l0_5 false _ ?_ ?_ ?_ ?_ ?_ ?_ A3.out).mono ?_); exact Kd.C_w HR0_3 HB; exact HC0_3.out; exact Kd.C_w HR0_4 HB; exact HC0_4.out; exact Kd.C_w HR0_5 HB; exact HC0_5.out; rintro e w19 ⟨rfl, hb⟩; refine ⟨_, rfl, ?_⟩; replace BK668 := kb_ BK668 hb; replace HB := hbs_ HB hb))
 go_ret3
 exact ad_ (hb_ HB)

/-! ### spec_SumsOf: function 25 -/
def spec_SumsOf.f (k : Nat) (a0_0 : Int) (a0_1 : Int) (a0_2 : Int) (l0_3 : List Int) (l0_4 : List Int) (l0_5 : List Int) (l1 : List Int) : Option (Int × Int × Bool) := (spec_moList.f k a0_0 a0_1 a0_2 l0_3 l0_4 l0_5 l1).bind fun t674 => (if t674 = true then ((spec_moSums.f k a0_0 a0_1 a0_2 l0_3 l0_4 l0_5 l1).bind fun bt675 => (some (bt675.1, bt675.2, true))) else (some (0, 0, false)))
theorem spec_SumsOf.calls (k : Nat) (a0_0 : Int) (a0_1 : Int) (a0_2 : Int) (A0_3 : Option Addr) (c0_3 : Nat) (l0_3 : List Int) (A0_4 : Option Addr) (c0_4 : Nat) (l0_4 : List Int) (A0_5 : Option Addr) (c0_5 : Nat) (l0_5 : List Int) (A1 : Option Addr) (c1 : Nat) (l1 : List Int) (r1 : Int) (r2 : Int) (r3 : Bool) (w : World) (hr0_3 : Kd.C (Kd.int .i64) w A0_3 l0_3.length l0_3) (hc0_3 : l0_3.length ≤ c0_3) (hr0_4 : Kd.C (Kd.int .i64) w A0_4 l0_4.length l0_4) (hc0_4 : l0_4.length ≤ c0_4) (hr0_5 : Kd.C (Kd.int .i64) w A0_5 l0_5.length l0_5) (hc0_5 : l0_5.length ≤ c0_5) (hr1 : Kd.C (Kd.int .i64) w A1 l1.length l1) (hc1 : l1.length ≤ c1) (h : spec_SumsOf.f k a0_0 a0_1 a0_2 l0_3 l0_4 l0_5 l1 = some (r1, r2, r3)) :
  Calls Tryz.prog 25 #[.agg #[.int .i64 a0_0, .int .i64 a0_1, .int .i64 a0_2, .slice A0_3 l0_3.length c0_3, .slice A0_4 l0_4.length c0_4, .slice A0_5 l0_5.length c0_5], .slice A1 l1.length c1] w fun e w' => e = .returned (.tuple #[.int .i64 r1, .int .i64 r2, .bool r3]) ∧ Below w.heap.size w w' := by
 have hu28 := Tryz.underlying28
 have HR0_3 := am_ hr0_3
 have HC0_3 := am_ hc0_3
 clear hr0_3 hc0_3
 have HR0_4 := am_ hr0_4
 have HC0_4 := am_ hc0_4
 clear hr0_4 hc0_4
 have HR0_5 := am_ hr0_5
 have HC0_5 := am_ hc0_5
 clear hr0_5 hc0_5
 have HR1 := am_ hr1
 have HC1 := am_ hc1
 clear hr1 hc1
 have HB := am_ (Below.refl w.heap.size w)
 have H := h
 unfold spec_SumsOf.f at H
 clear h
 revert H; refine bn_ ?_; rintro t674 A3 H; try dsimp only at H
 by_cases c4 : t674 = true
 ·subst c4
  rw [if_pos rfl] at H
  revert H; refine bn_ ?_; rintro ⟨t675, t676⟩ A5 H; try dsimp only at H
  simp only [Option.some.injEq, Prod.mk.injEq] at H
  obtain ⟨rfl, rfl, rfl⟩ := H
  go_enter Tryz.func25, Tryz.ntmps25
  go_wp2_with (first | ((with_reducible refine gate_dst (N := 2) rfl ?_); refine bv_ 2 (cs := #[.int .i64 a0_0, .int .i64 a0_1, .int .i64 a0_2, .slice A0_3 l0_3.length c0_3, .slice A0_4 l0_4.length c0_4, .slice A0_5 l0_5.length c0_5]) (t := 28) ?_; intro gb673 hg w6 hbox hb; have BK673 := am_ (hbox); have GW673 := gs_ hg HB; have GE673 := gs_ hg HB; replace HB := hbs_ HB hb; clear hb hbox hg; obtain ⟨hcz7_0, hcz7_1, hcz7_2, hcz7_3, hcz7_4, hcz7_5, hfz7_0, hfz7_1, hfz7_2, hfz7_3, hfz7_4, hfz7_5⟩ := bx6 BK673) | ((with_reducible refine gk_ 48 ?_); refine gq_ 11 Tryz.func48 #[.agg #[.int .i64 a0_0, .int .i64 a0_1, .int .i64 a0_2, .slice A0_3 l0_3.length c0_3, .slice A0_4 l0_4.length c0_4, .slice A0_5 l0_5.length c0_5], .slice A1 l1.length c1] ?_; (with_reducible refine (spec_moList.calls k a0_0 a0_1 a0_2 _ _ l0_3 _ _ l0_4 _ _ l0_5 _ _ l1 true _ ?_ ?_ ?_ ?_ ?_ ?_ ?_ ?_ A3.out).mono ?_); exact Kd.C_w HR0_3 HB; exact HC0_3.out; exact Kd.C_w HR0_4 HB; exact HC0_4.out; exact Kd.C_w HR0_5 HB; exact HC0_5.out; exact Kd.C_w HR1 HB; exact HC1.out; rintro e w8 ⟨rfl, hb⟩; refine ⟨_, rfl, ?_⟩; replace BK673 := kb_ BK673 hb; replace HB := hbs_ HB hb; obtain ⟨hcz9_0, hcz9_1, hcz9_2, hcz9_3, hcz9_4, hcz9_5, hfz9_0, hfz9_1, hfz9_2, hfz9_3, hfz9_4, hfz9_5⟩ := bx6 BK673) | ((with_reducible refine gk_ 43 ?_); refine gq_ 16 Tryz.func43 #[.agg #[.int .i64 a0_0, .int .i64 a0_1, .int .i64 a0_2, .slice A0_3 l0_3.length c0_3, .slice A0_4 l0_4.length c0_4, .slice A0_5 l0_5.length c0_5], .slice A1 l1.length c1] ?_; (with_reducible refine (spec_moSums.calls k a0_0 a0_1 a0_2 _ _ l0_3 _ _ l0_4 _ _ l0_5 _ _ l1 t675 t676 _ ?_ ?_ ?_ ?_ ?_ ?_ ?_ ?_ A5.out).mono ?_); exact Kd.C_w HR0_3 HB; exact HC0_3.out; exact Kd.C_w HR0_4 HB; exact HC0_4.out; exact Kd.C_w HR0_5 HB; exact HC0_5.out; exact Kd.C_w HR1 HB; exact HC1.out; rintro e w10 ⟨rfl, hb⟩; refine ⟨_, rfl, ?_⟩; replace BK673 := kb_ BK673 hb; replace HB := hbs_ HB hb))
  go_ret3
  exact ad_ (hb_ HB)
 replace c4 := Bool.eq_false_iff.mpr c4
 subst c4
 rw [if_neg (show ¬ (false = true) by decide)] at H
 simp only [Option.some.injEq, Prod.mk.injEq] at H
 obtain ⟨rfl, rfl, rfl⟩ := H
 go_enter Tryz.func25, Tryz.ntmps25
 go_wp2_with (first | ((with_reducible refine gate_dst (N := 2) rfl ?_); refine bv_ 2 (cs := #[.int .i64 a0_0, .int .i64 a0_1, .int .i64 a0_2, .slice A0_3 l0_3.length c0_3, .slice A0_4 l0_4.length c0_4, .slice A0_5 l0_5.length c0_5]) (t := 28) ?_; intro gb673 hg w11 hbox hb; have BK673 := am_ (hbox); have GW673 := gs_ hg HB; have GE673 := gs_ hg HB; replace HB := hbs_ HB hb; clear hb hbox hg; obtain ⟨hcz12_0, hcz12_1, hcz12_2, hcz12_3, hcz12_4, hcz12_5, hfz12_0, hfz12_1, hfz12_2, hfz12_3, hfz12_4, hfz12_5⟩ := bx6 BK673) | ((with_reducible refine gk_ 48 ?_); refine gq_ 11 Tryz.func48 #[.agg #[.int .i64 a0_0, .int .i64 a0_1, .int .i64 a0_2, .slice A0_3 l0_3.length c0_3, .slice A0_4 l0_4.length c0_4, .slice A0_5 l0_5.length c0_5], .slice A1 l1.length c1] ?_; (with_reducible refine (spec_moList.calls k a0_0 a0_1 a0_2 _ _ l0_3 _ _ l0_4 _ _ l0_5 _ _ l1 false _ ?_ ?_ ?_ ?_ ?_ ?_ ?_ ?_ A3.out).mono ?_); exact Kd.C_w HR0_3 HB; exact HC0_3.out; exact Kd.C_w HR0_4 HB; exact HC0_4.out; exact Kd.C_w HR0_5 HB; exact HC0_5.out; exact Kd.C_w HR1 HB; exact HC1.out; rintro e w13 ⟨rfl, hb⟩; refine ⟨_, rfl, ?_⟩; replace BK673 := kb_ BK673 hb; replace HB := hbs_ HB hb))
 go_ret3
 exact ad_ (hb_ HB)

end Go.Proofs.YthphbkkkbolcnaaGreatDoor.PFnModels
