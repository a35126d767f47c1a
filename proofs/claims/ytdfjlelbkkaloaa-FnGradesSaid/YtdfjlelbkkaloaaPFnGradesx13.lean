-- Laid for this claim by wip/tools/print2.sh, a changed copy of the kit's print (wip/tools/patch_print.py): not by print.sh. Changed by wip/fix/drawset.py.
import Derived.Test.YtdfjlelbkkaloaaPFnGradesx0
import Derived.Test.YtdfjlelbkkaloaaPFnGradesx5
import Derived.Test.YtdfjlelbkkaloaaPFnGradesx8
import Derived.Test.YtdfjlelbkkaloaaPFnGradesx12
namespace Go.Proofs.Ytdfjlelbkkaloaa.PFnGrades
open Go.RowKit Go.Proofs.YtdfjlelbkkaloaaW.PrintWords Go.Proofs.YtdfjlelbkkaloaaW.PrintLast Go.Proofs.YtdfjlelbkkaloaaW.PrintMore
attribute [local go_sem] max2_int min2_int max_two min_two max_three min_three max_four min_four   -- for this text's walks alone
set_option linter.unusedVariables false
set_option linter.unusedSimpArgs false

/-! ### spec_DrawSetBlock: function 33 -/
def spec_DrawSetBlock.f (k : Nat) (l0 : List Int) : Option (Int × Int × Int × List Int × List Int × List Int × Int × Int × Int × Int) := (spec_l1Cur_anyModel.f k l0 0 0).bind fun bt523 => ((spec_l1Cur_block.f l0 bt523.2.2.2.2.2.2.1 bt523.2.2.2.2.2.2.2 bt523.1 bt523.2.1 bt523.2.2.1).bind fun bt538 => ((spec_l1Cur_among.f l0 bt538.2.1 bt538.2.2 (([0, 100, 10000, 10001, (-1), 500, 700] : List Int))).bind fun bt544 => ((spec_l1Cur_among.f l0 bt544.2.1 bt544.2.2 (([0, 10, 1000, 1001, (-1), 20] : List Int))).bind fun bt550 => ((spec_l1Cur_pick.f l0 bt550.2.1 bt550.2.2 6).bind fun bt553 => ((spec_l1Cur_pick.f l0 bt553.2.1 bt553.2.2 24).bind fun bt556 => (some (bt523.1, bt523.2.1, bt523.2.2.1, bt523.2.2.2.1, bt523.2.2.2.2.1, bt523.2.2.2.2.2.1, bt538.1, bt544.1, bt550.1, wrap64 (bt553.1 - (wrap64 (Int.tdiv bt556.1 23))))))))))
def spec_DrawSetBlock.T3 : Bool × List (List Nat × List Nat) := (true, [([], []), ([], []), ([], []), ([2], [2]), ([1, 3], [1, 3]), ([], []), ([], []), ([5, 6, 4], [5, 6]), ([], []), ([], []), ([8, 9, 7], [8, 9]), ([], []), ([11, 10], [11]), ([], []), ([13, 12], [13]), ([14], [14]), ([12, 15], [12, 15]), ([0, 14, 0], [0]), ([4, 17, 0, 1, 2, 3, 4, 17], [4]), ([7, 18, 0, 1, 2, 3, 4, 5, 6, 7, 17, 18], [7]), ([10, 19, 0, 1, 2, 3, 4, 5, 6, 7, 8, 9, 10, 17, 18, 19], [10]), ([16, 20, 0, 1, 2, 3, 4, 5, 6, 7, 8, 9, 10, 11, 12, 13, 14, 15, 16, 17, 18, 19, 20], [16])])
def spec_DrawSetBlock.B3 : List Nat := [0, 0, 0, 4, 14, 0, 0, 126, 0, 0, 1022, 0, 4094, 0, 16382, 32766, 65534, 32767, 163839, 425983, 950271, 2097151]
theorem spec_DrawSetBlock.tab3 : rtab .any (opsOf Try.f33 3) = spec_DrawSetBlock.T3 := by kernel_rfl
theorem spec_DrawSetBlock.bits3 : waitsOk spec_DrawSetBlock.T3.2 spec_DrawSetBlock.B3 = true := by kernel_rfl
set_option maxHeartbeats 8000000 in
set_option maxRecDepth 100000 in
theorem spec_DrawSetBlock.calls (k : Nat) (A0 : Option Addr) (c0 : Nat) (l0 : List Int) (r1 : Int) (r2 : Int) (r3 : Int) (r4 : List Int) (r5 : List Int) (r6 : List Int) (r7 : Int) (r8 : Int) (r9 : Int) (r10 : Int) (w : World) (hr0 : Kd.C (Kd.int .u8) w A0 l0.length l0) (hc0 : l0.length ≤ c0) (h : spec_DrawSetBlock.f k l0 = some (r1, r2, r3, r4, r5, r6, r7, r8, r9, r10)) :
  Calls Try.prog 33 #[.slice A0 l0.length c0] w fun e w' => ∃ v3_ v4_ v5_ : Value, e = .returned (.tuple #[.agg #[.int .i64 r1, .int .i64 r2, .int .i64 r3, v3_, v4_, v5_], .int .i64 r7, .int .i64 r8, .int .i64 r9, .int .i64 r10]) ∧ Kd.R (Kd.int .i64) 3 w' w.heap.size (fun k_ => some k_ ≠ (v4_ : Value).ownBlock ∧ some k_ ≠ (v5_ : Value).ownBlock) v3_ r4 ∧ Kd.R (Kd.int .i64) 3 w' w.heap.size (fun k_ => some k_ ≠ (v3_ : Value).ownBlock ∧ some k_ ≠ (v5_ : Value).ownBlock) v4_ r5 ∧ Kd.R (Kd.int .i64) 3 w' w.heap.size (fun k_ => some k_ ≠ (v3_ : Value).ownBlock ∧ some k_ ≠ (v4_ : Value).ownBlock) v5_ r6 ∧ Below w.heap.size w w' := by
 have hu30 := Try.underlying30
 have hu76 := Try.underlying76
 have hu28 := Try.underlying28
 have HR0 := Aside0.mk hr0
 have HC0 := Aside0.mk hc0
 clear hr0 hc0
 have HB := Aside0.mk (Below.refl w.heap.size w)
 have H : ((spec_l1Cur_anyModel.f k l0 0 0).bind fun bt523 => ((spec_l1Cur_block.f l0 bt523.2.2.2.2.2.2.1 bt523.2.2.2.2.2.2.2 bt523.1 bt523.2.1 bt523.2.2.1).bind fun bt538 => ((spec_l1Cur_among.f l0 bt538.2.1 bt538.2.2 (([0, 100, 10000, 10001, (-1), 500, 700] : List Int))).bind fun bt544 => ((spec_l1Cur_among.f l0 bt544.2.1 bt544.2.2 (([0, 10, 1000, 1001, (-1), 20] : List Int))).bind fun bt550 => ((spec_l1Cur_pick.f l0 bt550.2.1 bt550.2.2 6).bind fun bt553 => ((spec_l1Cur_pick.f l0 bt553.2.1 bt553.2.2 24).bind fun bt556 => (some (bt523.1, bt523.2.1, bt523.2.2.1, bt523.2.2.2.1, bt523.2.2.2.2.1, bt523.2.2.2.2.2.1, bt538.1, bt544.1, bt550.1, wrap64 (bt553.1 - (wrap64 (Int.tdiv bt556.1 23))))))))))) = some (r1, r2, r3, r4, r5, r6, r7, r8, r9, r10) := h
 clear h
 replace H := Option.bind_eq_some_iff.mp H
 obtain ⟨⟨t523, t524, t525, t526, t529, t532, t535, t536⟩, A20, H⟩ := H
 replace H : ((spec_l1Cur_block.f l0 t535 t536 t523 t524 t525).bind fun bt538 => ((spec_l1Cur_among.f l0 bt538.2.1 bt538.2.2 (([0, 100, 10000, 10001, (-1), 500, 700] : List Int))).bind fun bt544 => ((spec_l1Cur_among.f l0 bt544.2.1 bt544.2.2 (([0, 10, 1000, 1001, (-1), 20] : List Int))).bind fun bt550 => ((spec_l1Cur_pick.f l0 bt550.2.1 bt550.2.2 6).bind fun bt553 => ((spec_l1Cur_pick.f l0 bt553.2.1 bt553.2.2 24).bind fun bt556 => (some (t523, t524, t525, t526, t529, t532, bt538.1, bt544.1, bt550.1, wrap64 (bt553.1 - (wrap64 (Int.tdiv bt556.1 23)))))))))) = some (r1, r2, r3, r4, r5, r6, r7, r8, r9, r10) := H
 have A2 := Aside0.mk A20
 clear A20
 replace H := Option.bind_eq_some_iff.mp H
 obtain ⟨⟨t538, t539, t540⟩, A30, H⟩ := H
 replace H : ((spec_l1Cur_among.f l0 t539 t540 (([0, 100, 10000, 10001, (-1), 500, 700] : List Int))).bind fun bt544 => ((spec_l1Cur_among.f l0 bt544.2.1 bt544.2.2 (([0, 10, 1000, 1001, (-1), 20] : List Int))).bind fun bt550 => ((spec_l1Cur_pick.f l0 bt550.2.1 bt550.2.2 6).bind fun bt553 => ((spec_l1Cur_pick.f l0 bt553.2.1 bt553.2.2 24).bind fun bt556 => (some (t523, t524, t525, t526, t529, t532, t538, bt544.1, bt550.1, wrap64 (bt553.1 - (wrap64 (Int.tdiv bt556.1 23))))))))) = some (r1, r2, r3, r4, r5, r6, r7, r8, r9, r10) := H
 have A3 := Aside0.mk A30
 clear A30
 obtain ⟨y541, hy541⟩ : ∃ y_ : List Int, y_ = (([0, 100, 10000, 10001, (-1), 500, 700] : List Int)) := ⟨_, rfl⟩
 replace H : ((spec_l1Cur_among.f l0 t539 t540 y541).bind fun bt544 => ((spec_l1Cur_among.f l0 bt544.2.1 bt544.2.2 (([0, 10, 1000, 1001, (-1), 20] : List Int))).bind fun bt550 => ((spec_l1Cur_pick.f l0 bt550.2.1 bt550.2.2 6).bind fun bt553 => ((spec_l1Cur_pick.f l0 bt553.2.1 bt553.2.2 24).bind fun bt556 => (some (t523, t524, t525, t526, t529, t532, t538, bt544.1, bt550.1, wrap64 (bt553.1 - (wrap64 (Int.tdiv bt556.1 23))))))))) = some (r1, r2, r3, r4, r5, r6, r7, r8, r9, r10) := by first | (rw [hy541]; with_reducible exact H) | (have H2_ := (Option.bind_some _ _).symm.trans H; rw [hy541]; with_reducible exact H2_) | (have H2_ := (Option.bind_some _ _).symm.trans H; with_reducible exact H2_) | with_reducible exact H | (rw [hy541]; exact H) | exact H
 have Ny541 := Aside0.mk hy541
 clear hy541
 replace H := Option.bind_eq_some_iff.mp H
 obtain ⟨⟨t544, t545, t546⟩, A40, H⟩ := H
 replace H : ((spec_l1Cur_among.f l0 t545 t546 (([0, 10, 1000, 1001, (-1), 20] : List Int))).bind fun bt550 => ((spec_l1Cur_pick.f l0 bt550.2.1 bt550.2.2 6).bind fun bt553 => ((spec_l1Cur_pick.f l0 bt553.2.1 bt553.2.2 24).bind fun bt556 => (some (t523, t524, t525, t526, t529, t532, t538, t544, bt550.1, wrap64 (bt553.1 - (wrap64 (Int.tdiv bt556.1 23)))))))) = some (r1, r2, r3, r4, r5, r6, r7, r8, r9, r10) := H
 have A4 := Aside0.mk A40
 clear A40
 obtain ⟨y547, hy547⟩ : ∃ y_ : List Int, y_ = (([0, 10, 1000, 1001, (-1), 20] : List Int)) := ⟨_, rfl⟩
 replace H : ((spec_l1Cur_among.f l0 t545 t546 y547).bind fun bt550 => ((spec_l1Cur_pick.f l0 bt550.2.1 bt550.2.2 6).bind fun bt553 => ((spec_l1Cur_pick.f l0 bt553.2.1 bt553.2.2 24).bind fun bt556 => (some (t523, t524, t525, t526, t529, t532, t538, t544, bt550.1, wrap64 (bt553.1 - (wrap64 (Int.tdiv bt556.1 23)))))))) = some (r1, r2, r3, r4, r5, r6, r7, r8, r9, r10) := by first | (rw [hy547]; with_reducible exact H) | (have H2_ := (Option.bind_some _ _).symm.trans H; rw [hy547]; with_reducible exact H2_) | (have H2_ := (Option.bind_some _ _).symm.trans H; with_reducible exact H2_) | with_reducible exact H | (rw [hy547]; exact H) | exact H
 have Ny547 := Aside0.mk hy547
 clear hy547
 replace H := Option.bind_eq_some_iff.mp H
 obtain ⟨⟨t550, t551, t552⟩, A50, H⟩ := H
 replace H : ((spec_l1Cur_pick.f l0 t551 t552 6).bind fun bt553 => ((spec_l1Cur_pick.f l0 bt553.2.1 bt553.2.2 24).bind fun bt556 => (some (t523, t524, t525, t526, t529, t532, t538, t544, t550, wrap64 (bt553.1 - (wrap64 (Int.tdiv bt556.1 23))))))) = some (r1, r2, r3, r4, r5, r6, r7, r8, r9, r10) := H
 have A5 := Aside0.mk A50
 clear A50
 replace H := Option.bind_eq_some_iff.mp H
 obtain ⟨⟨t553, t554, t555⟩, A60, H⟩ := H
 replace H : ((spec_l1Cur_pick.f l0 t554 t555 24).bind fun bt556 => (some (t523, t524, t525, t526, t529, t532, t538, t544, t550, wrap64 (t553 - (wrap64 (Int.tdiv bt556.1 23)))))) = some (r1, r2, r3, r4, r5, r6, r7, r8, r9, r10) := H
 have A6 := Aside0.mk A60
 clear A60
 replace H := Option.bind_eq_some_iff.mp H
 obtain ⟨⟨t556, t557, t558⟩, A70, H⟩ := H
 replace H : (some (t523, t524, t525, t526, t529, t532, t538, t544, t550, wrap64 (t553 - (wrap64 (Int.tdiv t556 23))))) = some (r1, r2, r3, r4, r5, r6, r7, r8, r9, r10) := H
 have A7 := Aside0.mk A70
 clear A70
 simp only [Option.some.injEq, Prod.mk.injEq] at H
 obtain ⟨rfl, rfl, rfl, rfl, rfl, rfl, rfl, rfl, rfl, rfl⟩ := H
 go_enter Try.func33, Try.ntmps33
 try go_wp2_with (first | ((with_reducible refine gate_dst (N := 2) rfl ?_); refine box_event ?hg (N := 2) ?hd (cs := #[.int .i64 0, .int .i64 0, .int .i64 0, .slice none 0 0, .slice none 0 0, .slice none 0 0]) (t := 30) ?hr ?_; (case hd => rfl); (case hg => rfl); (case hr => first | (go_simp; done) | (go_simp; rfl)); intro gb521 hg w8 hbox hb; have BK521 := Aside0.mk (hbox); have GW521 := gs_ hg HB; have GE521 := gs_ hg HB; replace HB := hbs_ HB hb; clear hb hbox hg) | ((with_reducible refine gate_dst (N := 11) rfl ?_); refine box_event ?hg (N := 11) ?hd (cs := #[.slice A0 l0.length c0, .int .i64 0, .int .u64 0]) (t := 76) ?hr ?_; (case hd => rfl); (case hg => rfl); (case hr => first | (go_simp; done) | (go_simp; rfl)); intro gb522 hg w9 hbox hb; have HI522 := Aside0.mk ((show IsS76 w w9 gb522 l0 0 0 from ⟨A0, c0, hbox, (by rw [hg]; exact (below_size (hb_ HB))), HR0.out⟩)); have GW522 := gs_ hg HB; have GE522 := gs_ hg HB; have NB521_522 := nl_ hg BK521; have NB522_521 := ng_ hg BK521; replace BK521 := kb_ BK521 hb; replace HB := hbs_ HB hb; clear hb hbox hg) | ((with_reducible refine gate_callee (f := 56) rfl ?_); refine gl_ (some 13) Try.func56 #[.pointer (some ⟨gb522, 0, none⟩)] rfl rfl rfl ?_; (with_reducible refine (spec_l1Cur_anyModel.calls k gb522 l0 0 0 t523 t524 t525 t526 t529 t532 t535 t536 w _ ?side1 ?side2 A2.out).mono ?_); (case side1 => exact IsS76.q HI522); (case side2 => exact hbI_ HB (IsS76.ge HI522.out)); rintro e w10 ⟨v527, v530, v533, rfl, ho0, ho1, ho2, hi, hb, hk⟩; refine ⟨_, rfl, ?_⟩; have HO528 := Aside0.mk (Kd.R_lower ho0 (below_size (hbI_ HB (IsS76.ge HI522.out)))); have HO531 := Aside0.mk (Kd.R_lower ho1 (below_size (hbI_ HB (IsS76.ge HI522.out)))); have HO534 := Aside0.mk (Kd.R_lower ho2 (below_size (hbI_ HB (IsS76.ge HI522.out)))); replace BK521 := kk_ BK521 hk NB521_522; replace HB := Aside0.mk (hb); replace HI522 := Aside0.mk (hi); (try clear hb); (try clear hb2); (try clear hk); (try clear hi); (try clear ho0); (try clear ho1); (try clear ho2)) | ((with_reducible refine gate_dst (N := 8) rfl ?_); refine box_event ?hg (N := 8) ?hd (cs := #[.int .i64 0, .int .i64 0, .int .i64 0, .slice none 0 0, .slice none 0 0, .slice none 0 0]) (t := 30) ?hr ?_; (case hd => rfl); (case hg => rfl); (case hr => first | (go_simp; done) | (go_simp; rfl)); intro gb537 hg w11 hbox hb; have BK537 := Aside0.mk (hbox); have GW537 := Aside0.mk ((by rw [hg]; exact (below_size (hbI_ HB (IsS76.ge HI522.out))) : w.heap.size ≤ gb537)); have GE537 := Aside0.mk ((by rw [hg]; exact (below_size (hbI_ HB (IsS76.ge HI522.out))) : w.heap.size ≤ gb537)); have NB521_537 := nl_ hg BK521; have NB537_521 := ng_ hg BK521; have NB522_537 := Aside0.mk ((by rw [hg]; exact Nat.ne_of_lt (IsS76.lt (show IsS76 w _ gb522 l0 t535 t536 from IsS76.q HI522)) : gb522 ≠ gb537)); have NB537_522 := Aside0.mk ((by rw [hg]; exact Nat.ne_of_gt (IsS76.lt (show IsS76 w _ gb522 l0 t535 t536 from IsS76.q HI522)) : gb537 ≠ gb522)); replace HO528 := Kd.R_b HO528 hb; replace HO531 := Kd.R_b HO531 hb; replace HO534 := Kd.R_b HO534 hb; replace BK521 := kb_ BK521 hb; replace HB := Aside0.mk (below_step (hbI_ HB (IsS76.ge HI522.out)) hb); replace HI522 := IsS76.b HI522 hb; clear hb hbox hg; have hnb12 := NB537_521.out; have hnc12 := NB521_537.out; have hnb13 := NB537_522.out; have hnc13 := NB522_537.out; obtain ⟨hcz14_0, hcz14_1, hcz14_2, hcz14_3, hcz14_4, hcz14_5, hfz14_0, hfz14_1, hfz14_2, hfz14_3, hfz14_4, hfz14_5⟩ := bx6 BK537; obtain ⟨Ao15, co15, eo15⟩ := Kd.R_slice HO528.out; subst eo15; obtain ⟨Ao16, co16, eo16⟩ := Kd.R_slice HO531.out; subst eo16; obtain ⟨Ao17, co17, eo17⟩ := Kd.R_slice HO534.out; subst eo17))
 have n0_ : Aside0 (Kd.R (Kd.int .i64) 3 ((((((w11.setCell ⟨gb537, 0, none⟩ (.int .i64 t523)).setCell ⟨gb537, 1, none⟩ (.int .i64 t524)).setCell ⟨gb537, 2, none⟩ (.int .i64 t525)).setCell ⟨gb537, 3, none⟩ (.slice Ao15 t526.length co15)).setCell ⟨gb537, 4, none⟩ (.slice Ao16 t529.length co16)).setCell ⟨gb537, 5, none⟩ (.slice Ao17 t532.length co17)) w.heap.size (fun k_ => some k_ ≠ (.slice Ao16 t529.length co16 : Value).ownBlock ∧ some k_ ≠ (.slice Ao17 t532.length co17 : Value).ownBlock) (.slice Ao15 t526.length co15) t526) := ⟨Kd.R_mono (Kd.R_s HO528 BK537) (fun _ hk => ⟨hk.1, hk.2⟩)⟩
 have n1_ : Aside0 (Kd.R (Kd.int .i64) 3 ((((((w11.setCell ⟨gb537, 0, none⟩ (.int .i64 t523)).setCell ⟨gb537, 1, none⟩ (.int .i64 t524)).setCell ⟨gb537, 2, none⟩ (.int .i64 t525)).setCell ⟨gb537, 3, none⟩ (.slice Ao15 t526.length co15)).setCell ⟨gb537, 4, none⟩ (.slice Ao16 t529.length co16)).setCell ⟨gb537, 5, none⟩ (.slice Ao17 t532.length co17)) w.heap.size (fun k_ => some k_ ≠ (.slice Ao15 t526.length co15 : Value).ownBlock ∧ some k_ ≠ (.slice Ao17 t532.length co17 : Value).ownBlock) (.slice Ao16 t529.length co16) t529) := ⟨Kd.R_mono (Kd.R_s HO531 BK537) (fun _ hk => ⟨hk.1, hk.2⟩)⟩
 have n2_ : Aside0 (Kd.R (Kd.int .i64) 3 ((((((w11.setCell ⟨gb537, 0, none⟩ (.int .i64 t523)).setCell ⟨gb537, 1, none⟩ (.int .i64 t524)).setCell ⟨gb537, 2, none⟩ (.int .i64 t525)).setCell ⟨gb537, 3, none⟩ (.slice Ao15 t526.length co15)).setCell ⟨gb537, 4, none⟩ (.slice Ao16 t529.length co16)).setCell ⟨gb537, 5, none⟩ (.slice Ao17 t532.length co17)) w.heap.size (fun k_ => some k_ ≠ (.slice Ao15 t526.length co15 : Value).ownBlock ∧ some k_ ≠ (.slice Ao16 t529.length co16 : Value).ownBlock) (.slice Ao17 t532.length co17) t532) := ⟨Kd.R_mono (Kd.R_s HO534 BK537) (fun _ hk => ⟨hk.1, hk.2⟩)⟩
 have n3_ : Aside0 (((((((w11.setCell ⟨gb537, 0, none⟩ (.int .i64 t523)).setCell ⟨gb537, 1, none⟩ (.int .i64 t524)).setCell ⟨gb537, 2, none⟩ (.int .i64 t525)).setCell ⟨gb537, 3, none⟩ (.slice Ao15 t526.length co15)).setCell ⟨gb537, 4, none⟩ (.slice Ao16 t529.length co16)).setCell ⟨gb537, 5, none⟩ (.slice Ao17 t532.length co17)).heap[gb521]? = some (.cells #[.int .i64 0, .int .i64 0, .int .i64 0, .slice none 0 0, .slice none 0 0, .slice none 0 0] 30 (0, 0))) := ⟨kf_ BK521 NB521_537⟩
 have n4_ : Aside0 (((((((w11.setCell ⟨gb537, 0, none⟩ (.int .i64 t523)).setCell ⟨gb537, 1, none⟩ (.int .i64 t524)).setCell ⟨gb537, 2, none⟩ (.int .i64 t525)).setCell ⟨gb537, 3, none⟩ (.slice Ao15 t526.length co15)).setCell ⟨gb537, 4, none⟩ (.slice Ao16 t529.length co16)).setCell ⟨gb537, 5, none⟩ (.slice Ao17 t532.length co17)).heap[gb537]? = some (.cells #[.int .i64 t523, .int .i64 t524, .int .i64 t525, .slice Ao15 t526.length co15, .slice Ao16 t529.length co16, .slice Ao17 t532.length co17] 30 (0, 0))) := ⟨kpq_ (kputs BK537 [(0, _), (1, _), (2, _), (3, _), (4, _), (5, _)])⟩
 have n5_ : Aside0 (IsS76 w ((((((w11.setCell ⟨gb537, 0, none⟩ (.int .i64 t523)).setCell ⟨gb537, 1, none⟩ (.int .i64 t524)).setCell ⟨gb537, 2, none⟩ (.int .i64 t525)).setCell ⟨gb537, 3, none⟩ (.slice Ao15 t526.length co15)).setCell ⟨gb537, 4, none⟩ (.slice Ao16 t529.length co16)).setCell ⟨gb537, 5, none⟩ (.slice Ao17 t532.length co17)) gb522 l0 t535 t536) := ⟨IsS76.q HI522⟩
 have n6_ : Aside0 (Below w.heap.size w ((((((w11.setCell ⟨gb537, 0, none⟩ (.int .i64 t523)).setCell ⟨gb537, 1, none⟩ (.int .i64 t524)).setCell ⟨gb537, 2, none⟩ (.int .i64 t525)).setCell ⟨gb537, 3, none⟩ (.slice Ao15 t526.length co15)).setCell ⟨gb537, 4, none⟩ (.slice Ao16 t529.length co16)).setCell ⟨gb537, 5, none⟩ (.slice Ao17 t532.length co17))) := ⟨hbI_ HB (IsS76.ge HI522.out)⟩
 (try clear HO528)
 (try clear HO531)
 (try clear HO534)
 (try clear BK521)
 (try clear BK537)
 (try clear HI522)
 (try clear HB)
 generalize ((((((w11.setCell ⟨gb537, 0, none⟩ (.int .i64 t523)).setCell ⟨gb537, 1, none⟩ (.int .i64 t524)).setCell ⟨gb537, 2, none⟩ (.int .i64 t525)).setCell ⟨gb537, 3, none⟩ (.slice Ao15 t526.length co15)).setCell ⟨gb537, 4, none⟩ (.slice Ao16 t529.length co16)).setCell ⟨gb537, 5, none⟩ (.slice Ao17 t532.length co17)) = w18 at n0_ n1_ n2_ n3_ n4_ n5_ n6_ ⊢
 have HO528 := n0_
 have HO531 := n1_
 have HO534 := n2_
 have BK521 := n3_
 have BK537 := n4_
 have HI522 := n5_
 have HB := n6_
 clear n0_ n1_ n2_ n3_ n4_ n5_ n6_
 have n0_ := Aside0.mk (Kd.R_drew HO528.out)
 have n1_ := Aside0.mk (Kd.R_drew HO531.out)
 have n2_ := Aside0.mk (Kd.R_drew HO534.out)
 have n3_ := Aside0.mk (blk_drew BK521.out)
 have n4_ := Aside0.mk (blk_drew BK537.out)
 have n5_ := Aside0.mk (IsS76.drew HI522.out)
 have n6_ := Aside0.mk (below_drew1 HB.out)
 clear HO528
 clear HO531
 clear HO534
 clear BK521
 clear BK537
 clear HI522
 clear HB
 have HO528 := n0_
 have HO531 := n1_
 have HO534 := n2_
 have BK521 := n3_
 have BK537 := n4_
 have HI522 := n5_
 have HB := n6_
 clear n0_ n1_ n2_ n3_ n4_ n5_ n6_
 refine start_ (n := 22) (S := fun w' => True) (ds := []) #[false, false, false, false, false, false, false, false, false, false, false, false, false, false, false, false, false, false, false, false, false, false] (by kernel_rfl) rfl rfl trivial (fun hHeld => ?_); refine with_tabW spec_DrawSetBlock.tab3 spec_DrawSetBlock.bits3 (fun HT_ HW_ => ?_)
 generalize w18.drew = w19 at HO528 HO531 HO534 BK521 BK537 HI522 HB hHeld ⊢
 refine pure_ (i := 1) (N := some 15) (v := ?_) (a' := ?_) #[false, true, false, false, false, false, false, false, false, false, false, false, false, false, false, false, false, false, false, false, false, false] rfl rfl (any_of HT_.out (by kernel_rfl)) (fun _ _ _ h => h) (Or.inl ⟨by rfl, ?_⟩) ?_ ?_
 rotate_left
 ·intro w'
  go_simp
  with_reducible rfl
 rotate_left
 ·simp only [Act.put, List.setIfInBounds_toArray, List.set_cons_zero, List.set_cons_succ, i64_w, i32_w]
  rfl
 refine pure_ (i := 2) (N := some 16) (v := ?_) (a' := ?_) #[false, true, true, false, false, false, false, false, false, false, false, false, false, false, false, false, false, false, false, false, false, false] rfl rfl (any_of HT_.out (by kernel_rfl)) (fun _ _ _ h => h) (Or.inl ⟨by rfl, ?_⟩) ?_ ?_
 rotate_left
 ·intro w'
  go_simp
  with_reducible rfl
 rotate_left
 ·simp only [Act.put, List.setIfInBounds_toArray, List.set_cons_zero, List.set_cons_succ, i64_w, i32_w]
  rfl
 refine pure_ (i := 5) (N := some 19) (v := ?_) (a' := ?_) #[false, true, true, false, false, true, false, false, false, false, false, false, false, false, false, false, false, false, false, false, false, false] rfl rfl (any_of HT_.out (by kernel_rfl)) (fun _ _ _ h => h) (Or.inl ⟨by rfl, ?_⟩) ?_ ?_
 rotate_left
 ·intro w'
  go_simp
  with_reducible rfl
 rotate_left
 ·simp only [Act.put, List.setIfInBounds_toArray, List.set_cons_zero, List.set_cons_succ, i64_w, i32_w]
  rfl
 refine pure_ (i := 8) (N := some 22) (v := ?_) (a' := ?_) #[false, true, true, false, false, true, false, false, true, false, false, false, false, false, false, false, false, false, false, false, false, false] rfl rfl (any_of HT_.out (by kernel_rfl)) (fun _ _ _ h => h) (Or.inl ⟨by rfl, ?_⟩) ?_ ?_
 rotate_left
 ·intro w'
  go_simp
  with_reducible rfl
 rotate_left
 ·simp only [Act.put, List.setIfInBounds_toArray, List.set_cons_zero, List.set_cons_succ, i64_w, i32_w]
  rfl
 refine pure_ (i := 11) (N := some 25) (v := ?_) (a' := ?_) #[false, true, true, false, false, true, false, false, true, false, false, true, false, false, false, false, false, false, false, false, false, false] rfl rfl (any_of HT_.out (by kernel_rfl)) (fun _ _ _ h => h) (Or.inl ⟨by rfl, ?_⟩) ?_ ?_
 rotate_left
 ·intro w'
  go_simp
  with_reducible rfl
 rotate_left
 ·simp only [Act.put, List.setIfInBounds_toArray, List.set_cons_zero, List.set_cons_succ, i64_w, i32_w]
  rfl
 refine pure_ (i := 13) (N := some 27) (v := ?_) (a' := ?_) #[false, true, true, false, false, true, false, false, true, false, false, true, false, true, false, false, false, false, false, false, false, false] rfl rfl (any_of HT_.out (by kernel_rfl)) (fun _ _ _ h => h) (Or.inl ⟨by rfl, ?_⟩) ?_ ?_
 rotate_left
 ·intro w'
  go_simp
  with_reducible rfl
 rotate_left
 ·simp only [Act.put, List.setIfInBounds_toArray, List.set_cons_zero, List.set_cons_succ, i64_w, i32_w]
  rfl
 refine inv_at [0, 3, 4, 6, 7, 9, 10, 12, 14, 15, 16, 17, 18, 19, 20, 21] (fun a0_ b a w' => ∃ (v542 : Value) (v548 : Value), a = putSel a0_ b [(0, 14, .agg #[.int .i64 t523, .int .i64 t524, .int .i64 t525, .slice Ao15 t526.length co15, .slice Ao16 t529.length co16, .slice Ao17 t532.length co17]), (3, 17, .agg #[.int .i64 t523, .int .i64 t524, .int .i64 t525]), (4, 18, .int .i64 t538), (6, 20, v542), (7, 21, .int .i64 t544), (9, 23, v548), (10, 24, .int .i64 t550), (12, 26, .int .i64 t553), (14, 28, .int .i64 t556), (15, 29, .int .i64 (wrap64 (Int.tdiv t556 23))), (16, 30, .int .i64 (wrap64 (t553 - (wrap64 (Int.tdiv t556 23))))), (18, 3, .int .i64 t538), (19, 4, .int .i64 t544), (20, 5, .int .i64 t550), (21, 6, .int .i64 (wrap64 (t553 - (wrap64 (Int.tdiv t556 23)))))] ∧ (Kd.R (Kd.int .i64) 3 w' w.heap.size (fun k_ => some k_ ≠ (.slice Ao16 t529.length co16 : Value).ownBlock ∧ some k_ ≠ (.slice Ao17 t532.length co17 : Value).ownBlock) (.slice Ao15 t526.length co15) t526) ∧ (Kd.R (Kd.int .i64) 3 w' w.heap.size (fun k_ => some k_ ≠ (.slice Ao15 t526.length co15 : Value).ownBlock ∧ some k_ ≠ (.slice Ao17 t532.length co17 : Value).ownBlock) (.slice Ao16 t529.length co16) t529) ∧ (Kd.R (Kd.int .i64) 3 w' w.heap.size (fun k_ => some k_ ≠ (.slice Ao15 t526.length co15 : Value).ownBlock ∧ some k_ ≠ (.slice Ao16 t529.length co16 : Value).ownBlock) (.slice Ao17 t532.length co17) t532) ∧ (b 17 = false → w'.heap[gb521]? = some (.cells #[.int .i64 0, .int .i64 0, .int .i64 0, .slice none 0 0, .slice none 0 0, .slice none 0 0] 30 (0, 0))) ∧ (w'.heap[gb537]? = some (.cells #[.int .i64 t523, .int .i64 t524, .int .i64 t525, .slice Ao15 t526.length co15, .slice Ao16 t529.length co16, .slice Ao17 t532.length co17] 30 (0, 0))) ∧ (b 4 = false → IsS76 w w' gb522 l0 t535 t536) ∧ (Below w.heap.size w w') ∧ (b 4 = true → b 7 = false → IsS76 w w' gb522 l0 t539 t540) ∧ (b 6 = true → Kd.R (Kd.int .i64) 3 w' w.heap.size (fun k_ => some k_ ≠ (.slice Ao15 t526.length co15 : Value).ownBlock ∧ some k_ ≠ (.slice Ao16 t529.length co16 : Value).ownBlock ∧ some k_ ≠ (.slice Ao17 t532.length co17 : Value).ownBlock) v542 y541) ∧ (b 7 = true → b 10 = false → IsS76 w w' gb522 l0 t545 t546) ∧ (b 9 = true → Kd.R (Kd.int .i64) 3 w' w.heap.size (fun k_ => some k_ ≠ (.slice Ao15 t526.length co15 : Value).ownBlock ∧ some k_ ≠ (.slice Ao16 t529.length co16 : Value).ownBlock ∧ some k_ ≠ (.slice Ao17 t532.length co17 : Value).ownBlock) v548 y547) ∧ (b 10 = true → b 12 = false → IsS76 w w' gb522 l0 t551 t552) ∧ (b 12 = true → b 14 = false → IsS76 w w' gb522 l0 t554 t555) ∧ (b 14 = true → IsS76 w w' gb522 l0 t557 t558) ∧ (b 17 = true → w'.heap[gb521]? = some (.cells #[.int .i64 t523, .int .i64 t524, .int .i64 t525, .slice Ao15 t526.length co15, .slice Ao16 t529.length co16, .slice Ao17 t532.length co17] 30 (0, 0)))) HT_.out HW_.out (by kernel_rfl) (by kernel_rfl) ?_ ?_ ?_
 ·exact ⟨.bool false, .bool false, by simp only [putSel, Bool.false_eq_true, if_false], HO528.out, HO531.out, HO534.out, fun _ => BK521.out, BK537.out, fun _ => HI522.out, HB.out, fun h_ => absurd h_ (by decide), fun h_ => absurd h_ (by decide), fun h_ => absurd h_ (by decide), fun h_ => absurd h_ (by decide), fun h_ => absurd h_ (by decide), fun h_ => absurd h_ (by decide), fun h_ => absurd h_ (by decide), fun h_ => absurd h_ (by decide)⟩
 ·skip
  clear BK521 BK537 HB HI522 HO528 HO531 HO534
  refine steps_cons ?_ ?_
  ·rintro b a w' ⟨v542, v548, ha, Q_HO528, Q_HO531, Q_HO534, Q_BK521, Q_BK537, Q_HI522, Q_HB, Q_HI522_e4, Q_HO543, Q_HI522_e7, Q_HO549, Q_HI522_e10, Q_HI522_e12, Q_HI522_e14, Q_BK521_e17⟩ hbq_ hon hoff
   refine ⟨_, rfl, fun K hK => ?_⟩
   have e8 : a.tmps[8]? = some (.pointer (some ⟨gb537, 0, none⟩)) := by rw [ha]; exact (putSel_off rfl).trans rfl
   replace ha := Aside0.mk ha
   have HO528 := Aside0.mk Q_HO528
   have HO531 := Aside0.mk Q_HO531
   have HO534 := Aside0.mk Q_HO534
   have BK521 := Aside0.mk (Q_BK521 (hoff 17 (by kernel_rfl)))
   have BK537 := Aside0.mk Q_BK537
   have HB := Aside0.mk Q_HB
   have hc0_ : w'.cell? ⟨gb537, 0, none⟩ = some (.int .i64 t523) := (blk_cell BK537.out 0).trans rfl
   have hc1_ : w'.cell? ⟨gb537, 1, none⟩ = some (.int .i64 t524) := (blk_cell BK537.out 1).trans rfl
   have hc2_ : w'.cell? ⟨gb537, 2, none⟩ = some (.int .i64 t525) := (blk_cell BK537.out 2).trans rfl
   have hc3_ : w'.cell? ⟨gb537, 3, none⟩ = some (.slice Ao15 t526.length co15) := (blk_cell BK537.out 3).trans rfl
   have hc4_ : w'.cell? ⟨gb537, 4, none⟩ = some (.slice Ao16 t529.length co16) := (blk_cell BK537.out 4).trans rfl
   have hc5_ : w'.cell? ⟨gb537, 5, none⟩ = some (.slice Ao17 t532.length co17) := (blk_cell BK537.out 5).trans rfl
   refine value_ (w1 := w') (v := .agg #[.int .i64 t523, .int .i64 t524, .int .i64 t525, .slice Ao15 t526.length co15, .slice Ao16 t529.length co16, .slice Ao17 t532.length co17]) (by rfl) rfl ?_ ?_
   ·go_simp
    (try simp only [i64_w])
    try rfl
   refine hK.out _ _ ⟨v542, v548, (by rw [ha.out]; exact putSel_upk 0 hbq_ rfl rfl rfl), Q_HO528, Q_HO531, Q_HO534, Q_BK521, Q_BK537, Q_HI522, Q_HB, Q_HI522_e4, Q_HO543, Q_HI522_e7, Q_HO549, Q_HI522_e10, Q_HI522_e12, Q_HI522_e14, fun h0_ => absurd ((hoff 17 (by kernel_rfl)).symm.trans h0_) (by decide)⟩
  refine steps_cons ?_ ?_
  ·rintro b a w' ⟨v542, v548, ha, Q_HO528, Q_HO531, Q_HO534, Q_BK521, Q_BK537, Q_HI522, Q_HB, Q_HI522_e4, Q_HO543, Q_HI522_e7, Q_HO549, Q_HI522_e10, Q_HI522_e12, Q_HI522_e14, Q_BK521_e17⟩ hbq_ hon hoff
   refine ⟨_, rfl, fun K hK => ?_⟩
   have e16 : a.tmps[16]? = some (.pointer (some ⟨gb537, 0, none⟩)) := by rw [ha]; exact (putSel_off rfl).trans rfl
   replace ha := Aside0.mk ha
   have HO528 := Aside0.mk Q_HO528
   have HO531 := Aside0.mk Q_HO531
   have HO534 := Aside0.mk Q_HO534
   have BK521 := Aside0.mk (Q_BK521 (hoff 17 (by kernel_rfl)))
   have BK537 := Aside0.mk Q_BK537
   have HI522 := Aside0.mk (Q_HI522 (hoff 4 (by kernel_rfl)))
   have HB := Aside0.mk Q_HB
   have hc0_ : w'.cell? ⟨gb537, 0, none⟩ = some (.int .i64 t523) := (blk_cell BK537.out 0).trans rfl
   have hc1_ : w'.cell? ⟨gb537, 1, none⟩ = some (.int .i64 t524) := (blk_cell BK537.out 1).trans rfl
   have hc2_ : w'.cell? ⟨gb537, 2, none⟩ = some (.int .i64 t525) := (blk_cell BK537.out 2).trans rfl
   have hc3_ : w'.cell? ⟨gb537, 3, none⟩ = some (.slice Ao15 t526.length co15) := (blk_cell BK537.out 3).trans rfl
   have hc4_ : w'.cell? ⟨gb537, 4, none⟩ = some (.slice Ao16 t529.length co16) := (blk_cell BK537.out 4).trans rfl
   have hc5_ : w'.cell? ⟨gb537, 5, none⟩ = some (.slice Ao17 t532.length co17) := (blk_cell BK537.out 5).trans rfl
   refine value_ (w1 := w') (v := .agg #[.int .i64 t523, .int .i64 t524, .int .i64 t525]) (by rfl) rfl ?_ ?_
   ·go_simp
    (try simp only [i64_w])
    try rfl
   refine hK.out _ _ ⟨v542, v548, (by rw [ha.out]; exact putSel_upk 1 hbq_ rfl rfl rfl), Q_HO528, Q_HO531, Q_HO534, Q_BK521, Q_BK537, Q_HI522, Q_HB, fun h0_ _ => absurd ((hoff 4 (by kernel_rfl)).symm.trans h0_) (by decide), Q_HO543, fun h0_ _ => absurd ((hoff 7 (by kernel_rfl)).symm.trans h0_) (by decide), Q_HO549, fun h0_ _ => absurd ((hoff 10 (by kernel_rfl)).symm.trans h0_) (by decide), fun h0_ _ => absurd ((hoff 12 (by kernel_rfl)).symm.trans h0_) (by decide), fun h0_ => absurd ((hoff 14 (by kernel_rfl)).symm.trans h0_) (by decide), fun h0_ => absurd ((hoff 17 (by kernel_rfl)).symm.trans h0_) (by decide)⟩
  refine steps_cons ?_ ?_
  ·rintro b a w' ⟨v542, v548, ha, Q_HO528, Q_HO531, Q_HO534, Q_BK521, Q_BK537, Q_HI522, Q_HB, Q_HI522_e4, Q_HO543, Q_HI522_e7, Q_HO549, Q_HI522_e10, Q_HI522_e12, Q_HI522_e14, Q_BK521_e17⟩ hbq_ hon hoff
   refine ⟨_, rfl, fun K hK => ?_⟩
   have e15 : a.tmps[15]? = some (.pointer (some ⟨gb522, 0, none⟩)) := by rw [ha]; exact (putSel_off rfl).trans rfl
   have e17 : a.tmps[17]? = some (.agg #[.int .i64 t523, .int .i64 t524, .int .i64 t525]) := by rw [ha]; exact putSel_on (e := (3, 17, .agg #[.int .i64 t523, .int .i64 t524, .int .i64 t525])) 1 rfl rfl (hon 3 (by kernel_rfl)) rfl
   replace ha := Aside0.mk ha
   have HO528 := Aside0.mk Q_HO528
   have HO531 := Aside0.mk Q_HO531
   have HO534 := Aside0.mk Q_HO534
   have BK521 := Aside0.mk (Q_BK521 (hoff 17 (by kernel_rfl)))
   have BK537 := Aside0.mk Q_BK537
   have HI522 := Aside0.mk (Q_HI522 hbq_)
   have HB := Aside0.mk Q_HB
   refine goes_ Try.func59 (by kernel_rfl) rfl #[.pointer (some ⟨gb522, 0, none⟩), .agg #[.int .i64 t523, .int .i64 t524, .int .i64 t525]] (by rfl) rfl rfl (by first | (simp only [List.map_toArray, List.map_cons, List.map_nil, Act.eval, Array.getD_eq_getD_getElem?, Option.getD_some, e15, e17]; done) | (simp only [List.map_toArray, List.map_cons, List.map_nil, Act.eval, Array.getD_eq_getD_getElem?, Option.getD_some, e15, e17]; rfl)) ?_
   with_reducible refine (spec_l1Cur_block.calls gb522 l0 t535 t536 t523 t524 t525 t538 t539 t540 w _ ?side1 ?side2 A3.out).mono ?_
   (case side1 => exact IsS76.q HI522)
   (case side2 => exact hbI_ HB (IsS76.ge HI522.out))
   rintro e w20 ⟨rfl, hi, hb, hk⟩
   refine ⟨_, rfl, ?_⟩
   have n0_ := Aside0.mk (KeepBut.blk hk (kp_ BK521) NB521_522.out (by simp))
   have n1_ := IsS76.rk HI522 HO528 hk
   have n2_ := IsS76.rk HI522 HO531 hk
   have n3_ := IsS76.rk HI522 HO534 hk
   have n4_ := Aside0.mk (KeepBut.blk hk (kp_ BK537) NB537_522.out (by simp))
   have n5_ := Aside0.mk (hb)
   have n6_ := Aside0.mk (hi)
   have z_HO543 := fun (h0_ : b 6 = true) => (show Kd.R (Kd.int .i64) 3 w20 w.heap.size (fun k_ => some k_ ≠ (.slice Ao15 t526.length co15 : Value).ownBlock ∧ some k_ ≠ (.slice Ao16 t529.length co16 : Value).ownBlock ∧ some k_ ≠ (.slice Ao17 t532.length co17 : Value).ownBlock) v542 y541 from by first | exact (Kd.R_mono (Kd.R_keep (IsS76.apart (show IsS76 w _ gb522 l0 t535 t536 from IsS76.q HI522) (Kd.R_pp ((Q_HO543 h0_))) (by decide)) hk (fun _ h => h.2)) (fun _ h => h.1)) | exact Kd.R_mono (Kd.R_mono (Kd.R_keep (IsS76.apart (show IsS76 w _ gb522 l0 t535 t536 from IsS76.q HI522) (Kd.R_pp ((Q_HO543 h0_))) (by decide)) hk (fun _ h => h.2)) (fun _ h => h.1)) (fun _ h_ => by first | trivial | exact h_ | exact h_.1))
   have z_HO549 := fun (h0_ : b 9 = true) => (show Kd.R (Kd.int .i64) 3 w20 w.heap.size (fun k_ => some k_ ≠ (.slice Ao15 t526.length co15 : Value).ownBlock ∧ some k_ ≠ (.slice Ao16 t529.length co16 : Value).ownBlock ∧ some k_ ≠ (.slice Ao17 t532.length co17 : Value).ownBlock) v548 y547 from by first | exact (Kd.R_mono (Kd.R_keep (IsS76.apart (show IsS76 w _ gb522 l0 t535 t536 from IsS76.q HI522) (Kd.R_pp ((Q_HO549 h0_))) (by decide)) hk (fun _ h => h.2)) (fun _ h => h.1)) | exact Kd.R_mono (Kd.R_mono (Kd.R_keep (IsS76.apart (show IsS76 w _ gb522 l0 t535 t536 from IsS76.q HI522) (Kd.R_pp ((Q_HO549 h0_))) (by decide)) hk (fun _ h => h.2)) (fun _ h => h.1)) (fun _ h_ => by first | trivial | exact h_ | exact h_.1))
   clear BK521
   clear HO528
   clear HO531
   clear HO534
   clear BK537
   clear HB
   clear HI522
   have BK521 := n0_
   have HO528 := n1_
   have HO531 := n2_
   have HO534 := n3_
   have BK537 := n4_
   have HB := n5_
   have HI522 := n6_
   clear n0_ n1_ n2_ n3_ n4_ n5_ n6_
   (try clear hb)
   (try clear hb2)
   (try clear hk)
   (try clear hi)
   refine hK.out _ _ ⟨v542, v548, (by rw [ha.out]; exact putSel_upk 2 hbq_ rfl rfl rfl), (Kd.R_p HO528), (Kd.R_p HO531), (Kd.R_p HO534), fun _ => (kp_ BK521), (kp_ BK537), fun h0_ => absurd ((up_self b 4).symm.trans h0_) (by decide), (hbI_ HB (IsS76.ge HI522.out)), fun _ _ => (IsS76.q HI522), z_HO543, fun h0_ _ => absurd ((hoff 7 (by kernel_rfl)).symm.trans h0_) (by decide), z_HO549, fun h0_ _ => absurd ((hoff 10 (by kernel_rfl)).symm.trans h0_) (by decide), fun h0_ _ => absurd ((hoff 12 (by kernel_rfl)).symm.trans h0_) (by decide), fun h0_ => absurd ((hoff 14 (by kernel_rfl)).symm.trans h0_) (by decide), fun h0_ => absurd ((hoff 17 (by kernel_rfl)).symm.trans h0_) (by decide)⟩
  refine steps_cons ?_ ?_
  ·rintro b a w' ⟨v542, v548, ha, Q_HO528, Q_HO531, Q_HO534, Q_BK521, Q_BK537, Q_HI522, Q_HB, Q_HI522_e4, Q_HO543, Q_HI522_e7, Q_HO549, Q_HI522_e10, Q_HI522_e12, Q_HI522_e14, Q_BK521_e17⟩ hbq_ hon hoff
   refine ⟨_, rfl, fun K hK => ?_⟩
   replace ha := Aside0.mk ha
   have HO528 := Aside0.mk Q_HO528
   have HO531 := Aside0.mk Q_HO531
   have HO534 := Aside0.mk Q_HO534
   have BK521 := Aside0.mk (Q_BK521 (hoff 17 (by kernel_rfl)))
   have BK537 := Aside0.mk Q_BK537
   have HB := Aside0.mk Q_HB
   refine Kd.R_lit_step (Kd.int .i64) _ 3 ?hg (N := 20) ?hd (xs := ([0, 100, 10000, 10001, (-1), 500, 700] : List Int)) (inner := [.int .i64 0, .int .i64 100, .int .i64 10000, .int .i64 10001, .int .i64 (-1), .int .i64 500, .int .i64 700]) (ok := fun _ => True) (okp := fun _ => True) ?hr ?hp (fun _ hk => hk) trivial (Below.refl _ _) (Nat.le_refl _) (by simp) ?_; (case hd => rfl); (case hg => rfl); (case hr => first | (go_simp; done) | (go_simp; rfl)); (case hp => exact (Reps.one (show Kd.M (Kd.int .i64) _ _ _ 0 [.int .i64 0] from rfl) (Reps.one (show Kd.M (Kd.int .i64) _ _ _ 100 [.int .i64 100] from rfl) (Reps.one (show Kd.M (Kd.int .i64) _ _ _ 10000 [.int .i64 10000] from rfl) (Reps.one (show Kd.M (Kd.int .i64) _ _ _ 10001 [.int .i64 10001] from rfl) (Reps.one (show Kd.M (Kd.int .i64) _ _ _ (-1) [.int .i64 (-1)] from rfl) (Reps.one (show Kd.M (Kd.int .i64) _ _ _ 500 [.int .i64 500] from rfl) (Reps.one (show Kd.M (Kd.int .i64) _ _ _ 700 [.int .i64 700] from rfl) (Reps.none _ _)))))))))
   intro v542 w20 ho21 hb hg_ hnew_
   clear hg_ hnew_
   (first | rw [← Ny541.out] at ho21 | (simp only [Int.reduceToNat] at ho21; rw [← Ny541.out] at ho21))
   have n0_ := Aside0.mk (Kd.R_elder' (Kd.R_p HO528) (Kd.R_base ho21) hb)
   have n1_ := Aside0.mk (Kd.R_elder' (Kd.R_p HO531) (Kd.R_base ho21) hb)
   have n2_ := Aside0.mk (Kd.R_elder' (Kd.R_p HO534) (Kd.R_base ho21) hb)
   have n3_ := Aside0.mk (Kd.R_lower (Kd.R_nw (Kd.R_nw (Kd.R_nw ho21 HO528) HO531) HO534) (below_size (hb_ HB)))
   have n4_ := Aside0.mk (blk_below (kp_ BK521) hb)
   have n6_ := Aside0.mk (blk_below (kp_ BK537) hb)
   have n7_ := Aside0.mk (below_step (hb_ HB) hb)
   have z_HI522 := fun (h0_ : b 4 = false) => (show IsS76 w w20 gb522 l0 t535 t536 from by first | exact (IsS76.below (by repeat (first | (with_reducible first | exact (Q_HI522 h0_) | apply IsS76.alloc | apply IsS76.drewN | apply IsS76.drew | apply IsS76.set_1 | apply IsS76.set_2 | refine IsS76.far ?_ NB522_521.out _ | refine IsS76.far ?_ NB522_537.out _) | exact (Q_HI522 h0_))) hb))
   have z_HI522_e4 := fun (h0_ : b 4 = true) (h1_ : b 7 = false) => (show IsS76 w w20 gb522 l0 t539 t540 from by first | exact (IsS76.below (by repeat (first | (with_reducible first | exact (Q_HI522_e4 h0_ h1_) | apply IsS76.alloc | apply IsS76.drewN | apply IsS76.drew | apply IsS76.set_1 | apply IsS76.set_2 | refine IsS76.far ?_ NB522_521.out _ | refine IsS76.far ?_ NB522_537.out _) | exact (Q_HI522_e4 h0_ h1_))) hb))
   have z_HO549 := fun (h0_ : b 9 = true) => (show Kd.R (Kd.int .i64) 3 w20 w.heap.size (fun k_ => some k_ ≠ (.slice Ao15 t526.length co15 : Value).ownBlock ∧ some k_ ≠ (.slice Ao16 t529.length co16 : Value).ownBlock ∧ some k_ ≠ (.slice Ao17 t532.length co17 : Value).ownBlock) v548 y547 from by first | exact (Kd.R_elder' (Kd.R_pp ((Q_HO549 h0_))) (Kd.R_base ho21) hb) | exact Kd.R_mono (Kd.R_elder' (Kd.R_pp ((Q_HO549 h0_))) (Kd.R_base ho21) hb) (fun _ h_ => by first | trivial | exact h_ | exact h_.1))
   clear HO528
   clear HO531
   clear HO534
   clear BK521
   clear BK537
   clear HB
   have HO528 := n0_
   have HO531 := n1_
   have HO534 := n2_
   have HO543 := n3_
   have BK521 := n4_
   have BK537 := n6_
   have HB := n7_
   clear n0_ n1_ n2_ n3_ n4_ n6_ n7_
   clear hb ho21
   refine hK.out _ _ ⟨v542, v548, (by rw [ha.out]; exact putSel_upk 3 hbq_ rfl rfl rfl), (Kd.R_pp (Kd.R_mono HO528.out (fun _ hk => hk.1))), (Kd.R_pp (Kd.R_mono HO531.out (fun _ hk => hk.1))), (Kd.R_pp (Kd.R_mono HO534.out (fun _ hk => hk.1))), fun _ => (kp_ BK521), (kp_ BK537), z_HI522, (hb_ HB), z_HI522_e4, fun _ => (Kd.R_pp (Kd.R_mono HO543.out (fun _ hk => ⟨hk.1.1.2, ⟨hk.1.2, hk.2⟩⟩))), fun h0_ _ => absurd ((hoff 7 (by kernel_rfl)).symm.trans h0_) (by decide), z_HO549, fun h0_ _ => absurd ((hoff 10 (by kernel_rfl)).symm.trans h0_) (by decide), fun h0_ _ => absurd ((hoff 12 (by kernel_rfl)).symm.trans h0_) (by decide), fun h0_ => absurd ((hoff 14 (by kernel_rfl)).symm.trans h0_) (by decide), fun h0_ => absurd ((hoff 17 (by kernel_rfl)).symm.trans h0_) (by decide)⟩
  refine steps_cons ?_ ?_
  ·rintro b a w' ⟨v542, v548, ha, Q_HO528, Q_HO531, Q_HO534, Q_BK521, Q_BK537, Q_HI522, Q_HB, Q_HI522_e4, Q_HO543, Q_HI522_e7, Q_HO549, Q_HI522_e10, Q_HI522_e12, Q_HI522_e14, Q_BK521_e17⟩ hbq_ hon hoff
   refine ⟨_, rfl, fun K hK => ?_⟩
   have e19 : a.tmps[19]? = some (.pointer (some ⟨gb522, 0, none⟩)) := by rw [ha]; exact (putSel_off rfl).trans rfl
   have e20 : a.tmps[20]? = some (v542) := by rw [ha]; exact putSel_on (e := (6, 20, v542)) 3 rfl rfl (hon 6 (by kernel_rfl)) rfl
   replace ha := Aside0.mk ha
   have HO528 := Aside0.mk Q_HO528
   have HO531 := Aside0.mk Q_HO531
   have HO534 := Aside0.mk Q_HO534
   have BK521 := Aside0.mk (Q_BK521 (hoff 17 (by kernel_rfl)))
   have BK537 := Aside0.mk Q_BK537
   have HB := Aside0.mk Q_HB
   have HI522 := Aside0.mk (Q_HI522_e4 (hon 4 (by kernel_rfl)) hbq_)
   have HO543 := Aside0.mk (Q_HO543 (hon 6 (by kernel_rfl)))
   obtain ⟨Ao24, co24, eo24⟩ := Kd.R_slice HO543.out
   (first | subst eo24 | (injection eo24 with f1_ f2_ f3_; have f4_ := f1_.symm; have f5_ := f3_.symm; clear f1_ f2_ f3_; subst f4_; subst f5_))
   refine goes_ Try.func57 (by kernel_rfl) rfl #[.pointer (some ⟨gb522, 0, none⟩), .slice Ao24 y541.length co24] (by rfl) rfl rfl (by first | (simp only [List.map_toArray, List.map_cons, List.map_nil, Act.eval, Array.getD_eq_getD_getElem?, Option.getD_some, e19, e20]; done) | (simp only [List.map_toArray, List.map_cons, List.map_nil, Act.eval, Array.getD_eq_getD_getElem?, Option.getD_some, e19, e20]; rfl)) ?_
   with_reducible refine (spec_l1Cur_among.calls gb522 l0 t539 t540 _ _ y541 t544 t545 t546 w _ ?side1 ?side2 ?side3 ?side4 ?side5 A4.out).mono ?_
   (case side1 => exact IsS76.q HI522)
   (case side2 => exact hbI_ HB (IsS76.ge HI522.out))
   (case side3 => exact Kd.C_o HO543)
   (case side4 => exact (Kd.R_reads' HO543.out).2.1)
   (case side5 => exact far_slice (IsS76.own_ne HI522.out HO543.out (by decide)))
   rintro e w25 ⟨rfl, hi, hb, hk⟩
   refine ⟨_, rfl, ?_⟩
   have n0_ := Aside0.mk (KeepBut.blk hk (kp_ BK521) NB521_522.out (by simp))
   have n1_ := IsS76.rk HI522 HO528 hk
   have n2_ := IsS76.rk HI522 HO531 hk
   have n3_ := IsS76.rk HI522 HO534 hk
   have n4_ := Aside0.mk (KeepBut.blk hk (kp_ BK537) NB537_522.out (by simp))
   have n5_ := IsS76.rk HI522 HO543 hk
   have n6_ := Aside0.mk (hb)
   have n7_ := Aside0.mk (hi)
   have z_HO549 := fun (h0_ : b 9 = true) => (show Kd.R (Kd.int .i64) 3 w25 w.heap.size (fun k_ => some k_ ≠ (.slice Ao15 t526.length co15 : Value).ownBlock ∧ some k_ ≠ (.slice Ao16 t529.length co16 : Value).ownBlock ∧ some k_ ≠ (.slice Ao17 t532.length co17 : Value).ownBlock) v548 y547 from by first | exact (Kd.R_mono (Kd.R_keep (IsS76.apart (show IsS76 w _ gb522 l0 t539 t540 from IsS76.q HI522) (Kd.R_pp ((Q_HO549 h0_))) (by decide)) hk (fun _ h => h.2)) (fun _ h => h.1)) | exact Kd.R_mono (Kd.R_mono (Kd.R_keep (IsS76.apart (show IsS76 w _ gb522 l0 t539 t540 from IsS76.q HI522) (Kd.R_pp ((Q_HO549 h0_))) (by decide)) hk (fun _ h => h.2)) (fun _ h => h.1)) (fun _ h_ => by first | trivial | exact h_ | exact h_.1))
   clear BK521
   clear HO528
   clear HO531
   clear HO534
   clear BK537
   clear HO543
   clear HB
   clear HI522
   have BK521 := n0_
   have HO528 := n1_
   have HO531 := n2_
   have HO534 := n3_
   have BK537 := n4_
   have HO543 := n5_
   have HB := n6_
   have HI522 := n7_
   clear n0_ n1_ n2_ n3_ n4_ n5_ n6_ n7_
   (try clear hb)
   (try clear hb2)
   (try clear hk)
   (try clear hi)
   refine hK.out _ _ ⟨.slice Ao24 y541.length co24, v548, (by rw [ha.out]; exact putSel_upk 4 hbq_ rfl rfl rfl), (Kd.R_p HO528), (Kd.R_p HO531), (Kd.R_p HO534), fun _ => (kp_ BK521), (kp_ BK537), fun h0_ => absurd ((hon 4 (by kernel_rfl)).symm.trans h0_) (by decide), (hbI_ HB (IsS76.ge HI522.out)), fun _ h1_ => absurd ((up_self b 7).symm.trans h1_) (by decide), fun _ => (Kd.R_p HO543), fun _ _ => (IsS76.q HI522), z_HO549, fun h0_ _ => absurd ((hoff 10 (by kernel_rfl)).symm.trans h0_) (by decide), fun h0_ _ => absurd ((hoff 12 (by kernel_rfl)).symm.trans h0_) (by decide), fun h0_ => absurd ((hoff 14 (by kernel_rfl)).symm.trans h0_) (by decide), fun h0_ => absurd ((hoff 17 (by kernel_rfl)).symm.trans h0_) (by decide)⟩
  refine steps_cons ?_ ?_
  ·rintro b a w' ⟨v542, v548, ha, Q_HO528, Q_HO531, Q_HO534, Q_BK521, Q_BK537, Q_HI522, Q_HB, Q_HI522_e4, Q_HO543, Q_HI522_e7, Q_HO549, Q_HI522_e10, Q_HI522_e12, Q_HI522_e14, Q_BK521_e17⟩ hbq_ hon hoff
   refine ⟨_, rfl, fun K hK => ?_⟩
   replace ha := Aside0.mk ha
   have HO528 := Aside0.mk Q_HO528
   have HO531 := Aside0.mk Q_HO531
   have HO534 := Aside0.mk Q_HO534
   have BK521 := Aside0.mk (Q_BK521 (hoff 17 (by kernel_rfl)))
   have BK537 := Aside0.mk Q_BK537
   have HB := Aside0.mk Q_HB
   refine Kd.R_lit_step (Kd.int .i64) _ 3 ?hg (N := 23) ?hd (xs := ([0, 10, 1000, 1001, (-1), 20] : List Int)) (inner := [.int .i64 0, .int .i64 10, .int .i64 1000, .int .i64 1001, .int .i64 (-1), .int .i64 20]) (ok := fun _ => True) (okp := fun _ => True) ?hr ?hp (fun _ hk => hk) trivial (Below.refl _ _) (Nat.le_refl _) (by simp) ?_; (case hd => rfl); (case hg => rfl); (case hr => first | (go_simp; done) | (go_simp; rfl)); (case hp => exact (Reps.one (show Kd.M (Kd.int .i64) _ _ _ 0 [.int .i64 0] from rfl) (Reps.one (show Kd.M (Kd.int .i64) _ _ _ 10 [.int .i64 10] from rfl) (Reps.one (show Kd.M (Kd.int .i64) _ _ _ 1000 [.int .i64 1000] from rfl) (Reps.one (show Kd.M (Kd.int .i64) _ _ _ 1001 [.int .i64 1001] from rfl) (Reps.one (show Kd.M (Kd.int .i64) _ _ _ (-1) [.int .i64 (-1)] from rfl) (Reps.one (show Kd.M (Kd.int .i64) _ _ _ 20 [.int .i64 20] from rfl) (Reps.none _ _))))))))
   intro v548 w20 ho21 hb hg_ hnew_
   clear hg_ hnew_
   (first | rw [← Ny547.out] at ho21 | (simp only [Int.reduceToNat] at ho21; rw [← Ny547.out] at ho21))
   have n0_ := Aside0.mk (Kd.R_elder' (Kd.R_p HO528) (Kd.R_base ho21) hb)
   have n1_ := Aside0.mk (Kd.R_elder' (Kd.R_p HO531) (Kd.R_base ho21) hb)
   have n2_ := Aside0.mk (Kd.R_elder' (Kd.R_p HO534) (Kd.R_base ho21) hb)
   have n3_ := Aside0.mk (Kd.R_lower (Kd.R_nw (Kd.R_nw (Kd.R_nw ho21 HO528) HO531) HO534) (below_size (hb_ HB)))
   have n4_ := Aside0.mk (blk_below (kp_ BK521) hb)
   have n6_ := Aside0.mk (blk_below (kp_ BK537) hb)
   have n7_ := Aside0.mk (below_step (hb_ HB) hb)
   have z_HI522 := fun (h0_ : b 4 = false) => (show IsS76 w w20 gb522 l0 t535 t536 from by first | exact (IsS76.below (by repeat (first | (with_reducible first | exact (Q_HI522 h0_) | apply IsS76.alloc | apply IsS76.drewN | apply IsS76.drew | apply IsS76.set_1 | apply IsS76.set_2 | refine IsS76.far ?_ NB522_521.out _ | refine IsS76.far ?_ NB522_537.out _) | exact (Q_HI522 h0_))) hb))
   have z_HI522_e4 := fun (h0_ : b 4 = true) (h1_ : b 7 = false) => (show IsS76 w w20 gb522 l0 t539 t540 from by first | exact (IsS76.below (by repeat (first | (with_reducible first | exact (Q_HI522_e4 h0_ h1_) | apply IsS76.alloc | apply IsS76.drewN | apply IsS76.drew | apply IsS76.set_1 | apply IsS76.set_2 | refine IsS76.far ?_ NB522_521.out _ | refine IsS76.far ?_ NB522_537.out _) | exact (Q_HI522_e4 h0_ h1_))) hb))
   have z_HO543 := fun (h0_ : b 6 = true) => (show Kd.R (Kd.int .i64) 3 w20 w.heap.size (fun k_ => some k_ ≠ (.slice Ao15 t526.length co15 : Value).ownBlock ∧ some k_ ≠ (.slice Ao16 t529.length co16 : Value).ownBlock ∧ some k_ ≠ (.slice Ao17 t532.length co17 : Value).ownBlock) v542 y541 from by first | exact (Kd.R_elder' (Kd.R_pp ((Q_HO543 h0_))) (Kd.R_base ho21) hb) | exact Kd.R_mono (Kd.R_elder' (Kd.R_pp ((Q_HO543 h0_))) (Kd.R_base ho21) hb) (fun _ h_ => by first | trivial | exact h_ | exact h_.1))
   have z_HI522_e7 := fun (h0_ : b 7 = true) (h1_ : b 10 = false) => (show IsS76 w w20 gb522 l0 t545 t546 from by first | exact (IsS76.below (by repeat (first | (with_reducible first | exact (Q_HI522_e7 h0_ h1_) | apply IsS76.alloc | apply IsS76.drewN | apply IsS76.drew | apply IsS76.set_1 | apply IsS76.set_2 | refine IsS76.far ?_ NB522_521.out _ | refine IsS76.far ?_ NB522_537.out _) | exact (Q_HI522_e7 h0_ h1_))) hb))
   clear HO528
   clear HO531
   clear HO534
   clear BK521
   clear BK537
   clear HB
   have HO528 := n0_
   have HO531 := n1_
   have HO534 := n2_
   have HO549 := n3_
   have BK521 := n4_
   have BK537 := n6_
   have HB := n7_
   clear n0_ n1_ n2_ n3_ n4_ n6_ n7_
   clear hb ho21
   refine hK.out _ _ ⟨v542, v548, (by rw [ha.out]; exact putSel_upk 5 hbq_ rfl rfl rfl), (Kd.R_pp (Kd.R_mono HO528.out (fun _ hk => hk.1))), (Kd.R_pp (Kd.R_mono HO531.out (fun _ hk => hk.1))), (Kd.R_pp (Kd.R_mono HO534.out (fun _ hk => hk.1))), fun _ => (kp_ BK521), (kp_ BK537), z_HI522, (hb_ HB), z_HI522_e4, z_HO543, z_HI522_e7, fun _ => (Kd.R_pp (Kd.R_mono HO549.out (fun _ hk => ⟨hk.1.1.2, ⟨hk.1.2, hk.2⟩⟩))), fun h0_ _ => absurd ((hoff 10 (by kernel_rfl)).symm.trans h0_) (by decide), fun h0_ _ => absurd ((hoff 12 (by kernel_rfl)).symm.trans h0_) (by decide), fun h0_ => absurd ((hoff 14 (by kernel_rfl)).symm.trans h0_) (by decide), fun h0_ => absurd ((hoff 17 (by kernel_rfl)).symm.trans h0_) (by decide)⟩
  refine steps_cons ?_ ?_
  ·rintro b a w' ⟨v542, v548, ha, Q_HO528, Q_HO531, Q_HO534, Q_BK521, Q_BK537, Q_HI522, Q_HB, Q_HI522_e4, Q_HO543, Q_HI522_e7, Q_HO549, Q_HI522_e10, Q_HI522_e12, Q_HI522_e14, Q_BK521_e17⟩ hbq_ hon hoff
   refine ⟨_, rfl, fun K hK => ?_⟩
   have e22 : a.tmps[22]? = some (.pointer (some ⟨gb522, 0, none⟩)) := by rw [ha]; exact (putSel_off rfl).trans rfl
   have e23 : a.tmps[23]? = some (v548) := by rw [ha]; exact putSel_on (e := (9, 23, v548)) 5 rfl rfl (hon 9 (by kernel_rfl)) rfl
   replace ha := Aside0.mk ha
   have HO528 := Aside0.mk Q_HO528
   have HO531 := Aside0.mk Q_HO531
   have HO534 := Aside0.mk Q_HO534
   have BK521 := Aside0.mk (Q_BK521 (hoff 17 (by kernel_rfl)))
   have BK537 := Aside0.mk Q_BK537
   have HB := Aside0.mk Q_HB
   have HO543 := Aside0.mk (Q_HO543 (hon 6 (by kernel_rfl)))
   have HI522 := Aside0.mk (Q_HI522_e7 (hon 7 (by kernel_rfl)) hbq_)
   have HO549 := Aside0.mk (Q_HO549 (hon 9 (by kernel_rfl)))
   obtain ⟨Ao28, co28, eo28⟩ := Kd.R_slice HO549.out
   (first | subst eo28 | (injection eo28 with f1_ f2_ f3_; have f4_ := f1_.symm; have f5_ := f3_.symm; clear f1_ f2_ f3_; subst f4_; subst f5_))
   refine goes_ Try.func57 (by kernel_rfl) rfl #[.pointer (some ⟨gb522, 0, none⟩), .slice Ao28 y547.length co28] (by rfl) rfl rfl (by first | (simp only [List.map_toArray, List.map_cons, List.map_nil, Act.eval, Array.getD_eq_getD_getElem?, Option.getD_some, e22, e23]; done) | (simp only [List.map_toArray, List.map_cons, List.map_nil, Act.eval, Array.getD_eq_getD_getElem?, Option.getD_some, e22, e23]; rfl)) ?_
   with_reducible refine (spec_l1Cur_among.calls gb522 l0 t545 t546 _ _ y547 t550 t551 t552 w _ ?side1 ?side2 ?side3 ?side4 ?side5 A5.out).mono ?_
   (case side1 => exact IsS76.q HI522)
   (case side2 => exact hbI_ HB (IsS76.ge HI522.out))
   (case side3 => exact Kd.C_o HO549)
   (case side4 => exact (Kd.R_reads' HO549.out).2.1)
   (case side5 => exact far_slice (IsS76.own_ne HI522.out HO549.out (by decide)))
   rintro e w29 ⟨rfl, hi, hb, hk⟩
   refine ⟨_, rfl, ?_⟩
   have n0_ := Aside0.mk (KeepBut.blk hk (kp_ BK521) NB521_522.out (by simp))
   have n1_ := IsS76.rk HI522 HO528 hk
   have n2_ := IsS76.rk HI522 HO531 hk
   have n3_ := IsS76.rk HI522 HO534 hk
   have n4_ := Aside0.mk (KeepBut.blk hk (kp_ BK537) NB537_522.out (by simp))
   have n5_ := IsS76.rk HI522 HO543 hk
   have n6_ := IsS76.rk HI522 HO549 hk
   have n7_ := Aside0.mk (hb)
   have n8_ := Aside0.mk (hi)
   clear BK521
   clear HO528
   clear HO531
   clear HO534
   clear BK537
   clear HO543
   clear HO549
   clear HB
   clear HI522
   have BK521 := n0_
   have HO528 := n1_
   have HO531 := n2_
   have HO534 := n3_
   have BK537 := n4_
   have HO543 := n5_
   have HO549 := n6_
   have HB := n7_
   have HI522 := n8_
   clear n0_ n1_ n2_ n3_ n4_ n5_ n6_ n7_ n8_
   (try clear hb)
   (try clear hb2)
   (try clear hk)
   (try clear hi)
   refine hK.out _ _ ⟨v542, .slice Ao28 y547.length co28, (by rw [ha.out]; exact putSel_upk 6 hbq_ rfl rfl rfl), (Kd.R_p HO528), (Kd.R_p HO531), (Kd.R_p HO534), fun _ => (kp_ BK521), (kp_ BK537), fun h0_ => absurd ((hon 4 (by kernel_rfl)).symm.trans h0_) (by decide), (hbI_ HB (IsS76.ge HI522.out)), fun _ h1_ => absurd ((hon 7 (by kernel_rfl)).symm.trans h1_) (by decide), fun _ => (Kd.R_p HO543), fun _ h1_ => absurd ((up_self b 10).symm.trans h1_) (by decide), fun _ => (Kd.R_p HO549), fun _ _ => (IsS76.q HI522), fun h0_ _ => absurd ((hoff 12 (by kernel_rfl)).symm.trans h0_) (by decide), fun h0_ => absurd ((hoff 14 (by kernel_rfl)).symm.trans h0_) (by decide), fun h0_ => absurd ((hoff 17 (by kernel_rfl)).symm.trans h0_) (by decide)⟩
  refine steps_cons ?_ ?_
  ·rintro b a w' ⟨v542, v548, ha, Q_HO528, Q_HO531, Q_HO534, Q_BK521, Q_BK537, Q_HI522, Q_HB, Q_HI522_e4, Q_HO543, Q_HI522_e7, Q_HO549, Q_HI522_e10, Q_HI522_e12, Q_HI522_e14, Q_BK521_e17⟩ hbq_ hon hoff
   refine ⟨_, rfl, fun K hK => ?_⟩
   have e25 : a.tmps[25]? = some (.pointer (some ⟨gb522, 0, none⟩)) := by rw [ha]; exact (putSel_off rfl).trans rfl
   replace ha := Aside0.mk ha
   have HO528 := Aside0.mk Q_HO528
   have HO531 := Aside0.mk Q_HO531
   have HO534 := Aside0.mk Q_HO534
   have BK521 := Aside0.mk (Q_BK521 (hoff 17 (by kernel_rfl)))
   have BK537 := Aside0.mk Q_BK537
   have HB := Aside0.mk Q_HB
   have HO543 := Aside0.mk (Q_HO543 (hon 6 (by kernel_rfl)))
   have HO549 := Aside0.mk (Q_HO549 (hon 9 (by kernel_rfl)))
   have HI522 := Aside0.mk (Q_HI522_e10 (hon 10 (by kernel_rfl)) hbq_)
   refine goes_ Try.func60 (by kernel_rfl) rfl #[.pointer (some ⟨gb522, 0, none⟩), .int .i64 6] (by rfl) rfl rfl (by first | (simp only [List.map_toArray, List.map_cons, List.map_nil, Act.eval, Array.getD_eq_getD_getElem?, Option.getD_some, e25]; done) | (simp only [List.map_toArray, List.map_cons, List.map_nil, Act.eval, Array.getD_eq_getD_getElem?, Option.getD_some, e25]; rfl)) ?_
   with_reducible refine (spec_l1Cur_pick.calls gb522 l0 t551 t552 6 t553 t554 t555 w _ ?side1 ?side2 A6.out).mono ?_
   (case side1 => exact IsS76.q HI522)
   (case side2 => exact hbI_ HB (IsS76.ge HI522.out))
   rintro e w30 ⟨rfl, hi, hb, hk⟩
   refine ⟨_, rfl, ?_⟩
   have n0_ := Aside0.mk (KeepBut.blk hk (kp_ BK521) NB521_522.out (by simp))
   have n1_ := IsS76.rk HI522 HO528 hk
   have n2_ := IsS76.rk HI522 HO531 hk
   have n3_ := IsS76.rk HI522 HO534 hk
   have n4_ := Aside0.mk (KeepBut.blk hk (kp_ BK537) NB537_522.out (by simp))
   have n5_ := IsS76.rk HI522 HO543 hk
   have n6_ := IsS76.rk HI522 HO549 hk
   have n7_ := Aside0.mk (hb)
   have n8_ := Aside0.mk (hi)
   clear BK521
   clear HO528
   clear HO531
   clear HO534
   clear BK537
   clear HO543
   clear HO549
   clear HB
   clear HI522
   have BK521 := n0_
   have HO528 := n1_
   have HO531 := n2_
   have HO534 := n3_
   have BK537 := n4_
   have HO543 := n5_
   have HO549 := n6_
   have HB := n7_
   have HI522 := n8_
   clear n0_ n1_ n2_ n3_ n4_ n5_ n6_ n7_ n8_
   (try clear hb)
   (try clear hb2)
   (try clear hk)
   (try clear hi)
   refine hK.out _ _ ⟨v542, v548, (by rw [ha.out]; exact putSel_upk 7 hbq_ rfl rfl rfl), (Kd.R_p HO528), (Kd.R_p HO531), (Kd.R_p HO534), fun _ => (kp_ BK521), (kp_ BK537), fun h0_ => absurd ((hon 4 (by kernel_rfl)).symm.trans h0_) (by decide), (hbI_ HB (IsS76.ge HI522.out)), fun _ h1_ => absurd ((hon 7 (by kernel_rfl)).symm.trans h1_) (by decide), fun _ => (Kd.R_p HO543), fun _ h1_ => absurd ((hon 10 (by kernel_rfl)).symm.trans h1_) (by decide), fun _ => (Kd.R_p HO549), fun _ h1_ => absurd ((up_self b 12).symm.trans h1_) (by decide), fun _ _ => (IsS76.q HI522), fun h0_ => absurd ((hoff 14 (by kernel_rfl)).symm.trans h0_) (by decide), fun h0_ => absurd ((hoff 17 (by kernel_rfl)).symm.trans h0_) (by decide)⟩
  refine steps_cons ?_ ?_
  ·rintro b a w' ⟨v542, v548, ha, Q_HO528, Q_HO531, Q_HO534, Q_BK521, Q_BK537, Q_HI522, Q_HB, Q_HI522_e4, Q_HO543, Q_HI522_e7, Q_HO549, Q_HI522_e10, Q_HI522_e12, Q_HI522_e14, Q_BK521_e17⟩ hbq_ hon hoff
   refine ⟨_, rfl, fun K hK => ?_⟩
   have e27 : a.tmps[27]? = some (.pointer (some ⟨gb522, 0, none⟩)) := by rw [ha]; exact (putSel_off rfl).trans rfl
   replace ha := Aside0.mk ha
   have HO528 := Aside0.mk Q_HO528
   have HO531 := Aside0.mk Q_HO531
   have HO534 := Aside0.mk Q_HO534
   have BK521 := Aside0.mk (Q_BK521 (hoff 17 (by kernel_rfl)))
   have BK537 := Aside0.mk Q_BK537
   have HB := Aside0.mk Q_HB
   have HO543 := Aside0.mk (Q_HO543 (hon 6 (by kernel_rfl)))
   have HO549 := Aside0.mk (Q_HO549 (hon 9 (by kernel_rfl)))
   have HI522 := Aside0.mk (Q_HI522_e12 (hon 12 (by kernel_rfl)) hbq_)
   refine goes_ Try.func60 (by kernel_rfl) rfl #[.pointer (some ⟨gb522, 0, none⟩), .int .i64 24] (by rfl) rfl rfl (by first | (simp only [List.map_toArray, List.map_cons, List.map_nil, Act.eval, Array.getD_eq_getD_getElem?, Option.getD_some, e27]; done) | (simp only [List.map_toArray, List.map_cons, List.map_nil, Act.eval, Array.getD_eq_getD_getElem?, Option.getD_some, e27]; rfl)) ?_
   with_reducible refine (spec_l1Cur_pick.calls gb522 l0 t554 t555 24 t556 t557 t558 w _ ?side1 ?side2 A7.out).mono ?_
   (case side1 => exact IsS76.q HI522)
   (case side2 => exact hbI_ HB (IsS76.ge HI522.out))
   rintro e w31 ⟨rfl, hi, hb, hk⟩
   refine ⟨_, rfl, ?_⟩
   have n0_ := Aside0.mk (KeepBut.blk hk (kp_ BK521) NB521_522.out (by simp))
   have n1_ := IsS76.rk HI522 HO528 hk
   have n2_ := IsS76.rk HI522 HO531 hk
   have n3_ := IsS76.rk HI522 HO534 hk
   have n4_ := Aside0.mk (KeepBut.blk hk (kp_ BK537) NB537_522.out (by simp))
   have n5_ := IsS76.rk HI522 HO543 hk
   have n6_ := IsS76.rk HI522 HO549 hk
   have n7_ := Aside0.mk (hb)
   have n8_ := Aside0.mk (hi)
   clear BK521
   clear HO528
   clear HO531
   clear HO534
   clear BK537
   clear HO543
   clear HO549
   clear HB
   clear HI522
   have BK521 := n0_
   have HO528 := n1_
   have HO531 := n2_
   have HO534 := n3_
   have BK537 := n4_
   have HO543 := n5_
   have HO549 := n6_
   have HB := n7_
   have HI522 := n8_
   clear n0_ n1_ n2_ n3_ n4_ n5_ n6_ n7_ n8_
   (try clear hb)
   (try clear hb2)
   (try clear hk)
   (try clear hi)
   refine hK.out _ _ ⟨v542, v548, (by rw [ha.out]; exact putSel_upk 8 hbq_ rfl rfl rfl), (Kd.R_p HO528), (Kd.R_p HO531), (Kd.R_p HO534), fun _ => (kp_ BK521), (kp_ BK537), fun h0_ => absurd ((hon 4 (by kernel_rfl)).symm.trans h0_) (by decide), (hbI_ HB (IsS76.ge HI522.out)), fun _ h1_ => absurd ((hon 7 (by kernel_rfl)).symm.trans h1_) (by decide), fun _ => (Kd.R_p HO543), fun _ h1_ => absurd ((hon 10 (by kernel_rfl)).symm.trans h1_) (by decide), fun _ => (Kd.R_p HO549), fun _ h1_ => absurd ((hon 12 (by kernel_rfl)).symm.trans h1_) (by decide), fun _ h1_ => absurd ((up_self b 14).symm.trans h1_) (by decide), fun _ => (IsS76.q HI522), fun h0_ => absurd ((hoff 17 (by kernel_rfl)).symm.trans h0_) (by decide)⟩
  refine steps_cons ?_ ?_
  ·rintro b a w' ⟨v542, v548, ha, Q_HO528, Q_HO531, Q_HO534, Q_BK521, Q_BK537, Q_HI522, Q_HB, Q_HI522_e4, Q_HO543, Q_HI522_e7, Q_HO549, Q_HI522_e10, Q_HI522_e12, Q_HI522_e14, Q_BK521_e17⟩ hbq_ hon hoff
   refine ⟨_, rfl, fun K hK => ?_⟩
   have e28 : a.tmps[28]? = some (.int .i64 t556) := by rw [ha]; exact putSel_on (e := (14, 28, .int .i64 t556)) 8 rfl rfl (hon 14 (by kernel_rfl)) rfl
   replace ha := Aside0.mk ha
   have HO528 := Aside0.mk Q_HO528
   have HO531 := Aside0.mk Q_HO531
   have HO534 := Aside0.mk Q_HO534
   have BK537 := Aside0.mk Q_BK537
   have HB := Aside0.mk Q_HB
   have HO543 := Aside0.mk (Q_HO543 (hon 6 (by kernel_rfl)))
   have HO549 := Aside0.mk (Q_HO549 (hon 9 (by kernel_rfl)))
   have HI522 := Aside0.mk (Q_HI522_e14 (hon 14 (by kernel_rfl)))
   refine value_ (w1 := w') (v := .int .i64 (wrap64 (Int.tdiv t556 23))) (by rfl) rfl ?_ ?_
   ·go_simp
    (try simp only [i64_w])
    try rfl
   refine hK.out _ _ ⟨v542, v548, (by rw [ha.out]; exact putSel_upk 9 hbq_ rfl rfl rfl), Q_HO528, Q_HO531, Q_HO534, Q_BK521, Q_BK537, fun h0_ => absurd ((hon 4 (by kernel_rfl)).symm.trans h0_) (by decide), Q_HB, fun _ h1_ => absurd ((hon 7 (by kernel_rfl)).symm.trans h1_) (by decide), Q_HO543, fun _ h1_ => absurd ((hon 10 (by kernel_rfl)).symm.trans h1_) (by decide), Q_HO549, fun _ h1_ => absurd ((hon 12 (by kernel_rfl)).symm.trans h1_) (by decide), fun _ h1_ => absurd ((hon 14 (by kernel_rfl)).symm.trans h1_) (by decide), Q_HI522_e14, Q_BK521_e17⟩
  refine steps_cons ?_ ?_
  ·rintro b a w' ⟨v542, v548, ha, Q_HO528, Q_HO531, Q_HO534, Q_BK521, Q_BK537, Q_HI522, Q_HB, Q_HI522_e4, Q_HO543, Q_HI522_e7, Q_HO549, Q_HI522_e10, Q_HI522_e12, Q_HI522_e14, Q_BK521_e17⟩ hbq_ hon hoff
   refine ⟨_, rfl, fun K hK => ?_⟩
   have e26 : a.tmps[26]? = some (.int .i64 t553) := by rw [ha]; exact putSel_on (e := (12, 26, .int .i64 t553)) 7 rfl rfl (hon 12 (by kernel_rfl)) rfl
   have e29 : a.tmps[29]? = some (.int .i64 (wrap64 (Int.tdiv t556 23))) := by rw [ha]; exact putSel_on (e := (15, 29, .int .i64 (wrap64 (Int.tdiv t556 23)))) 9 rfl rfl (hon 15 (by kernel_rfl)) rfl
   replace ha := Aside0.mk ha
   have HO528 := Aside0.mk Q_HO528
   have HO531 := Aside0.mk Q_HO531
   have HO534 := Aside0.mk Q_HO534
   have BK537 := Aside0.mk Q_BK537
   have HB := Aside0.mk Q_HB
   have HO543 := Aside0.mk (Q_HO543 (hon 6 (by kernel_rfl)))
   have HO549 := Aside0.mk (Q_HO549 (hon 9 (by kernel_rfl)))
   have HI522 := Aside0.mk (Q_HI522_e14 (hon 14 (by kernel_rfl)))
   refine value_ (w1 := w') (v := .int .i64 (wrap64 (t553 - (wrap64 (Int.tdiv t556 23))))) (by rfl) rfl ?_ ?_
   ·go_simp
    (try simp only [i64_w])
    try rfl
   refine hK.out _ _ ⟨v542, v548, (by rw [ha.out]; exact putSel_upk 10 hbq_ rfl rfl rfl), Q_HO528, Q_HO531, Q_HO534, Q_BK521, Q_BK537, fun h0_ => absurd ((hon 4 (by kernel_rfl)).symm.trans h0_) (by decide), Q_HB, fun _ h1_ => absurd ((hon 7 (by kernel_rfl)).symm.trans h1_) (by decide), Q_HO543, fun _ h1_ => absurd ((hon 10 (by kernel_rfl)).symm.trans h1_) (by decide), Q_HO549, fun _ h1_ => absurd ((hon 12 (by kernel_rfl)).symm.trans h1_) (by decide), fun _ h1_ => absurd ((hon 14 (by kernel_rfl)).symm.trans h1_) (by decide), Q_HI522_e14, Q_BK521_e17⟩
  refine steps_cons ?_ ?_
  ·rintro b a w' ⟨v542, v548, ha, Q_HO528, Q_HO531, Q_HO534, Q_BK521, Q_BK537, Q_HI522, Q_HB, Q_HI522_e4, Q_HO543, Q_HI522_e7, Q_HO549, Q_HI522_e10, Q_HI522_e12, Q_HI522_e14, Q_BK521_e17⟩ hbq_ hon hoff
   refine ⟨_, rfl, fun K hK => ?_⟩
   have e2 : a.tmps[2]? = some (.pointer (some ⟨gb521, 0, none⟩)) := by rw [ha]; exact (putSel_off rfl).trans rfl
   have e14 : a.tmps[14]? = some (.agg #[.int .i64 t523, .int .i64 t524, .int .i64 t525, .slice Ao15 t526.length co15, .slice Ao16 t529.length co16, .slice Ao17 t532.length co17]) := by rw [ha]; exact putSel_on (e := (0, 14, .agg #[.int .i64 t523, .int .i64 t524, .int .i64 t525, .slice Ao15 t526.length co15, .slice Ao16 t529.length co16, .slice Ao17 t532.length co17])) 0 rfl rfl (hon 0 (by kernel_rfl)) rfl
   replace ha := Aside0.mk ha
   have HO528 := Aside0.mk Q_HO528
   have HO531 := Aside0.mk Q_HO531
   have HO534 := Aside0.mk Q_HO534
   have BK521 := Aside0.mk (Q_BK521 hbq_)
   have BK537 := Aside0.mk Q_BK537
   have HB := Aside0.mk Q_HB
   have HO543 := Aside0.mk (Q_HO543 (hon 6 (by kernel_rfl)))
   have HO549 := Aside0.mk (Q_HO549 (hon 9 (by kernel_rfl)))
   have HI522 := Aside0.mk (Q_HI522_e14 (hon 14 (by kernel_rfl)))
   have hs32 : w'.cell? ⟨gb521, 0, none⟩ = some (.int .i64 0) := (blk_cell BK521.out 0).trans rfl
   have hfs32 := blk_frozen BK521.out 0
   have hns32_1 := NB537_521.out
   have hms32_1 := NB521_537.out
   have hs33 : w'.cell? ⟨gb521, 1, none⟩ = some (.int .i64 0) := (blk_cell BK521.out 1).trans rfl
   have hfs33 := blk_frozen BK521.out 1
   have hns33_1 := NB537_521.out
   have hms33_1 := NB521_537.out
   have hs34 : w'.cell? ⟨gb521, 2, none⟩ = some (.int .i64 0) := (blk_cell BK521.out 2).trans rfl
   have hfs34 := blk_frozen BK521.out 2
   have hns34_1 := NB537_521.out
   have hms34_1 := NB521_537.out
   have hs35 : w'.cell? ⟨gb521, 3, none⟩ = some (.slice none 0 0) := (blk_cell BK521.out 3).trans rfl
   have hfs35 := blk_frozen BK521.out 3
   have hns35_1 := NB537_521.out
   have hms35_1 := NB521_537.out
   have hs36 : w'.cell? ⟨gb521, 4, none⟩ = some (.slice none 0 0) := (blk_cell BK521.out 4).trans rfl
   have hfs36 := blk_frozen BK521.out 4
   have hns36_1 := NB537_521.out
   have hms36_1 := NB521_537.out
   have hs37 : w'.cell? ⟨gb521, 5, none⟩ = some (.slice none 0 0) := (blk_cell BK521.out 5).trans rfl
   have hfs37 := blk_frozen BK521.out 5
   have hns37_1 := NB537_521.out
   have hms37_1 := NB521_537.out
   refine skip_ (w1 := ?_) (by rfl) rfl ?_ ?_
   rotate_left
   ·go_simp
    rfl
   refine hK.out _ _ ⟨v542, v548, (by rw [ha.out]; exact putSel_none (v := undef) rfl), (Kd.R_mono (Kd.R_s HO528 BK521) (fun _ hk => hk)), (Kd.R_mono (Kd.R_s HO531 BK521) (fun _ hk => hk)), (Kd.R_mono (Kd.R_s HO534 BK521) (fun _ hk => hk)), fun h0_ => absurd ((up_self b 17).symm.trans h0_) (by decide), (kf_ BK537 NB537_521), fun h0_ => absurd ((hon 4 (by kernel_rfl)).symm.trans h0_) (by decide), (hbI_ HB (IsS76.ge HI522.out)), fun _ h1_ => absurd ((hon 7 (by kernel_rfl)).symm.trans h1_) (by decide), fun _ => (Kd.R_mono (Kd.R_s HO543 BK521) (fun _ hk => hk)), fun _ h1_ => absurd ((hon 10 (by kernel_rfl)).symm.trans h1_) (by decide), fun _ => (Kd.R_mono (Kd.R_s HO549 BK521) (fun _ hk => hk)), fun _ h1_ => absurd ((hon 12 (by kernel_rfl)).symm.trans h1_) (by decide), fun _ h1_ => absurd ((hon 14 (by kernel_rfl)).symm.trans h1_) (by decide), fun _ => (IsS76.q HI522), fun _ => (kpq_ (kputs BK521 [(0, _), (1, _), (2, _), (3, _), (4, _), (5, _)]))⟩
  refine steps_cons ?_ ?_
  ·rintro b a w' ⟨v542, v548, ha, Q_HO528, Q_HO531, Q_HO534, Q_BK521, Q_BK537, Q_HI522, Q_HB, Q_HI522_e4, Q_HO543, Q_HI522_e7, Q_HO549, Q_HI522_e10, Q_HI522_e12, Q_HI522_e14, Q_BK521_e17⟩ hbq_ hon hoff
   refine ⟨_, rfl, fun K hK => ?_⟩
   have e18 : a.tmps[18]? = some (.int .i64 t538) := by rw [ha]; exact putSel_on (e := (4, 18, .int .i64 t538)) 2 rfl rfl (hon 4 (by kernel_rfl)) rfl
   replace ha := Aside0.mk ha
   have HO528 := Aside0.mk Q_HO528
   have HO531 := Aside0.mk Q_HO531
   have HO534 := Aside0.mk Q_HO534
   have BK537 := Aside0.mk Q_BK537
   have HB := Aside0.mk Q_HB
   have HO543 := Aside0.mk (Q_HO543 (hon 6 (by kernel_rfl)))
   have HO549 := Aside0.mk (Q_HO549 (hon 9 (by kernel_rfl)))
   have HI522 := Aside0.mk (Q_HI522_e14 (hon 14 (by kernel_rfl)))
   have BK521 := Aside0.mk (Q_BK521_e17 (hon 17 (by kernel_rfl)))
   refine value_ (w1 := w') (v := .int .i64 t538) (by rfl) rfl ?_ ?_
   ·go_simp
    (try simp only [i64_w])
    try rfl
   refine hK.out _ _ ⟨v542, v548, (by rw [ha.out]; exact putSel_upk 11 hbq_ rfl rfl rfl), Q_HO528, Q_HO531, Q_HO534, fun h0_ => absurd ((hon 17 (by kernel_rfl)).symm.trans h0_) (by decide), Q_BK537, fun h0_ => absurd ((hon 4 (by kernel_rfl)).symm.trans h0_) (by decide), Q_HB, fun _ h1_ => absurd ((hon 7 (by kernel_rfl)).symm.trans h1_) (by decide), Q_HO543, fun _ h1_ => absurd ((hon 10 (by kernel_rfl)).symm.trans h1_) (by decide), Q_HO549, fun _ h1_ => absurd ((hon 12 (by kernel_rfl)).symm.trans h1_) (by decide), fun _ h1_ => absurd ((hon 14 (by kernel_rfl)).symm.trans h1_) (by decide), Q_HI522_e14, Q_BK521_e17⟩
  refine steps_cons ?_ ?_
  ·rintro b a w' ⟨v542, v548, ha, Q_HO528, Q_HO531, Q_HO534, Q_BK521, Q_BK537, Q_HI522, Q_HB, Q_HI522_e4, Q_HO543, Q_HI522_e7, Q_HO549, Q_HI522_e10, Q_HI522_e12, Q_HI522_e14, Q_BK521_e17⟩ hbq_ hon hoff
   refine ⟨_, rfl, fun K hK => ?_⟩
   have e21 : a.tmps[21]? = some (.int .i64 t544) := by rw [ha]; exact putSel_on (e := (7, 21, .int .i64 t544)) 4 rfl rfl (hon 7 (by kernel_rfl)) rfl
   replace ha := Aside0.mk ha
   have HO528 := Aside0.mk Q_HO528
   have HO531 := Aside0.mk Q_HO531
   have HO534 := Aside0.mk Q_HO534
   have BK537 := Aside0.mk Q_BK537
   have HB := Aside0.mk Q_HB
   have HO543 := Aside0.mk (Q_HO543 (hon 6 (by kernel_rfl)))
   have HO549 := Aside0.mk (Q_HO549 (hon 9 (by kernel_rfl)))
   have HI522 := Aside0.mk (Q_HI522_e14 (hon 14 (by kernel_rfl)))
   have BK521 := Aside0.mk (Q_BK521_e17 (hon 17 (by kernel_rfl)))
   refine value_ (w1 := w') (v := .int .i64 t544) (by rfl) rfl ?_ ?_
   ·go_simp
    (try simp only [i64_w])
    try rfl
   refine hK.out _ _ ⟨v542, v548, (by rw [ha.out]; exact putSel_upk 12 hbq_ rfl rfl rfl), Q_HO528, Q_HO531, Q_HO534, fun h0_ => absurd ((hon 17 (by kernel_rfl)).symm.trans h0_) (by decide), Q_BK537, fun h0_ => absurd ((hon 4 (by kernel_rfl)).symm.trans h0_) (by decide), Q_HB, fun _ h1_ => absurd ((hon 7 (by kernel_rfl)).symm.trans h1_) (by decide), Q_HO543, fun _ h1_ => absurd ((hon 10 (by kernel_rfl)).symm.trans h1_) (by decide), Q_HO549, fun _ h1_ => absurd ((hon 12 (by kernel_rfl)).symm.trans h1_) (by decide), fun _ h1_ => absurd ((hon 14 (by kernel_rfl)).symm.trans h1_) (by decide), Q_HI522_e14, Q_BK521_e17⟩
  refine steps_cons ?_ ?_
  ·rintro b a w' ⟨v542, v548, ha, Q_HO528, Q_HO531, Q_HO534, Q_BK521, Q_BK537, Q_HI522, Q_HB, Q_HI522_e4, Q_HO543, Q_HI522_e7, Q_HO549, Q_HI522_e10, Q_HI522_e12, Q_HI522_e14, Q_BK521_e17⟩ hbq_ hon hoff
   refine ⟨_, rfl, fun K hK => ?_⟩
   have e24 : a.tmps[24]? = some (.int .i64 t550) := by rw [ha]; exact putSel_on (e := (10, 24, .int .i64 t550)) 6 rfl rfl (hon 10 (by kernel_rfl)) rfl
   replace ha := Aside0.mk ha
   have HO528 := Aside0.mk Q_HO528
   have HO531 := Aside0.mk Q_HO531
   have HO534 := Aside0.mk Q_HO534
   have BK537 := Aside0.mk Q_BK537
   have HB := Aside0.mk Q_HB
   have HO543 := Aside0.mk (Q_HO543 (hon 6 (by kernel_rfl)))
   have HO549 := Aside0.mk (Q_HO549 (hon 9 (by kernel_rfl)))
   have HI522 := Aside0.mk (Q_HI522_e14 (hon 14 (by kernel_rfl)))
   have BK521 := Aside0.mk (Q_BK521_e17 (hon 17 (by kernel_rfl)))
   refine value_ (w1 := w') (v := .int .i64 t550) (by rfl) rfl ?_ ?_
   ·go_simp
    (try simp only [i64_w])
    try rfl
   refine hK.out _ _ ⟨v542, v548, (by rw [ha.out]; exact putSel_upk 13 hbq_ rfl rfl rfl), Q_HO528, Q_HO531, Q_HO534, fun h0_ => absurd ((hon 17 (by kernel_rfl)).symm.trans h0_) (by decide), Q_BK537, fun h0_ => absurd ((hon 4 (by kernel_rfl)).symm.trans h0_) (by decide), Q_HB, fun _ h1_ => absurd ((hon 7 (by kernel_rfl)).symm.trans h1_) (by decide), Q_HO543, fun _ h1_ => absurd ((hon 10 (by kernel_rfl)).symm.trans h1_) (by decide), Q_HO549, fun _ h1_ => absurd ((hon 12 (by kernel_rfl)).symm.trans h1_) (by decide), fun _ h1_ => absurd ((hon 14 (by kernel_rfl)).symm.trans h1_) (by decide), Q_HI522_e14, Q_BK521_e17⟩
  refine steps_cons ?_ ?_
  ·rintro b a w' ⟨v542, v548, ha, Q_HO528, Q_HO531, Q_HO534, Q_BK521, Q_BK537, Q_HI522, Q_HB, Q_HI522_e4, Q_HO543, Q_HI522_e7, Q_HO549, Q_HI522_e10, Q_HI522_e12, Q_HI522_e14, Q_BK521_e17⟩ hbq_ hon hoff
   refine ⟨_, rfl, fun K hK => ?_⟩
   have e30 : a.tmps[30]? = some (.int .i64 (wrap64 (t553 - (wrap64 (Int.tdiv t556 23))))) := by rw [ha]; exact putSel_on (e := (16, 30, .int .i64 (wrap64 (t553 - (wrap64 (Int.tdiv t556 23)))))) 10 rfl rfl (hon 16 (by kernel_rfl)) rfl
   replace ha := Aside0.mk ha
   have HO528 := Aside0.mk Q_HO528
   have HO531 := Aside0.mk Q_HO531
   have HO534 := Aside0.mk Q_HO534
   have BK537 := Aside0.mk Q_BK537
   have HB := Aside0.mk Q_HB
   have HO543 := Aside0.mk (Q_HO543 (hon 6 (by kernel_rfl)))
   have HO549 := Aside0.mk (Q_HO549 (hon 9 (by kernel_rfl)))
   have HI522 := Aside0.mk (Q_HI522_e14 (hon 14 (by kernel_rfl)))
   have BK521 := Aside0.mk (Q_BK521_e17 (hon 17 (by kernel_rfl)))
   refine value_ (w1 := w') (v := .int .i64 (wrap64 (t553 - (wrap64 (Int.tdiv t556 23))))) (by rfl) rfl ?_ ?_
   ·go_simp
    (try simp only [i64_w])
    try rfl
   refine hK.out _ _ ⟨v542, v548, (by rw [ha.out]; exact putSel_upk 14 hbq_ rfl rfl rfl), Q_HO528, Q_HO531, Q_HO534, fun h0_ => absurd ((hon 17 (by kernel_rfl)).symm.trans h0_) (by decide), Q_BK537, fun h0_ => absurd ((hon 4 (by kernel_rfl)).symm.trans h0_) (by decide), Q_HB, fun _ h1_ => absurd ((hon 7 (by kernel_rfl)).symm.trans h1_) (by decide), Q_HO543, fun _ h1_ => absurd ((hon 10 (by kernel_rfl)).symm.trans h1_) (by decide), Q_HO549, fun _ h1_ => absurd ((hon 12 (by kernel_rfl)).symm.trans h1_) (by decide), fun _ h1_ => absurd ((hon 14 (by kernel_rfl)).symm.trans h1_) (by decide), Q_HI522_e14, Q_BK521_e17⟩
  exact steps_nil
 rintro b a w37 hall ⟨v542, v548, ha, Q_HO528, Q_HO531, Q_HO534, Q_BK521, Q_BK537, Q_HI522, Q_HB, Q_HI522_e4, Q_HO543, Q_HI522_e7, Q_HO549, Q_HI522_e10, Q_HI522_e12, Q_HI522_e14, Q_BK521_e17⟩
 clear BK521 BK537 HB HI522 HO528 HO531 HO534
 have hb0_ := hall 0 (by kernel_rfl)
 have hb3_ := hall 3 (by kernel_rfl)
 have hb4_ := hall 4 (by kernel_rfl)
 have hb6_ := hall 6 (by kernel_rfl)
 have hb7_ := hall 7 (by kernel_rfl)
 have hb9_ := hall 9 (by kernel_rfl)
 have hb10_ := hall 10 (by kernel_rfl)
 have hb12_ := hall 12 (by kernel_rfl)
 have hb14_ := hall 14 (by kernel_rfl)
 have hb15_ := hall 15 (by kernel_rfl)
 have hb16_ := hall 16 (by kernel_rfl)
 have hb17_ := hall 17 (by kernel_rfl)
 have hb18_ := hall 18 (by kernel_rfl)
 have hb19_ := hall 19 (by kernel_rfl)
 have hb20_ := hall 20 (by kernel_rfl)
 have hb21_ := hall 21 (by kernel_rfl)
 subst ha
 simp only [putSel, hb0_, hb3_, hb4_, hb6_, hb7_, hb9_, hb10_, hb12_, hb14_, hb15_, hb16_, hb17_, hb18_, hb19_, hb20_, hb21_, if_true, Act.put, List.setIfInBounds_toArray, List.set_cons_zero, List.set_cons_succ]
 have HO528 := Aside0.mk Q_HO528
 clear Q_HO528
 have HO531 := Aside0.mk Q_HO531
 clear Q_HO531
 have HO534 := Aside0.mk Q_HO534
 clear Q_HO534
 clear Q_BK521
 have BK537 := Aside0.mk Q_BK537
 clear Q_BK537
 clear Q_HI522
 have HB := Aside0.mk Q_HB
 clear Q_HB
 clear Q_HI522_e4
 have HO543 := Aside0.mk (Q_HO543 hb6_)
 clear Q_HO543
 clear Q_HI522_e7
 have HO549 := Aside0.mk (Q_HO549 hb9_)
 clear Q_HO549
 clear Q_HI522_e10
 clear Q_HI522_e12
 have HI522 := Aside0.mk (Q_HI522_e14 hb14_)
 clear Q_HI522_e14
 have BK521 := Aside0.mk (Q_BK521_e17 hb17_)
 clear Q_BK521_e17
 clear hall hb0_ hb3_ hb4_ hb6_ hb7_ hb9_ hb10_ hb12_ hb14_ hb15_ hb16_ hb17_ hb18_ hb19_ hb20_ hb21_
 try go_wp2
 refine bodyPost_ret (results_list (rs := [.cell 2 30, .tmp 3, .tmp 4, .tmp 5, .tmp 6]) rfl (by simp) (.cell gb521 30 #[.int .i64 t523, .int .i64 t524, .int .i64 t525, .slice Ao15 t526.length co15, .slice Ao16 t529.length co16, .slice Ao17 t532.length co17] (0, 0) _ rfl (kp_ BK521) Try.underlying30 rfl (by kernel_rfl) (.tmp (.tmp (.tmp (.tmp .nil)))))) rfl ?_
 exact ⟨_, _, _, by first | rfl | (simp [errW_none, errW_some] <;> rfl) | (simp [*, errW_none, errW_some] <;> rfl), Kd.R_pp (Kd.R_mono HO528.out (fun _ hk => hk)), Kd.R_pp (Kd.R_mono HO531.out (fun _ hk => hk)), Kd.R_pp (Kd.R_mono HO534.out (fun _ hk => hk)), hbI_ HB (IsS76.ge HI522.out)⟩

end Go.Proofs.Ytdfjlelbkkaloaa.PFnGrades
