-- Laid for this claim by wip/tools/print2.sh, a changed copy of the kit's print (wip/tools/patch_print.py): not by print.sh.
import Derived.Test.YtceajigggcihnaaPFnPiecesx0
import Derived.Test.YtceajigggcihnaaPFnPiecesx1
import Derived.Test.YtceajigggcihnaaPFnPiecesx3
import Derived.Test.YtceajigggcihnaaPFnPiecesx5
import Derived.Test.YtceajigggcihnaaPFnPiecesx10
import Derived.Test.YtceajigggcihnaaPFnPiecesx14
import Derived.Test.YtceajigggcihnaaVFnPieces
namespace Go.Proofs.Ytceajigggcihnaa.PFnPieces
open Go.RowKit Go.Proofs.YtceajigggcihnaaW.PrintWords Go.Proofs.YtceajigggcihnaaW.PrintLast Go.Proofs.YtceajigggcihnaaW.PrintMore
attribute [local go_sem] max2_int min2_int max_two min_two max_three min_three max_four min_four   -- for this text's walks alone
set_option linter.unusedVariables false
set_option linter.unusedSimpArgs false

attribute [local go_sem high] eqA29
/-! ### spec_DrawPieceOf: function 45 -/
def spec_DrawPieceOf.f (k : Nat) (l0 : List Int) : Option (Int × Int × Int × List Int × List Int × List Int × Int) := (spec_l1Cur_anyModel.f k l0 0 0).bind fun bt523 => ((spec_l1Cur_pick.f l0 bt523.2.2.2.2.2.2.1 bt523.2.2.2.2.2.2.2 (wrap64 ((bt523.2.2.2.1.length : Int) + 1))).bind fun bt538 => ((spec_l1Cur_pick.f l0 bt538.2.1 bt538.2.2 20).bind fun bt541 => (some (bt523.1, bt523.2.1, bt523.2.2.1, bt523.2.2.2.1, bt523.2.2.2.2.1, bt523.2.2.2.2.2.1, wrap64 (bt538.1 - (wrap64 (Int.tdiv bt541.1 19)))))))
def spec_DrawPieceOf.T3 : Bool × List (List Nat × List Nat) := (true, [([], []), ([], []), ([], []), ([2], [2]), ([3], [3]), ([4], [4]), ([1, 5], [1, 5]), ([], []), ([7, 6], [7]), ([8], [8]), ([6, 9], [6, 9]), ([0, 8, 0], [0]), ([10, 11, 0, 1, 2, 3, 4, 5, 6, 7, 8, 9, 10, 11], [10])])
def spec_DrawPieceOf.B3 : List Nat := [0, 0, 0, 4, 12, 28, 62, 0, 254, 510, 1022, 511, 4095]
theorem spec_DrawPieceOf.tab3 : rtab .any (opsOf Try.f45 3) = spec_DrawPieceOf.T3 := by kernel_rfl
theorem spec_DrawPieceOf.bits3 : waitsOk spec_DrawPieceOf.T3.2 spec_DrawPieceOf.B3 = true := by kernel_rfl
set_option maxHeartbeats 8000000 in
set_option maxRecDepth 100000 in
theorem spec_DrawPieceOf.calls (k : Nat) (A0 : Option Addr) (c0 : Nat) (l0 : List Int) (r1 : Int) (r2 : Int) (r3 : Int) (r4 : List Int) (r5 : List Int) (r6 : List Int) (r7 : Int) (w : World) (hr0 : Kd.C (Kd.int .u8) w A0 l0.length l0) (hc0 : l0.length ≤ c0) (h : spec_DrawPieceOf.f k l0 = some (r1, r2, r3, r4, r5, r6, r7)) :
  Calls Try.prog 45 #[.slice A0 l0.length c0] w fun e w' => ∃ v3_ v4_ v5_ : Value, e = .returned (.tuple #[.agg #[.int .i64 r1, .int .i64 r2, .int .i64 r3, v3_, v4_, v5_], .int .i64 r7]) ∧ Kd.R (Kd.int .i64) 3 w' w.heap.size (fun k_ => some k_ ≠ (v4_ : Value).ownBlock ∧ some k_ ≠ (v5_ : Value).ownBlock) v3_ r4 ∧ Kd.R (Kd.int .i64) 3 w' w.heap.size (fun k_ => some k_ ≠ (v3_ : Value).ownBlock ∧ some k_ ≠ (v5_ : Value).ownBlock) v4_ r5 ∧ Kd.R (Kd.int .i64) 3 w' w.heap.size (fun k_ => some k_ ≠ (v3_ : Value).ownBlock ∧ some k_ ≠ (v4_ : Value).ownBlock) v5_ r6 ∧ Below w.heap.size w w' := by
 have hu34 := Try.underlying34
 have hu106 := Try.underlying106
 have HR0 := Aside0.mk hr0
 have HC0 := Aside0.mk hc0
 clear hr0 hc0
 have HB := Aside0.mk (Below.refl w.heap.size w)
 have H : ((spec_l1Cur_anyModel.f k l0 0 0).bind fun bt523 => ((spec_l1Cur_pick.f l0 bt523.2.2.2.2.2.2.1 bt523.2.2.2.2.2.2.2 (wrap64 ((bt523.2.2.2.1.length : Int) + 1))).bind fun bt538 => ((spec_l1Cur_pick.f l0 bt538.2.1 bt538.2.2 20).bind fun bt541 => (some (bt523.1, bt523.2.1, bt523.2.2.1, bt523.2.2.2.1, bt523.2.2.2.2.1, bt523.2.2.2.2.2.1, wrap64 (bt538.1 - (wrap64 (Int.tdiv bt541.1 19)))))))) = some (r1, r2, r3, r4, r5, r6, r7) := h
 clear h
 replace H := Option.bind_eq_some_iff.mp H
 obtain ⟨⟨t523, t524, t525, t526, t529, t532, t535, t536⟩, A20, H⟩ := H
 try dsimp only at H
 have A2 := Aside0.mk A20
 clear A20
 replace H := Option.bind_eq_some_iff.mp H
 obtain ⟨⟨t538, t539, t540⟩, A30, H⟩ := H
 try dsimp only at H
 have A3 := Aside0.mk A30
 clear A30
 replace H := Option.bind_eq_some_iff.mp H
 obtain ⟨⟨t541, t542, t543⟩, A40, H⟩ := H
 try dsimp only at H
 have A4 := Aside0.mk A40
 clear A40
 simp only [Option.some.injEq, Prod.mk.injEq] at H
 obtain ⟨rfl, rfl, rfl, rfl, rfl, rfl, rfl⟩ := H
 go_enter Try.func45, Try.ntmps45
 try go_wp2_with (first | ((with_reducible refine gate_dst (N := 2) rfl ?_); refine box_event ?hg (N := 2) ?hd (cs := #[.int .i64 0, .int .i64 0, .int .i64 0, .slice none 0 0, .slice none 0 0, .slice none 0 0]) (t := 34) ?hr ?_; (case hd => rfl); (case hg => rfl); (case hr => first | (go_simp; done) | (go_simp; rfl)); intro gb521 hg w5 hbox hb; have BK521 := Aside0.mk (hbox); have GW521 := gs_ hg HB; have GE521 := gs_ hg HB; replace HB := hbs_ HB hb; clear hb hbox hg) | ((with_reducible refine gate_dst (N := 8) rfl ?_); refine box_event ?hg (N := 8) ?hd (cs := #[.slice A0 l0.length c0, .int .i64 0, .int .u64 0]) (t := 106) ?hr ?_; (case hd => rfl); (case hg => rfl); (case hr => first | (go_simp; done) | (go_simp; rfl)); intro gb522 hg w6 hbox hb; have HI522 := Aside0.mk ((show IsS106 w w6 gb522 l0 0 0 from ⟨A0, c0, hbox, (by rw [hg]; exact (below_size (hb_ HB))), HR0.out⟩)); have GW522 := gs_ hg HB; have GE522 := gs_ hg HB; have NB521_522 := nl_ hg BK521; have NB522_521 := ng_ hg BK521; replace BK521 := kb_ BK521 hb; replace HB := hbs_ HB hb; clear hb hbox hg) | ((with_reducible refine gate_callee (f := 94) rfl ?_); refine gl_ (some 10) Try.func94 #[.pointer (some ⟨gb522, 0, none⟩)] rfl rfl rfl ?_; (with_reducible refine (spec_l1Cur_anyModel.calls k gb522 l0 0 0 t523 t524 t525 t526 t529 t532 t535 t536 w _ ?side1 ?side2 A2.out).mono ?_); (case side1 => exact IsS106.q HI522); (case side2 => exact hbI_ HB (IsS106.ge HI522.out)); rintro e w7 ⟨v527, v530, v533, rfl, ho0, ho1, ho2, hi, hb, hk⟩; refine ⟨_, rfl, ?_⟩; have HO528 := Aside0.mk (Kd.R_lower ho0 (below_size (hbI_ HB (IsS106.ge HI522.out)))); have HO531 := Aside0.mk (Kd.R_lower ho1 (below_size (hbI_ HB (IsS106.ge HI522.out)))); have HO534 := Aside0.mk (Kd.R_lower ho2 (below_size (hbI_ HB (IsS106.ge HI522.out)))); replace BK521 := kk_ BK521 hk NB521_522; replace HB := Aside0.mk (hb); replace HI522 := Aside0.mk (hi); (try clear hb); (try clear hb2); (try clear hk); (try clear hi); (try clear ho0); (try clear ho1); (try clear ho2)) | ((with_reducible refine gate_dst (N := 5) rfl ?_); refine box_event ?hg (N := 5) ?hd (cs := #[.int .i64 0, .int .i64 0, .int .i64 0, .slice none 0 0, .slice none 0 0, .slice none 0 0]) (t := 34) ?hr ?_; (case hd => rfl); (case hg => rfl); (case hr => first | (go_simp; done) | (go_simp; rfl)); intro gb537 hg w8 hbox hb; have BK537 := Aside0.mk (hbox); have GW537 := Aside0.mk ((by rw [hg]; exact (below_size (hbI_ HB (IsS106.ge HI522.out))) : w.heap.size ≤ gb537)); have GE537 := Aside0.mk ((by rw [hg]; exact (below_size (hbI_ HB (IsS106.ge HI522.out))) : w.heap.size ≤ gb537)); have NB521_537 := nl_ hg BK521; have NB537_521 := ng_ hg BK521; have NB522_537 := Aside0.mk ((by rw [hg]; exact Nat.ne_of_lt (IsS106.lt (show IsS106 w _ gb522 l0 t535 t536 from IsS106.q HI522)) : gb522 ≠ gb537)); have NB537_522 := Aside0.mk ((by rw [hg]; exact Nat.ne_of_gt (IsS106.lt (show IsS106 w _ gb522 l0 t535 t536 from IsS106.q HI522)) : gb537 ≠ gb522)); replace HO528 := Kd.R_b HO528 hb; replace HO531 := Kd.R_b HO531 hb; replace HO534 := Kd.R_b HO534 hb; replace BK521 := kb_ BK521 hb; replace HB := Aside0.mk (below_step (hbI_ HB (IsS106.ge HI522.out)) hb); replace HI522 := IsS106.b HI522 hb; clear hb hbox hg; have hnb9 := NB537_521.out; have hnc9 := NB521_537.out; have hnb10 := NB537_522.out; have hnc10 := NB522_537.out; obtain ⟨hcz11_0, hcz11_1, hcz11_2, hcz11_3, hcz11_4, hcz11_5, hfz11_0, hfz11_1, hfz11_2, hfz11_3, hfz11_4, hfz11_5⟩ := bx6 BK537; obtain ⟨Ao12, co12, eo12⟩ := Kd.R_slice HO528.out; subst eo12; obtain ⟨Ao13, co13, eo13⟩ := Kd.R_slice HO531.out; subst eo13; obtain ⟨Ao14, co14, eo14⟩ := Kd.R_slice HO534.out; subst eo14))
 have n0_ : Aside0 (Kd.R (Kd.int .i64) 3 ((((((w8.setCell ⟨gb537, 0, none⟩ (.int .i64 t523)).setCell ⟨gb537, 1, none⟩ (.int .i64 t524)).setCell ⟨gb537, 2, none⟩ (.int .i64 t525)).setCell ⟨gb537, 3, none⟩ (.slice Ao12 t526.length co12)).setCell ⟨gb537, 4, none⟩ (.slice Ao13 t529.length co13)).setCell ⟨gb537, 5, none⟩ (.slice Ao14 t532.length co14)) w.heap.size (fun k_ => some k_ ≠ (.slice Ao13 t529.length co13 : Value).ownBlock ∧ some k_ ≠ (.slice Ao14 t532.length co14 : Value).ownBlock) (.slice Ao12 t526.length co12) t526) := ⟨Kd.R_mono (Kd.R_s HO528 BK537) (fun _ hk => ⟨hk.1, hk.2⟩)⟩
 have n1_ : Aside0 (Kd.R (Kd.int .i64) 3 ((((((w8.setCell ⟨gb537, 0, none⟩ (.int .i64 t523)).setCell ⟨gb537, 1, none⟩ (.int .i64 t524)).setCell ⟨gb537, 2, none⟩ (.int .i64 t525)).setCell ⟨gb537, 3, none⟩ (.slice Ao12 t526.length co12)).setCell ⟨gb537, 4, none⟩ (.slice Ao13 t529.length co13)).setCell ⟨gb537, 5, none⟩ (.slice Ao14 t532.length co14)) w.heap.size (fun k_ => some k_ ≠ (.slice Ao12 t526.length co12 : Value).ownBlock ∧ some k_ ≠ (.slice Ao14 t532.length co14 : Value).ownBlock) (.slice Ao13 t529.length co13) t529) := ⟨Kd.R_mono (Kd.R_s HO531 BK537) (fun _ hk => ⟨hk.1, hk.2⟩)⟩
 have n2_ : Aside0 (Kd.R (Kd.int .i64) 3 ((((((w8.setCell ⟨gb537, 0, none⟩ (.int .i64 t523)).setCell ⟨gb537, 1, none⟩ (.int .i64 t524)).setCell ⟨gb537, 2, none⟩ (.int .i64 t525)).setCell ⟨gb537, 3, none⟩ (.slice Ao12 t526.length co12)).setCell ⟨gb537, 4, none⟩ (.slice Ao13 t529.length co13)).setCell ⟨gb537, 5, none⟩ (.slice Ao14 t532.length co14)) w.heap.size (fun k_ => some k_ ≠ (.slice Ao12 t526.length co12 : Value).ownBlock ∧ some k_ ≠ (.slice Ao13 t529.length co13 : Value).ownBlock) (.slice Ao14 t532.length co14) t532) := ⟨Kd.R_mono (Kd.R_s HO534 BK537) (fun _ hk => ⟨hk.1, hk.2⟩)⟩
 have n3_ : Aside0 (((((((w8.setCell ⟨gb537, 0, none⟩ (.int .i64 t523)).setCell ⟨gb537, 1, none⟩ (.int .i64 t524)).setCell ⟨gb537, 2, none⟩ (.int .i64 t525)).setCell ⟨gb537, 3, none⟩ (.slice Ao12 t526.length co12)).setCell ⟨gb537, 4, none⟩ (.slice Ao13 t529.length co13)).setCell ⟨gb537, 5, none⟩ (.slice Ao14 t532.length co14)).heap[gb521]? = some (.cells #[.int .i64 0, .int .i64 0, .int .i64 0, .slice none 0 0, .slice none 0 0, .slice none 0 0] 34 (0, 0))) := ⟨kf_ BK521 NB521_537⟩
 have n4_ : Aside0 (((((((w8.setCell ⟨gb537, 0, none⟩ (.int .i64 t523)).setCell ⟨gb537, 1, none⟩ (.int .i64 t524)).setCell ⟨gb537, 2, none⟩ (.int .i64 t525)).setCell ⟨gb537, 3, none⟩ (.slice Ao12 t526.length co12)).setCell ⟨gb537, 4, none⟩ (.slice Ao13 t529.length co13)).setCell ⟨gb537, 5, none⟩ (.slice Ao14 t532.length co14)).heap[gb537]? = some (.cells #[.int .i64 t523, .int .i64 t524, .int .i64 t525, .slice Ao12 t526.length co12, .slice Ao13 t529.length co13, .slice Ao14 t532.length co14] 34 (0, 0))) := ⟨kpq_ (kputs BK537 [(0, _), (1, _), (2, _), (3, _), (4, _), (5, _)])⟩
 have n5_ : Aside0 (IsS106 w ((((((w8.setCell ⟨gb537, 0, none⟩ (.int .i64 t523)).setCell ⟨gb537, 1, none⟩ (.int .i64 t524)).setCell ⟨gb537, 2, none⟩ (.int .i64 t525)).setCell ⟨gb537, 3, none⟩ (.slice Ao12 t526.length co12)).setCell ⟨gb537, 4, none⟩ (.slice Ao13 t529.length co13)).setCell ⟨gb537, 5, none⟩ (.slice Ao14 t532.length co14)) gb522 l0 t535 t536) := ⟨IsS106.q HI522⟩
 have n6_ : Aside0 (Below w.heap.size w ((((((w8.setCell ⟨gb537, 0, none⟩ (.int .i64 t523)).setCell ⟨gb537, 1, none⟩ (.int .i64 t524)).setCell ⟨gb537, 2, none⟩ (.int .i64 t525)).setCell ⟨gb537, 3, none⟩ (.slice Ao12 t526.length co12)).setCell ⟨gb537, 4, none⟩ (.slice Ao13 t529.length co13)).setCell ⟨gb537, 5, none⟩ (.slice Ao14 t532.length co14))) := ⟨hbI_ HB (IsS106.ge HI522.out)⟩
 (try clear HO528)
 (try clear HO531)
 (try clear HO534)
 (try clear BK521)
 (try clear BK537)
 (try clear HI522)
 (try clear HB)
 generalize ((((((w8.setCell ⟨gb537, 0, none⟩ (.int .i64 t523)).setCell ⟨gb537, 1, none⟩ (.int .i64 t524)).setCell ⟨gb537, 2, none⟩ (.int .i64 t525)).setCell ⟨gb537, 3, none⟩ (.slice Ao12 t526.length co12)).setCell ⟨gb537, 4, none⟩ (.slice Ao13 t529.length co13)).setCell ⟨gb537, 5, none⟩ (.slice Ao14 t532.length co14)) = w15 at n0_ n1_ n2_ n3_ n4_ n5_ n6_ ⊢
 have HO528 := n0_
 have HO531 := n1_
 have HO534 := n2_
 have BK521 := n3_
 have BK537 := n4_
 have HI522 := n5_
 have HB := n6_
 clear n0_ n1_ n2_ n3_ n4_ n5_ n6_
 have n0_ := Aside0.mk (Kd.R_drew HO528.out)
 have n1_ := Aside0.mk (Kd.R_drew HO531.out)
 have n2_ := Aside0.mk (Kd.R_drew HO534.out)
 have n3_ := Aside0.mk (blk_drew BK521.out)
 have n4_ := Aside0.mk (blk_drew BK537.out)
 have n5_ := Aside0.mk (IsS106.drew HI522.out)
 have n6_ := Aside0.mk (below_drew1 HB.out)
 clear HO528
 clear HO531
 clear HO534
 clear BK521
 clear BK537
 clear HI522
 clear HB
 have HO528 := n0_
 have HO531 := n1_
 have HO534 := n2_
 have BK521 := n3_
 have BK537 := n4_
 have HI522 := n5_
 have HB := n6_
 clear n0_ n1_ n2_ n3_ n4_ n5_ n6_
 refine start_ (n := 13) (S := fun w' => w'.cell? ⟨gb537, 0, none⟩ = some (.int .i64 t523) ∧ w'.cell? ⟨gb537, 1, none⟩ = some (.int .i64 t524) ∧ w'.cell? ⟨gb537, 2, none⟩ = some (.int .i64 t525) ∧ w'.cell? ⟨gb537, 3, none⟩ = some (.slice Ao12 t526.length co12) ∧ w'.cell? ⟨gb537, 4, none⟩ = some (.slice Ao13 t529.length co13) ∧ w'.cell? ⟨gb537, 5, none⟩ = some (.slice Ao14 t532.length co14)) (ds := []) (bb 13 0) (by kernel_rfl) rfl rfl ⟨(blk_cell BK537.out 0).trans rfl, (blk_cell BK537.out 1).trans rfl, (blk_cell BK537.out 2).trans rfl, (blk_cell BK537.out 3).trans rfl, (blk_cell BK537.out 4).trans rfl, (blk_cell BK537.out 5).trans rfl⟩ (fun hHeld => ?_); refine with_tabW spec_DrawPieceOf.tab3 spec_DrawPieceOf.bits3 (fun HT_ HW_ => ?_)
 generalize w15.drew = w16 at HO528 HO531 HO534 BK521 BK537 HI522 HB hHeld ⊢
 refine pl_ HT_ 1 (some 12) (bb 13 2) (h := ?_)
 refine pl_ HT_ 2 (some 13) (bb 13 6) (h := ?_)
 refine pl_ HT_ 7 (some 18) (bb 13 134) (h := ?_)
 refine take_ (i := 0) (N := some 11) (v := ?_) (a' := ?_) (bb 13 135) rfl rfl (take_ofW HT_.out HW_.out (by kernel_rfl)) (fun _ _ _ h => h) (Or.inl ⟨by rfl, ?_⟩) hHeld ?_ ?_
 rotate_left
 ·rintro w' ⟨s0, s1, s2, s3, s4, s5⟩
  go_simp
  with_reducible rfl
 rotate_left
 ·simp only [Act.put, List.setIfInBounds_toArray, List.set_cons_zero, List.set_cons_succ, i64_w, i32_w]
  rfl
 refine take_ (i := 3) (N := some 14) (v := ?_) (a' := ?_) (bb 13 143) rfl rfl (take_ofW HT_.out HW_.out (by kernel_rfl)) (fun _ _ _ h => h) (Or.inl ⟨by rfl, ?_⟩) hHeld ?_ ?_
 rotate_left
 ·rintro w' ⟨s0, s1, s2, s3, s4, s5⟩
  go_simp
  with_reducible rfl
 rotate_left
 ·simp only [Act.put, List.setIfInBounds_toArray, List.set_cons_zero, List.set_cons_succ, i64_w, i32_w]
  rfl
 refine pl_ HT_ 4 (some 15) (bb 13 159) (h := ?_)
 refine pl_ HT_ 5 (some 16) (bb 13 191) (h := ?_)
 refine one_ (i := 6) (N := some 17) (bb 13 255) rfl rfl (one_of HT_.out (by kernel_rfl)) (by decide) (fun K hK => ?_)
 refine goes_ Try.func87 (by kernel_rfl) rfl #[.pointer (some ⟨gb522, 0, none⟩), .int .i64 (wrap64 ((t526.length : Int) + 1))] (by rfl) rfl rfl (by (try simp only [List.map_toArray, List.map_cons, List.map_nil]); first | done | rfl | (simp only [List.length_drop, List.length_take]; rfl)) ?_
 with_reducible refine (spec_l1Cur_pick.calls gb522 l0 t535 t536 (wrap64 ((t526.length : Int) + 1)) t538 t539 t540 w _ ?side1 ?side2 A3.out).mono ?_
 (case side1 => exact IsS106.q HI522)
 (case side2 => exact hbI_ HB (IsS106.ge HI522.out))
 rintro e w17 ⟨rfl, hi, hb, hk⟩
 refine ⟨_, rfl, ?_⟩
 have n0_ := Aside0.mk (KeepBut.blk hk (kp_ BK521) NB521_522.out (by simp))
 have n1_ := IsS106.rk HI522 HO528 hk
 have n2_ := IsS106.rk HI522 HO531 hk
 have n3_ := IsS106.rk HI522 HO534 hk
 have n4_ := Aside0.mk (KeepBut.blk hk (kp_ BK537) NB537_522.out (by simp))
 have n5_ := Aside0.mk (hb)
 have n6_ := Aside0.mk (hi)
 clear BK521
 clear HO528
 clear HO531
 clear HO534
 clear BK537
 clear HB
 clear HI522
 have BK521 := n0_
 have HO528 := n1_
 have HO531 := n2_
 have HO534 := n3_
 have BK537 := n4_
 have HB := n5_
 have HI522 := n6_
 clear n0_ n1_ n2_ n3_ n4_ n5_ n6_
 (try clear hb)
 (try clear hb2)
 (try clear hk)
 (try clear hi)
 refine hK.out _ _ ⟨(blk_cell BK537.out 0).trans rfl, (blk_cell BK537.out 1).trans rfl, (blk_cell BK537.out 2).trans rfl, (blk_cell BK537.out 3).trans rfl, (blk_cell BK537.out 4).trans rfl, (blk_cell BK537.out 5).trans rfl⟩ (fun hHeld => ?_)
 clear hK K
 refine norm_ (a' := ?_) ?_ ?_
 rotate_left
 ·show Act.put _ (some 17) _ = _
  simp only [Act.put, List.setIfInBounds_toArray, List.set_cons_zero, List.set_cons_succ, i64_w, i32_w]
  rfl
 refine one_ (i := 8) (N := some 19) (bb 13 511) rfl rfl (one_of HT_.out (by kernel_rfl)) (by decide) (fun K hK => ?_)
 refine goes_ Try.func87 (by kernel_rfl) rfl #[.pointer (some ⟨gb522, 0, none⟩), .int .i64 20] (by rfl) rfl rfl (by (try simp only [List.map_toArray, List.map_cons, List.map_nil]); first | done | rfl | (simp only [List.length_drop, List.length_take]; rfl)) ?_
 with_reducible refine (spec_l1Cur_pick.calls gb522 l0 t539 t540 20 t541 t542 t543 w _ ?side1 ?side2 A4.out).mono ?_
 (case side1 => exact IsS106.q HI522)
 (case side2 => exact hbI_ HB (IsS106.ge HI522.out))
 rintro e w18 ⟨rfl, hi, hb, hk⟩
 refine ⟨_, rfl, ?_⟩
 have n0_ := Aside0.mk (KeepBut.blk hk (kp_ BK521) NB521_522.out (by simp))
 have n1_ := IsS106.rk HI522 HO528 hk
 have n2_ := IsS106.rk HI522 HO531 hk
 have n3_ := IsS106.rk HI522 HO534 hk
 have n4_ := Aside0.mk (KeepBut.blk hk (kp_ BK537) NB537_522.out (by simp))
 have n5_ := Aside0.mk (hb)
 have n6_ := Aside0.mk (hi)
 clear BK521
 clear HO528
 clear HO531
 clear HO534
 clear BK537
 clear HB
 clear HI522
 have BK521 := n0_
 have HO528 := n1_
 have HO531 := n2_
 have HO534 := n3_
 have BK537 := n4_
 have HB := n5_
 have HI522 := n6_
 clear n0_ n1_ n2_ n3_ n4_ n5_ n6_
 (try clear hb)
 (try clear hb2)
 (try clear hk)
 (try clear hi)
 refine hK.out _ _ ⟨(blk_cell BK537.out 0).trans rfl, (blk_cell BK537.out 1).trans rfl, (blk_cell BK537.out 2).trans rfl, (blk_cell BK537.out 3).trans rfl, (blk_cell BK537.out 4).trans rfl, (blk_cell BK537.out 5).trans rfl⟩ (fun hHeld => ?_)
 clear hK K
 refine norm_ (a' := ?_) ?_ ?_
 rotate_left
 ·show Act.put _ (some 19) _ = _
  simp only [Act.put, List.setIfInBounds_toArray, List.set_cons_zero, List.set_cons_succ, i64_w, i32_w]
  rfl
 refine pl_ HT_ 9 (some 20) (bb 13 1023) (h := ?_)
 refine pl_ HT_ 10 (some 21) (bb 13 2047) (h := ?_)
 refine one_ (i := 11) (N := none) (bb 13 4095) rfl rfl (one_of HT_.out (by kernel_rfl)) (by decide) (fun K hK => ?_)
 have hs19 : w18.cell? ⟨gb521, 0, none⟩ = some (.int .i64 0) := (blk_cell BK521.out 0).trans rfl
 have hfs19 := blk_frozen BK521.out 0
 have hns19_1 := NB537_521.out
 have hms19_1 := NB521_537.out
 have hs20 : w18.cell? ⟨gb521, 1, none⟩ = some (.int .i64 0) := (blk_cell BK521.out 1).trans rfl
 have hfs20 := blk_frozen BK521.out 1
 have hns20_1 := NB537_521.out
 have hms20_1 := NB521_537.out
 have hs21 : w18.cell? ⟨gb521, 2, none⟩ = some (.int .i64 0) := (blk_cell BK521.out 2).trans rfl
 have hfs21 := blk_frozen BK521.out 2
 have hns21_1 := NB537_521.out
 have hms21_1 := NB521_537.out
 have hs22 : w18.cell? ⟨gb521, 3, none⟩ = some (.slice none 0 0) := (blk_cell BK521.out 3).trans rfl
 have hfs22 := blk_frozen BK521.out 3
 have hns22_1 := NB537_521.out
 have hms22_1 := NB521_537.out
 have hs23 : w18.cell? ⟨gb521, 4, none⟩ = some (.slice none 0 0) := (blk_cell BK521.out 4).trans rfl
 have hfs23 := blk_frozen BK521.out 4
 have hns23_1 := NB537_521.out
 have hms23_1 := NB521_537.out
 have hs24 : w18.cell? ⟨gb521, 5, none⟩ = some (.slice none 0 0) := (blk_cell BK521.out 5).trans rfl
 have hfs24 := blk_frozen BK521.out 5
 have hns24_1 := NB537_521.out
 have hms24_1 := NB521_537.out
 refine skip_ (w1 := ?_) (by rfl) rfl ?_ ?_
 rotate_left
 ·go_simp
  rfl
 refine hK.out _ _ ⟨((cell_far (p := ⟨gb521, _, none⟩) NB537_521.out _).trans (((cell_far (p := ⟨gb521, _, none⟩) NB537_521.out _).trans (((cell_far (p := ⟨gb521, _, none⟩) NB537_521.out _).trans (((cell_far (p := ⟨gb521, _, none⟩) NB537_521.out _).trans (((cell_far (p := ⟨gb521, _, none⟩) NB537_521.out _).trans (((cell_far (p := ⟨gb521, _, none⟩) NB537_521.out _).trans (hHeld.1)))))))))))), ((cell_far (p := ⟨gb521, _, none⟩) NB537_521.out _).trans (((cell_far (p := ⟨gb521, _, none⟩) NB537_521.out _).trans (((cell_far (p := ⟨gb521, _, none⟩) NB537_521.out _).trans (((cell_far (p := ⟨gb521, _, none⟩) NB537_521.out _).trans (((cell_far (p := ⟨gb521, _, none⟩) NB537_521.out _).trans (((cell_far (p := ⟨gb521, _, none⟩) NB537_521.out _).trans (hHeld.2.1)))))))))))), ((cell_far (p := ⟨gb521, _, none⟩) NB537_521.out _).trans (((cell_far (p := ⟨gb521, _, none⟩) NB537_521.out _).trans (((cell_far (p := ⟨gb521, _, none⟩) NB537_521.out _).trans (((cell_far (p := ⟨gb521, _, none⟩) NB537_521.out _).trans (((cell_far (p := ⟨gb521, _, none⟩) NB537_521.out _).trans (((cell_far (p := ⟨gb521, _, none⟩) NB537_521.out _).trans (hHeld.2.2.1)))))))))))), ((cell_far (p := ⟨gb521, _, none⟩) NB537_521.out _).trans (((cell_far (p := ⟨gb521, _, none⟩) NB537_521.out _).trans (((cell_far (p := ⟨gb521, _, none⟩) NB537_521.out _).trans (((cell_far (p := ⟨gb521, _, none⟩) NB537_521.out _).trans (((cell_far (p := ⟨gb521, _, none⟩) NB537_521.out _).trans (((cell_far (p := ⟨gb521, _, none⟩) NB537_521.out _).trans (hHeld.2.2.2.1)))))))))))), ((cell_far (p := ⟨gb521, _, none⟩) NB537_521.out _).trans (((cell_far (p := ⟨gb521, _, none⟩) NB537_521.out _).trans (((cell_far (p := ⟨gb521, _, none⟩) NB537_521.out _).trans (((cell_far (p := ⟨gb521, _, none⟩) NB537_521.out _).trans (((cell_far (p := ⟨gb521, _, none⟩) NB537_521.out _).trans (((cell_far (p := ⟨gb521, _, none⟩) NB537_521.out _).trans (hHeld.2.2.2.2.1)))))))))))), ((cell_far (p := ⟨gb521, _, none⟩) NB537_521.out _).trans (((cell_far (p := ⟨gb521, _, none⟩) NB537_521.out _).trans (((cell_far (p := ⟨gb521, _, none⟩) NB537_521.out _).trans (((cell_far (p := ⟨gb521, _, none⟩) NB537_521.out _).trans (((cell_far (p := ⟨gb521, _, none⟩) NB537_521.out _).trans (((cell_far (p := ⟨gb521, _, none⟩) NB537_521.out _).trans (hHeld.2.2.2.2.2))))))))))))⟩ (fun hHeld => ?_)
 clear hK K
 refine pl_ HT_ 12 (some 3) (bb 13 8191) (h := ?_)
 refine done_ (done_of HT_.out (by kernel_rfl)) ?_
 try go_wp2
 refine bodyPost_ret (results_ct rfl _ _ gb521 34 #[.int .i64 t523, .int .i64 t524, .int .i64 t525, .slice Ao12 t526.length co12, .slice Ao13 t529.length co13, .slice Ao14 t532.length co14] (0, 0) _ rfl (kpq_ (kputs BK521 [(0, _), (1, _), (2, _), (3, _), (4, _), (5, _)])) Try.underlying34 rfl (by kernel_rfl)) rfl ?_
 exact ⟨_, _, _, by first | rfl | (simp [errW_none, errW_some] <;> rfl) | (simp [*, errW_none, errW_some] <;> rfl), Kd.R_mono (Kd.R_s HO528 BK521) (fun _ hk => ⟨hk.1, hk.2⟩), Kd.R_mono (Kd.R_s HO531 BK521) (fun _ hk => ⟨hk.1, hk.2⟩), Kd.R_mono (Kd.R_s HO534 BK521) (fun _ hk => ⟨hk.1, hk.2⟩), hbI_ HB (IsS106.ge HI522.out)⟩

/-! ### laws_qPieces: function 46 -/
def laws_qPieces.l0 : Nat → List (S29) → List (S29) → Int → Int → Option (Bool)
 | 0, _, _, _, _ => none
 | k + 1, x0, x1, x12, x13 => if x13 < x12 then (if 0 ≤ x13 then (if x13 < (x0.length : Int) then (if x13 < (x1.length : Int) then (if (!(((rd_T29 x0 x13).f0) == ((rd_T29 x1 x13).f0)) || (!(((rd_T29 x0 x13).f1) == ((rd_T29 x1 x13).f1)) || (!(((rd_T29 x0 x13).f2) == ((rd_T29 x1 x13).f2))))) = true then (some false) else (laws_qPieces.l0 k x0 x1 x12 (wrap64 (x13 + 1)))) else (none)) else (none)) else (none)) else (some true)
def laws_qPieces.f (k : Nat) (l0 : List (S29)) (l1 : List (S29)) : Option (Bool) := if (l0.length : Int) = (l1.length : Int) then (laws_qPieces.l0 k l0 l1 (l0.length : Int) 0) else (some false)
set_option maxHeartbeats 8000000 in
set_option maxRecDepth 100000 in
theorem laws_qPieces.calls (k : Nat) (A0 : Option Addr) (c0 : Nat) (l0 : List (S29)) (A1 : Option Addr) (c1 : Nat) (l1 : List (S29)) (r : Bool) (w : World) (hr0 : Kd.C k29 w A0 l0.length l0) (hc0 : l0.length ≤ c0) (hr1 : Kd.C k29 w A1 l1.length l1) (hc1 : l1.length ≤ c1) (h : laws_qPieces.f k l0 l1 = some r) :
  Calls Try.prog 46 #[.slice A0 l0.length c0, .slice A1 l1.length c1] w fun e w' => e = .returned (.bool r) ∧ Drawn0 w w' := by
 have hu29 := Try.underlying29
 have HR0 := Aside0.mk hr0
 have HC0 := Aside0.mk hc0
 clear hr0 hc0
 have HR1 := Aside0.mk hr1
 have HC1 := Aside0.mk hc1
 clear hr1 hc1
 have H : (if (l0.length : Int) = (l1.length : Int) then (laws_qPieces.l0 k l0 l1 (l0.length : Int) 0) else (some false)) = some r := h
 clear h
 by_cases c3 : (l0.length : Int) = (l1.length : Int)
 ·rw [if_pos c3] at H
  have c3b0 : ((l0.length : Int) == (l1.length : Int)) = true := beq_iff_eq.mpr c3
  have c3b1 : ((l0.length : Int) != (l1.length : Int)) = false := bne_eq_false_iff_eq.mpr c3
  have c3b2 : (l0.length == l1.length) = true := by first | simpa using c3 | (simp at c3 ⊢; omega)
  clear c3
  have H' := Aside0.mk H
  clear H
  go_enter Try.func46, Try.ntmps46
  go_wp2
  repeat (go_quiet (fail); try go_wp2)
  go_loopg [13] k (fun kq v13 w' => ∃ (x13_1 : Int), v13 = .int .i64 x13_1 ∧ Aside0 (laws_qPieces.l0 kq l0 l1 (l0.length : Int) x13_1 = some r) ∧ Aside0 (kq ≤ k) ∧ Drawn0 w w')
  case atStart => exact ⟨(0), (by first | rfl | (simp; done) | (simp [*]; done)), H', ⟨Nat.le_refl _⟩, by repeat (first | exact Drawn0.refl _ | apply Drawn0.step)⟩
  case round =>
   clear H'
   (try clear c1); (try clear p2); (try clear c3); (try clear c3b0); (try clear c3b1); (try clear c3b2)
   obtain ⟨x13_1, rfl, HA, HK1, ⟨m1, rfl⟩⟩ := hrel
   cases gk with
   | zero => exact absurd HA.out (by simp [laws_qPieces.l0])
   | succ k1 =>
    have H := HA.out
    clear HA
    simp only [laws_qPieces.l0] at H
    by_cases c4 : x13_1 < (l0.length : Int)
    ·rw [if_pos c4] at H
     have c4b0 : decide (x13_1 < (l0.length : Int)) = true := decide_eq_true c4
     clear c4
     by_cases c5 : 0 ≤ x13_1
     ·rw [if_pos c5] at H
      have c5b0 : decide (0 ≤ x13_1) = true := decide_eq_true c5
      clear c5
      by_cases c6 : x13_1 < (l0.length : Int)
      ·rw [if_pos c6] at H
       have c6b0 : decide (x13_1 < (l0.length : Int)) = true := decide_eq_true c6
       clear c6
       by_cases c7 : x13_1 < (l1.length : Int)
       ·rw [if_pos c7] at H
        have c7b0 : decide (x13_1 < (l1.length : Int)) = true := decide_eq_true c7
        clear c7
        by_cases c8 : (!(((rd_T29 l0 x13_1).f0) == ((rd_T29 l1 x13_1).f0)) || (!(((rd_T29 l0 x13_1).f1) == ((rd_T29 l1 x13_1).f1)) || (!(((rd_T29 l0 x13_1).f2) == ((rd_T29 l1 x13_1).f2))))) = true
        ·rw [if_pos c8] at H
         have c8b0 : (!(((rd_T29 l0 x13_1).f0) == ((rd_T29 l1 x13_1).f0)) || (!(((rd_T29 l0 x13_1).f1) == ((rd_T29 l1 x13_1).f1)) || (!(((rd_T29 l0 x13_1).f2) == ((rd_T29 l1 x13_1).f2))))) = true := c8
         clear c8
         obtain rfl := Option.some.inj H
         have p544 : 0 ≤ (x13_1 : Int) := of_decide_eq_true (by first | (with_reducible assumption) | assumption)
         have q544 : x13_1 < (l0.length : Int) := of_decide_eq_true (by first | (with_reducible assumption) | assumption)
         obtain ⟨ad544, e544, hx544_0, hx544_1, hx544_2⟩ := at_T29 HR0.out x13_1 p544 q544
         cases e544
         replace p544 := eq_true p544
         replace q544 := eq_true q544
         have p545 : 0 ≤ (x13_1 : Int) := of_decide_eq_true (by first | (with_reducible assumption) | assumption)
         have q545 : x13_1 < (l1.length : Int) := of_decide_eq_true (by first | (with_reducible assumption) | assumption)
         obtain ⟨ad545, e545, hx545_0, hx545_1, hx545_2⟩ := at_T29 HR1.out x13_1 p545 q545
         cases e545
         replace p545 := eq_true p545
         replace q545 := eq_true q545
         go_wp2
         repeat (go_quiet (fail); try go_wp2)
         go_ret
         exact ⟨by first | rfl | (simp; done) | (simp [*]; done), by repeat (first | exact Drawn0.refl _ | apply Drawn0.step)⟩
        ·rw [if_neg c8] at H
         have c8b0 : (!(((rd_T29 l0 x13_1).f0) == ((rd_T29 l1 x13_1).f0)) || (!(((rd_T29 l0 x13_1).f1) == ((rd_T29 l1 x13_1).f1)) || (!(((rd_T29 l0 x13_1).f2) == ((rd_T29 l1 x13_1).f2))))) = false := by simpa using c8
         clear c8
         have H' := Aside0.mk H
         clear H
         have p544 : 0 ≤ (x13_1 : Int) := of_decide_eq_true (by first | (with_reducible assumption) | assumption)
         have q544 : x13_1 < (l0.length : Int) := of_decide_eq_true (by first | (with_reducible assumption) | assumption)
         obtain ⟨ad544, e544, hx544_0, hx544_1, hx544_2⟩ := at_T29 HR0.out x13_1 p544 q544
         cases e544
         replace p544 := eq_true p544
         replace q544 := eq_true q544
         have p545 : 0 ≤ (x13_1 : Int) := of_decide_eq_true (by first | (with_reducible assumption) | assumption)
         have q545 : x13_1 < (l1.length : Int) := of_decide_eq_true (by first | (with_reducible assumption) | assumption)
         obtain ⟨ad545, e545, hx545_0, hx545_1, hx545_2⟩ := at_T29 HR1.out x13_1 p545 q545
         cases e545
         replace p545 := eq_true p545
         replace q545 := eq_true q545
         go_wp2
         repeat (go_quiet (fail); try go_wp2)
         go_roundg k1
         case measure => have := HK1.out; omega
         case rel => exact ⟨(wrap64 (x13_1 + 1)), (by first | rfl | (simp; done) | (simp [*]; done)), H', ⟨by have := HK1.out; omega⟩, by repeat (first | exact Drawn0.refl _ | apply Drawn0.step)⟩
       ·rw [if_neg c7] at H
        exact absurd H (by simp)
      ·rw [if_neg c6] at H
       exact absurd H (by simp)
     ·rw [if_neg c5] at H
      exact absurd H (by simp)
    ·rw [if_neg c4] at H
     have c4b0 : decide (x13_1 < (l0.length : Int)) = false := decide_eq_false c4
     clear c4
     obtain rfl := Option.some.inj H
     go_wp2
     repeat (go_quiet (fail); try go_wp2)
     go_ret
     exact ⟨by first | rfl | (simp; done) | (simp [*]; done), by repeat (first | exact Drawn0.refl _ | apply Drawn0.step)⟩
 ·rw [if_neg c3] at H
  have c3b0 : ((l0.length : Int) == (l1.length : Int)) = false := beq_eq_false_iff_ne.mpr c3
  have c3b1 : ((l0.length : Int) != (l1.length : Int)) = true := bne_iff_ne.mpr c3
  have c3b2 : (l0.length == l1.length) = false := by first | simpa using c3 | (simp at c3 ⊢; omega)
  obtain rfl := Option.some.inj H
  go_enter Try.func46, Try.ntmps46
  go_wp2
  repeat (go_quiet (fail); try go_wp2)
  go_ret
  exact ⟨by first | rfl | (simp; done) | (simp [*]; done), by repeat (first | exact Drawn0.refl _ | apply Drawn0.step)⟩

/-! ### spec_IsPiece: function 48 -/
def spec_IsPiece.f (a0_0 : Int) (a0_1 : Int) (a0_2 : Int) : Option (Bool) := (spec_sbPiece.f a0_0 a0_1 a0_2).bind fun t547 => (some t547)
set_option maxHeartbeats 8000000 in
set_option maxRecDepth 100000 in
theorem spec_IsPiece.calls (a0_0 : Int) (a0_1 : Int) (a0_2 : Int) (r : Bool) (w : World) (h : spec_IsPiece.f a0_0 a0_1 a0_2 = some r) :
  Calls Try.prog 48 #[.agg #[.int .i64 a0_0, .int .i64 a0_1, .int .i64 a0_2]] w fun e w' => e = .returned (.bool r) ∧ Below w.heap.size w w' := by
 have hu29 := Try.underlying29
 have HB := Aside0.mk (Below.refl w.heap.size w)
 have H : ((spec_sbPiece.f a0_0 a0_1 a0_2).bind fun t547 => (some t547)) = some r := h
 clear h
 replace H := Option.bind_eq_some_iff.mp H
 obtain ⟨t547, A20, H⟩ := H
 try dsimp only at H
 have A2 := Aside0.mk A20
 clear A20
 obtain rfl := Option.some.inj H
 go_enter Try.func48, Try.ntmps48
 go_wp2_with (first | ((with_reducible refine gate_dst (N := 1) rfl ?_); refine box_event ?hg (N := 1) ?hd (cs := #[.int .i64 a0_0, .int .i64 a0_1, .int .i64 a0_2]) (t := 29) ?hr ?_; (case hd => rfl); (case hg => rfl); (case hr => first | (go_simp; done) | (go_simp; rfl)); intro gb546 hg w3 hbox hb; have BK546 := Aside0.mk (hbox); have GW546 := gs_ hg HB; have GE546 := gs_ hg HB; replace HB := hbs_ HB hb; clear hb hbox hg; obtain ⟨hcz4_0, hcz4_1, hcz4_2, hfz4_0, hfz4_1, hfz4_2⟩ := bx3 BK546) | ((with_reducible refine gate_callee (f := 66) rfl ?_); refine gl_ (some 4) Try.func66 #[.agg #[.int .i64 a0_0, .int .i64 a0_1, .int .i64 a0_2]] rfl rfl rfl ?_; (with_reducible refine (spec_sbPiece.calls a0_0 a0_1 a0_2 t547 _ A2.out).mono ?_); rintro e w5 ⟨rfl, hb⟩; refine ⟨_, rfl, ?_⟩; replace BK546 := kb_ BK546 hb; replace HB := hbs_ HB hb; (try clear hb); (try clear hb2); (try clear hk); (try clear hi)))
 go_ret
 exact ⟨by first | rfl | (simp [errW_none, errW_some] <;> rfl) | (simp [*, errW_none, errW_some] <;> rfl), hb_ HB⟩

/-! ### impl_MetalOf: function 49 -/
def impl_MetalOf.f (k : Nat) (a0_0 : Int) (a0_1 : Int) (a0_2 : Int) (l0_3 : List Int) (l0_4 : List Int) (l0_5 : List Int) (a1 : Int) : Option (Int × Bool) := (impl_IsModel.f k a0_0 a0_1 a0_2 l0_3 l0_4 l0_5).bind fun t549 => (if t549 = true then (if a1 < 0 then (some (0, false)) else (if a1 ≥ (l0_3.length : Int) then (some (0, false)) else (if 0 ≤ a1 then (if a1 < (l0_3.length : Int) then (if a1 < (l0_4.length : Int) then (some (wrap64 ((rd l0_3 a1) * (rd l0_4 a1)), true)) else (none)) else (none)) else (none)))) else (some (0, false)))
set_option maxHeartbeats 8000000 in
set_option maxRecDepth 100000 in
theorem impl_MetalOf.calls (k : Nat) (a0_0 : Int) (a0_1 : Int) (a0_2 : Int) (A0_3 : Option Addr) (c0_3 : Nat) (l0_3 : List Int) (A0_4 : Option Addr) (c0_4 : Nat) (l0_4 : List Int) (A0_5 : Option Addr) (c0_5 : Nat) (l0_5 : List Int) (a1 : Int) (r1 : Int) (r2 : Bool) (w : World) (hr0_3 : Kd.C (Kd.int .i64) w A0_3 l0_3.length l0_3) (hc0_3 : l0_3.length ≤ c0_3) (hr0_4 : Kd.C (Kd.int .i64) w A0_4 l0_4.length l0_4) (hc0_4 : l0_4.length ≤ c0_4) (hr0_5 : Kd.C (Kd.int .i64) w A0_5 l0_5.length l0_5) (hc0_5 : l0_5.length ≤ c0_5) (h : impl_MetalOf.f k a0_0 a0_1 a0_2 l0_3 l0_4 l0_5 a1 = some (r1, r2)) :
  Calls Try.prog 49 #[.agg #[.int .i64 a0_0, .int .i64 a0_1, .int .i64 a0_2, .slice A0_3 l0_3.length c0_3, .slice A0_4 l0_4.length c0_4, .slice A0_5 l0_5.length c0_5], .int .i64 a1] w fun e w' => e = .returned (.tuple #[.int .i64 r1, .bool r2]) ∧ Below w.heap.size w w' := by
 have hu34 := Try.underlying34
 have HR0_3 := Aside0.mk hr0_3
 have HC0_3 := Aside0.mk hc0_3
 clear hr0_3 hc0_3
 have HR0_4 := Aside0.mk hr0_4
 have HC0_4 := Aside0.mk hc0_4
 clear hr0_4 hc0_4
 have HR0_5 := Aside0.mk hr0_5
 have HC0_5 := Aside0.mk hc0_5
 clear hr0_5 hc0_5
 have HB := Aside0.mk (Below.refl w.heap.size w)
 have H : ((impl_IsModel.f k a0_0 a0_1 a0_2 l0_3 l0_4 l0_5).bind fun t549 => (if t549 = true then (if a1 < 0 then (some (0, false)) else (if a1 ≥ (l0_3.length : Int) then (some (0, false)) else (if 0 ≤ a1 then (if a1 < (l0_3.length : Int) then (if a1 < (l0_4.length : Int) then (some (wrap64 ((rd l0_3 a1) * (rd l0_4 a1)), true)) else (none)) else (none)) else (none)))) else (some (0, false)))) = some (r1, r2) := h
 clear h
 replace H := Option.bind_eq_some_iff.mp H
 obtain ⟨t549, A30, H⟩ := H
 try dsimp only at H
 have A3 := Aside0.mk A30
 clear A30
 by_cases c4 : t549 = true
 ·subst c4
  rw [if_pos rfl] at H
  by_cases c5 : a1 < 0
  ·rw [if_pos c5] at H
   have c5b0 : decide (a1 < 0) = true := decide_eq_true c5
   clear c5
   simp only [Option.some.injEq, Prod.mk.injEq] at H
   obtain ⟨rfl, rfl⟩ := H
   go_enter Try.func49, Try.ntmps49
   go_wp2_with (first | ((with_reducible refine gate_dst (N := 2) rfl ?_); (try (refine gate_guard (by rfl) ?_; dsimp only)); refine box_event ?hg (N := 2) ?hd (cs := #[.int .i64 a0_0, .int .i64 a0_1, .int .i64 a0_2, .slice A0_3 l0_3.length c0_3, .slice A0_4 l0_4.length c0_4, .slice A0_5 l0_5.length c0_5]) (t := 34) ?hr ?_; (case hd => rfl); (case hg => rfl); (case hr => first | (go_simp; done) | (go_simp; rfl)); intro gb548 hg w6 hbox hb; have BK548 := Aside0.mk (hbox); have GW548 := gs_ hg HB; have GE548 := gs_ hg HB; replace HB := hbs_ HB hb; clear hb hbox hg; obtain ⟨hcz7_0, hcz7_1, hcz7_2, hcz7_3, hcz7_4, hcz7_5, hfz7_0, hfz7_1, hfz7_2, hfz7_3, hfz7_4, hfz7_5⟩ := bx6 BK548) | (go_at_call 59; (with_reducible refine (impl_IsModel.calls k a0_0 a0_1 a0_2 _ _ l0_3 _ _ l0_4 _ _ l0_5 true _ ?side1 ?side2 ?side3 ?side4 ?side5 ?side6 A3.out).mono ?_); (case side1 => exact Kd.C_w HR0_3 HB); (case side2 => exact HC0_3.out); (case side3 => exact Kd.C_w HR0_4 HB); (case side4 => exact HC0_4.out); (case side5 => exact Kd.C_w HR0_5 HB); (case side6 => exact HC0_5.out); rintro e w8 ⟨rfl, hb⟩; have n0_ := Aside0.mk (blk_below (kp_ BK548) hb); have n1_ := Aside0.mk (below_step (hb_ HB) hb); clear BK548; clear HB; have BK548 := n0_; have HB := n1_; clear n0_ n1_; (try clear hb); (try clear hb2); (try clear hk); (try clear hi)))
   repeat (go_quiet (first | ((with_reducible refine gate_dst (N := 2) rfl ?_); (try (refine gate_guard (by rfl) ?_; dsimp only)); refine box_event ?hg (N := 2) ?hd (cs := #[.int .i64 a0_0, .int .i64 a0_1, .int .i64 a0_2, .slice A0_3 l0_3.length c0_3, .slice A0_4 l0_4.length c0_4, .slice A0_5 l0_5.length c0_5]) (t := 34) ?hr ?_; (case hd => rfl); (case hg => rfl); (case hr => first | (go_simp; done) | (go_simp; rfl)); intro gb548 hg w6 hbox hb; have BK548 := Aside0.mk (hbox); have GW548 := gs_ hg HB; have GE548 := gs_ hg HB; replace HB := hbs_ HB hb; clear hb hbox hg; obtain ⟨hcz7_0, hcz7_1, hcz7_2, hcz7_3, hcz7_4, hcz7_5, hfz7_0, hfz7_1, hfz7_2, hfz7_3, hfz7_4, hfz7_5⟩ := bx6 BK548) | (go_at_call 59; (with_reducible refine (impl_IsModel.calls k a0_0 a0_1 a0_2 _ _ l0_3 _ _ l0_4 _ _ l0_5 true _ ?side1 ?side2 ?side3 ?side4 ?side5 ?side6 A3.out).mono ?_); (case side1 => exact Kd.C_w HR0_3 HB); (case side2 => exact HC0_3.out); (case side3 => exact Kd.C_w HR0_4 HB); (case side4 => exact HC0_4.out); (case side5 => exact Kd.C_w HR0_5 HB); (case side6 => exact HC0_5.out); rintro e w8 ⟨rfl, hb⟩; have n0_ := Aside0.mk (blk_below (kp_ BK548) hb); have n1_ := Aside0.mk (below_step (hb_ HB) hb); clear BK548; clear HB; have BK548 := n0_; have HB := n1_; clear n0_ n1_; (try clear hb); (try clear hb2); (try clear hk); (try clear hi))); try go_wp2_with (first | ((with_reducible refine gate_dst (N := 2) rfl ?_); (try (refine gate_guard (by rfl) ?_; dsimp only)); refine box_event ?hg (N := 2) ?hd (cs := #[.int .i64 a0_0, .int .i64 a0_1, .int .i64 a0_2, .slice A0_3 l0_3.length c0_3, .slice A0_4 l0_4.length c0_4, .slice A0_5 l0_5.length c0_5]) (t := 34) ?hr ?_; (case hd => rfl); (case hg => rfl); (case hr => first | (go_simp; done) | (go_simp; rfl)); intro gb548 hg w6 hbox hb; have BK548 := Aside0.mk (hbox); have GW548 := gs_ hg HB; have GE548 := gs_ hg HB; replace HB := hbs_ HB hb; clear hb hbox hg; obtain ⟨hcz7_0, hcz7_1, hcz7_2, hcz7_3, hcz7_4, hcz7_5, hfz7_0, hfz7_1, hfz7_2, hfz7_3, hfz7_4, hfz7_5⟩ := bx6 BK548) | (go_at_call 59; (with_reducible refine (impl_IsModel.calls k a0_0 a0_1 a0_2 _ _ l0_3 _ _ l0_4 _ _ l0_5 true _ ?side1 ?side2 ?side3 ?side4 ?side5 ?side6 A3.out).mono ?_); (case side1 => exact Kd.C_w HR0_3 HB); (case side2 => exact HC0_3.out); (case side3 => exact Kd.C_w HR0_4 HB); (case side4 => exact HC0_4.out); (case side5 => exact Kd.C_w HR0_5 HB); (case side6 => exact HC0_5.out); rintro e w8 ⟨rfl, hb⟩; have n0_ := Aside0.mk (blk_below (kp_ BK548) hb); have n1_ := Aside0.mk (below_step (hb_ HB) hb); clear BK548; clear HB; have BK548 := n0_; have HB := n1_; clear n0_ n1_; (try clear hb); (try clear hb2); (try clear hk); (try clear hi))))
   go_ret2
   exact ⟨by first | rfl | (simp [errW_none, errW_some] <;> rfl) | (simp [*, errW_none, errW_some] <;> rfl), hb_ HB⟩
  ·rw [if_neg c5] at H
   have c5b0 : decide (a1 < 0) = false := decide_eq_false c5
   clear c5
   by_cases c9 : a1 ≥ (l0_3.length : Int)
   ·rw [if_pos c9] at H
    have c9b0 : decide ((l0_3.length : Int) ≤ a1) = true := decide_eq_true c9
    clear c9
    simp only [Option.some.injEq, Prod.mk.injEq] at H
    obtain ⟨rfl, rfl⟩ := H
    go_enter Try.func49, Try.ntmps49
    go_wp2_with (first | ((with_reducible refine gate_dst (N := 2) rfl ?_); (try (refine gate_guard (by rfl) ?_; dsimp only)); refine box_event ?hg (N := 2) ?hd (cs := #[.int .i64 a0_0, .int .i64 a0_1, .int .i64 a0_2, .slice A0_3 l0_3.length c0_3, .slice A0_4 l0_4.length c0_4, .slice A0_5 l0_5.length c0_5]) (t := 34) ?hr ?_; (case hd => rfl); (case hg => rfl); (case hr => first | (go_simp; done) | (go_simp; rfl)); intro gb548 hg w10 hbox hb; have BK548 := Aside0.mk (hbox); have GW548 := gs_ hg HB; have GE548 := gs_ hg HB; replace HB := hbs_ HB hb; clear hb hbox hg; obtain ⟨hcz11_0, hcz11_1, hcz11_2, hcz11_3, hcz11_4, hcz11_5, hfz11_0, hfz11_1, hfz11_2, hfz11_3, hfz11_4, hfz11_5⟩ := bx6 BK548) | (go_at_call 59; (with_reducible refine (impl_IsModel.calls k a0_0 a0_1 a0_2 _ _ l0_3 _ _ l0_4 _ _ l0_5 true _ ?side1 ?side2 ?side3 ?side4 ?side5 ?side6 A3.out).mono ?_); (case side1 => exact Kd.C_w HR0_3 HB); (case side2 => exact HC0_3.out); (case side3 => exact Kd.C_w HR0_4 HB); (case side4 => exact HC0_4.out); (case side5 => exact Kd.C_w HR0_5 HB); (case side6 => exact HC0_5.out); rintro e w12 ⟨rfl, hb⟩; have n0_ := Aside0.mk (blk_below (kp_ BK548) hb); have n1_ := Aside0.mk (below_step (hb_ HB) hb); clear BK548; clear HB; have BK548 := n0_; have HB := n1_; clear n0_ n1_; (try clear hb); (try clear hb2); (try clear hk); (try clear hi); have hcz13_0 : w12.cell? ⟨gb548, 0, none⟩ = some (.int .i64 a0_0) := (blk_cell BK548.out 0).trans rfl; have hcz13_1 : w12.cell? ⟨gb548, 1, none⟩ = some (.int .i64 a0_1) := (blk_cell BK548.out 1).trans rfl; have hcz13_2 : w12.cell? ⟨gb548, 2, none⟩ = some (.int .i64 a0_2) := (blk_cell BK548.out 2).trans rfl; have hcz13_3 : w12.cell? ⟨gb548, 3, none⟩ = some (.slice A0_3 l0_3.length c0_3) := (blk_cell BK548.out 3).trans rfl; have hcz13_4 : w12.cell? ⟨gb548, 4, none⟩ = some (.slice A0_4 l0_4.length c0_4) := (blk_cell BK548.out 4).trans rfl; have hcz13_5 : w12.cell? ⟨gb548, 5, none⟩ = some (.slice A0_5 l0_5.length c0_5) := (blk_cell BK548.out 5).trans rfl; have hfz13_0 := blk_frozen BK548.out 0; have hfz13_1 := blk_frozen BK548.out 1; have hfz13_2 := blk_frozen BK548.out 2; have hfz13_3 := blk_frozen BK548.out 3; have hfz13_4 := blk_frozen BK548.out 4; have hfz13_5 := blk_frozen BK548.out 5))
    repeat (go_quiet (first | ((with_reducible refine gate_dst (N := 2) rfl ?_); (try (refine gate_guard (by rfl) ?_; dsimp only)); refine box_event ?hg (N := 2) ?hd (cs := #[.int .i64 a0_0, .int .i64 a0_1, .int .i64 a0_2, .slice A0_3 l0_3.length c0_3, .slice A0_4 l0_4.length c0_4, .slice A0_5 l0_5.length c0_5]) (t := 34) ?hr ?_; (case hd => rfl); (case hg => rfl); (case hr => first | (go_simp; done) | (go_simp; rfl)); intro gb548 hg w10 hbox hb; have BK548 := Aside0.mk (hbox); have GW548 := gs_ hg HB; have GE548 := gs_ hg HB; replace HB := hbs_ HB hb; clear hb hbox hg; obtain ⟨hcz11_0, hcz11_1, hcz11_2, hcz11_3, hcz11_4, hcz11_5, hfz11_0, hfz11_1, hfz11_2, hfz11_3, hfz11_4, hfz11_5⟩ := bx6 BK548) | (go_at_call 59; (with_reducible refine (impl_IsModel.calls k a0_0 a0_1 a0_2 _ _ l0_3 _ _ l0_4 _ _ l0_5 true _ ?side1 ?side2 ?side3 ?side4 ?side5 ?side6 A3.out).mono ?_); (case side1 => exact Kd.C_w HR0_3 HB); (case side2 => exact HC0_3.out); (case side3 => exact Kd.C_w HR0_4 HB); (case side4 => exact HC0_4.out); (case side5 => exact Kd.C_w HR0_5 HB); (case side6 => exact HC0_5.out); rintro e w12 ⟨rfl, hb⟩; have n0_ := Aside0.mk (blk_below (kp_ BK548) hb); have n1_ := Aside0.mk (below_step (hb_ HB) hb); clear BK548; clear HB; have BK548 := n0_; have HB := n1_; clear n0_ n1_; (try clear hb); (try clear hb2); (try clear hk); (try clear hi); have hcz13_0 : w12.cell? ⟨gb548, 0, none⟩ = some (.int .i64 a0_0) := (blk_cell BK548.out 0).trans rfl; have hcz13_1 : w12.cell? ⟨gb548, 1, none⟩ = some (.int .i64 a0_1) := (blk_cell BK548.out 1).trans rfl; have hcz13_2 : w12.cell? ⟨gb548, 2, none⟩ = some (.int .i64 a0_2) := (blk_cell BK548.out 2).trans rfl; have hcz13_3 : w12.cell? ⟨gb548, 3, none⟩ = some (.slice A0_3 l0_3.length c0_3) := (blk_cell BK548.out 3).trans rfl; have hcz13_4 : w12.cell? ⟨gb548, 4, none⟩ = some (.slice A0_4 l0_4.length c0_4) := (blk_cell BK548.out 4).trans rfl; have hcz13_5 : w12.cell? ⟨gb548, 5, none⟩ = some (.slice A0_5 l0_5.length c0_5) := (blk_cell BK548.out 5).trans rfl; have hfz13_0 := blk_frozen BK548.out 0; have hfz13_1 := blk_frozen BK548.out 1; have hfz13_2 := blk_frozen BK548.out 2; have hfz13_3 := blk_frozen BK548.out 3; have hfz13_4 := blk_frozen BK548.out 4; have hfz13_5 := blk_frozen BK548.out 5)); try go_wp2_with (first | ((with_reducible refine gate_dst (N := 2) rfl ?_); (try (refine gate_guard (by rfl) ?_; dsimp only)); refine box_event ?hg (N := 2) ?hd (cs := #[.int .i64 a0_0, .int .i64 a0_1, .int .i64 a0_2, .slice A0_3 l0_3.length c0_3, .slice A0_4 l0_4.length c0_4, .slice A0_5 l0_5.length c0_5]) (t := 34) ?hr ?_; (case hd => rfl); (case hg => rfl); (case hr => first | (go_simp; done) | (go_simp; rfl)); intro gb548 hg w10 hbox hb; have BK548 := Aside0.mk (hbox); have GW548 := gs_ hg HB; have GE548 := gs_ hg HB; replace HB := hbs_ HB hb; clear hb hbox hg; obtain ⟨hcz11_0, hcz11_1, hcz11_2, hcz11_3, hcz11_4, hcz11_5, hfz11_0, hfz11_1, hfz11_2, hfz11_3, hfz11_4, hfz11_5⟩ := bx6 BK548) | (go_at_call 59; (with_reducible refine (impl_IsModel.calls k a0_0 a0_1 a0_2 _ _ l0_3 _ _ l0_4 _ _ l0_5 true _ ?side1 ?side2 ?side3 ?side4 ?side5 ?side6 A3.out).mono ?_); (case side1 => exact Kd.C_w HR0_3 HB); (case side2 => exact HC0_3.out); (case side3 => exact Kd.C_w HR0_4 HB); (case side4 => exact HC0_4.out); (case side5 => exact Kd.C_w HR0_5 HB); (case side6 => exact HC0_5.out); rintro e w12 ⟨rfl, hb⟩; have n0_ := Aside0.mk (blk_below (kp_ BK548) hb); have n1_ := Aside0.mk (below_step (hb_ HB) hb); clear BK548; clear HB; have BK548 := n0_; have HB := n1_; clear n0_ n1_; (try clear hb); (try clear hb2); (try clear hk); (try clear hi); have hcz13_0 : w12.cell? ⟨gb548, 0, none⟩ = some (.int .i64 a0_0) := (blk_cell BK548.out 0).trans rfl; have hcz13_1 : w12.cell? ⟨gb548, 1, none⟩ = some (.int .i64 a0_1) := (blk_cell BK548.out 1).trans rfl; have hcz13_2 : w12.cell? ⟨gb548, 2, none⟩ = some (.int .i64 a0_2) := (blk_cell BK548.out 2).trans rfl; have hcz13_3 : w12.cell? ⟨gb548, 3, none⟩ = some (.slice A0_3 l0_3.length c0_3) := (blk_cell BK548.out 3).trans rfl; have hcz13_4 : w12.cell? ⟨gb548, 4, none⟩ = some (.slice A0_4 l0_4.length c0_4) := (blk_cell BK548.out 4).trans rfl; have hcz13_5 : w12.cell? ⟨gb548, 5, none⟩ = some (.slice A0_5 l0_5.length c0_5) := (blk_cell BK548.out 5).trans rfl; have hfz13_0 := blk_frozen BK548.out 0; have hfz13_1 := blk_frozen BK548.out 1; have hfz13_2 := blk_frozen BK548.out 2; have hfz13_3 := blk_frozen BK548.out 3; have hfz13_4 := blk_frozen BK548.out 4; have hfz13_5 := blk_frozen BK548.out 5)))
    go_ret2
    exact ⟨by first | rfl | (simp [errW_none, errW_some] <;> rfl) | (simp [*, errW_none, errW_some] <;> rfl), hb_ HB⟩
   ·rw [if_neg c9] at H
    have c9b0 : decide ((l0_3.length : Int) ≤ a1) = false := decide_eq_false c9
    clear c9
    by_cases c14 : 0 ≤ a1
    ·rw [if_pos c14] at H
     have c14b0 : decide (0 ≤ a1) = true := decide_eq_true c14
     clear c14
     by_cases c15 : a1 < (l0_3.length : Int)
     ·rw [if_pos c15] at H
      have c15b0 : decide (a1 < (l0_3.length : Int)) = true := decide_eq_true c15
      clear c15
      by_cases c16 : a1 < (l0_4.length : Int)
      ·rw [if_pos c16] at H
       have c16b0 : decide (a1 < (l0_4.length : Int)) = true := decide_eq_true c16
       clear c16
       simp only [Option.some.injEq, Prod.mk.injEq] at H
       obtain ⟨rfl, rfl⟩ := H
       go_enter Try.func49, Try.ntmps49
       go_wp2_with (first | ((with_reducible refine gate_dst (N := 2) rfl ?_); (try (refine gate_guard (by rfl) ?_; dsimp only)); refine box_event ?hg (N := 2) ?hd (cs := #[.int .i64 a0_0, .int .i64 a0_1, .int .i64 a0_2, .slice A0_3 l0_3.length c0_3, .slice A0_4 l0_4.length c0_4, .slice A0_5 l0_5.length c0_5]) (t := 34) ?hr ?_; (case hd => rfl); (case hg => rfl); (case hr => first | (go_simp; done) | (go_simp; rfl)); intro gb548 hg w17 hbox hb; have BK548 := Aside0.mk (hbox); have GW548 := gs_ hg HB; have GE548 := gs_ hg HB; replace HB := hbs_ HB hb; clear hb hbox hg; obtain ⟨hcz18_0, hcz18_1, hcz18_2, hcz18_3, hcz18_4, hcz18_5, hfz18_0, hfz18_1, hfz18_2, hfz18_3, hfz18_4, hfz18_5⟩ := bx6 BK548) | (go_at_call 59; (with_reducible refine (impl_IsModel.calls k a0_0 a0_1 a0_2 _ _ l0_3 _ _ l0_4 _ _ l0_5 true _ ?side1 ?side2 ?side3 ?side4 ?side5 ?side6 A3.out).mono ?_); (case side1 => exact Kd.C_w HR0_3 HB); (case side2 => exact HC0_3.out); (case side3 => exact Kd.C_w HR0_4 HB); (case side4 => exact HC0_4.out); (case side5 => exact Kd.C_w HR0_5 HB); (case side6 => exact HC0_5.out); rintro e w19 ⟨rfl, hb⟩; have n0_ := Aside0.mk (blk_below (kp_ BK548) hb); have n1_ := Aside0.mk (below_step (hb_ HB) hb); clear BK548; clear HB; have BK548 := n0_; have HB := n1_; clear n0_ n1_; (try clear hb); (try clear hb2); (try clear hk); (try clear hi); have hcz20_0 : w19.cell? ⟨gb548, 0, none⟩ = some (.int .i64 a0_0) := (blk_cell BK548.out 0).trans rfl; have hcz20_1 : w19.cell? ⟨gb548, 1, none⟩ = some (.int .i64 a0_1) := (blk_cell BK548.out 1).trans rfl; have hcz20_2 : w19.cell? ⟨gb548, 2, none⟩ = some (.int .i64 a0_2) := (blk_cell BK548.out 2).trans rfl; have hcz20_3 : w19.cell? ⟨gb548, 3, none⟩ = some (.slice A0_3 l0_3.length c0_3) := (blk_cell BK548.out 3).trans rfl; have hcz20_4 : w19.cell? ⟨gb548, 4, none⟩ = some (.slice A0_4 l0_4.length c0_4) := (blk_cell BK548.out 4).trans rfl; have hcz20_5 : w19.cell? ⟨gb548, 5, none⟩ = some (.slice A0_5 l0_5.length c0_5) := (blk_cell BK548.out 5).trans rfl; have hfz20_0 := blk_frozen BK548.out 0; have hfz20_1 := blk_frozen BK548.out 1; have hfz20_2 := blk_frozen BK548.out 2; have hfz20_3 := blk_frozen BK548.out 3; have hfz20_4 := blk_frozen BK548.out 4; have hfz20_5 := blk_frozen BK548.out 5; have p550 : 0 ≤ (a1 : Int) := of_decide_eq_true (by first | (with_reducible assumption) | assumption); have q550 : a1 < (l0_3.length : Int) := of_decide_eq_true (by first | (with_reducible assumption) | assumption); obtain ⟨ad550, e550, hx550_0⟩ := Kd.at_int HR0_3.out a1 p550 q550; cases e550; replace hx550_0 := (HB.out.cell (World.block_lt_of_cell? w _ hx550_0)).trans hx550_0; replace p550 := eq_true p550; replace q550 := eq_true q550; have p551 : 0 ≤ (a1 : Int) := of_decide_eq_true (by first | (with_reducible assumption) | assumption); have q551 : a1 < (l0_4.length : Int) := of_decide_eq_true (by first | (with_reducible assumption) | assumption); obtain ⟨ad551, e551, hx551_0⟩ := Kd.at_int HR0_4.out a1 p551 q551; cases e551; replace hx551_0 := (HB.out.cell (World.block_lt_of_cell? w _ hx551_0)).trans hx551_0; replace p551 := eq_true p551; replace q551 := eq_true q551))
       repeat (go_quiet (first | ((with_reducible refine gate_dst (N := 2) rfl ?_); (try (refine gate_guard (by rfl) ?_; dsimp only)); refine box_event ?hg (N := 2) ?hd (cs := #[.int .i64 a0_0, .int .i64 a0_1, .int .i64 a0_2, .slice A0_3 l0_3.length c0_3, .slice A0_4 l0_4.length c0_4, .slice A0_5 l0_5.length c0_5]) (t := 34) ?hr ?_; (case hd => rfl); (case hg => rfl); (case hr => first | (go_simp; done) | (go_simp; rfl)); intro gb548 hg w17 hbox hb; have BK548 := Aside0.mk (hbox); have GW548 := gs_ hg HB; have GE548 := gs_ hg HB; replace HB := hbs_ HB hb; clear hb hbox hg; obtain ⟨hcz18_0, hcz18_1, hcz18_2, hcz18_3, hcz18_4, hcz18_5, hfz18_0, hfz18_1, hfz18_2, hfz18_3, hfz18_4, hfz18_5⟩ := bx6 BK548) | (go_at_call 59; (with_reducible refine (impl_IsModel.calls k a0_0 a0_1 a0_2 _ _ l0_3 _ _ l0_4 _ _ l0_5 true _ ?side1 ?side2 ?side3 ?side4 ?side5 ?side6 A3.out).mono ?_); (case side1 => exact Kd.C_w HR0_3 HB); (case side2 => exact HC0_3.out); (case side3 => exact Kd.C_w HR0_4 HB); (case side4 => exact HC0_4.out); (case side5 => exact Kd.C_w HR0_5 HB); (case side6 => exact HC0_5.out); rintro e w19 ⟨rfl, hb⟩; have n0_ := Aside0.mk (blk_below (kp_ BK548) hb); have n1_ := Aside0.mk (below_step (hb_ HB) hb); clear BK548; clear HB; have BK548 := n0_; have HB := n1_; clear n0_ n1_; (try clear hb); (try clear hb2); (try clear hk); (try clear hi); have hcz20_0 : w19.cell? ⟨gb548, 0, none⟩ = some (.int .i64 a0_0) := (blk_cell BK548.out 0).trans rfl; have hcz20_1 : w19.cell? ⟨gb548, 1, none⟩ = some (.int .i64 a0_1) := (blk_cell BK548.out 1).trans rfl; have hcz20_2 : w19.cell? ⟨gb548, 2, none⟩ = some (.int .i64 a0_2) := (blk_cell BK548.out 2).trans rfl; have hcz20_3 : w19.cell? ⟨gb548, 3, none⟩ = some (.slice A0_3 l0_3.length c0_3) := (blk_cell BK548.out 3).trans rfl; have hcz20_4 : w19.cell? ⟨gb548, 4, none⟩ = some (.slice A0_4 l0_4.length c0_4) := (blk_cell BK548.out 4).trans rfl; have hcz20_5 : w19.cell? ⟨gb548, 5, none⟩ = some (.slice A0_5 l0_5.length c0_5) := (blk_cell BK548.out 5).trans rfl; have hfz20_0 := blk_frozen BK548.out 0; have hfz20_1 := blk_frozen BK548.out 1; have hfz20_2 := blk_frozen BK548.out 2; have hfz20_3 := blk_frozen BK548.out 3; have hfz20_4 := blk_frozen BK548.out 4; have hfz20_5 := blk_frozen BK548.out 5; have p550 : 0 ≤ (a1 : Int) := of_decide_eq_true (by first | (with_reducible assumption) | assumption); have q550 : a1 < (l0_3.length : Int) := of_decide_eq_true (by first | (with_reducible assumption) | assumption); obtain ⟨ad550, e550, hx550_0⟩ := Kd.at_int HR0_3.out a1 p550 q550; cases e550; replace hx550_0 := (HB.out.cell (World.block_lt_of_cell? w _ hx550_0)).trans hx550_0; replace p550 := eq_true p550; replace q550 := eq_true q550; have p551 : 0 ≤ (a1 : Int) := of_decide_eq_true (by first | (with_reducible assumption) | assumption); have q551 : a1 < (l0_4.length : Int) := of_decide_eq_true (by first | (with_reducible assumption) | assumption); obtain ⟨ad551, e551, hx551_0⟩ := Kd.at_int HR0_4.out a1 p551 q551; cases e551; replace hx551_0 := (HB.out.cell (World.block_lt_of_cell? w _ hx551_0)).trans hx551_0; replace p551 := eq_true p551; replace q551 := eq_true q551)); try go_wp2_with (first | ((with_reducible refine gate_dst (N := 2) rfl ?_); (try (refine gate_guard (by rfl) ?_; dsimp only)); refine box_event ?hg (N := 2) ?hd (cs := #[.int .i64 a0_0, .int .i64 a0_1, .int .i64 a0_2, .slice A0_3 l0_3.length c0_3, .slice A0_4 l0_4.length c0_4, .slice A0_5 l0_5.length c0_5]) (t := 34) ?hr ?_; (case hd => rfl); (case hg => rfl); (case hr => first | (go_simp; done) | (go_simp; rfl)); intro gb548 hg w17 hbox hb; have BK548 := Aside0.mk (hbox); have GW548 := gs_ hg HB; have GE548 := gs_ hg HB; replace HB := hbs_ HB hb; clear hb hbox hg; obtain ⟨hcz18_0, hcz18_1, hcz18_2, hcz18_3, hcz18_4, hcz18_5, hfz18_0, hfz18_1, hfz18_2, hfz18_3, hfz18_4, hfz18_5⟩ := bx6 BK548) | (go_at_call 59; (with_reducible refine (impl_IsModel.calls k a0_0 a0_1 a0_2 _ _ l0_3 _ _ l0_4 _ _ l0_5 true _ ?side1 ?side2 ?side3 ?side4 ?side5 ?side6 A3.out).mono ?_); (case side1 => exact Kd.C_w HR0_3 HB); (case side2 => exact HC0_3.out); (case side3 => exact Kd.C_w HR0_4 HB); (case side4 => exact HC0_4.out); (case side5 => exact Kd.C_w HR0_5 HB); (case side6 => exact HC0_5.out); rintro e w19 ⟨rfl, hb⟩; have n0_ := Aside0.mk (blk_below (kp_ BK548) hb); have n1_ := Aside0.mk (below_step (hb_ HB) hb); clear BK548; clear HB; have BK548 := n0_; have HB := n1_; clear n0_ n1_; (try clear hb); (try clear hb2); (try clear hk); (try clear hi); have hcz20_0 : w19.cell? ⟨gb548, 0, none⟩ = some (.int .i64 a0_0) := (blk_cell BK548.out 0).trans rfl; have hcz20_1 : w19.cell? ⟨gb548, 1, none⟩ = some (.int .i64 a0_1) := (blk_cell BK548.out 1).trans rfl; have hcz20_2 : w19.cell? ⟨gb548, 2, none⟩ = some (.int .i64 a0_2) := (blk_cell BK548.out 2).trans rfl; have hcz20_3 : w19.cell? ⟨gb548, 3, none⟩ = some (.slice A0_3 l0_3.length c0_3) := (blk_cell BK548.out 3).trans rfl; have hcz20_4 : w19.cell? ⟨gb548, 4, none⟩ = some (.slice A0_4 l0_4.length c0_4) := (blk_cell BK548.out 4).trans rfl; have hcz20_5 : w19.cell? ⟨gb548, 5, none⟩ = some (.slice A0_5 l0_5.length c0_5) := (blk_cell BK548.out 5).trans rfl; have hfz20_0 := blk_frozen BK548.out 0; have hfz20_1 := blk_frozen BK548.out 1; have hfz20_2 := blk_frozen BK548.out 2; have hfz20_3 := blk_frozen BK548.out 3; have hfz20_4 := blk_frozen BK548.out 4; have hfz20_5 := blk_frozen BK548.out 5; have p550 : 0 ≤ (a1 : Int) := of_decide_eq_true (by first | (with_reducible assumption) | assumption); have q550 : a1 < (l0_3.length : Int) := of_decide_eq_true (by first | (with_reducible assumption) | assumption); obtain ⟨ad550, e550, hx550_0⟩ := Kd.at_int HR0_3.out a1 p550 q550; cases e550; replace hx550_0 := (HB.out.cell (World.block_lt_of_cell? w _ hx550_0)).trans hx550_0; replace p550 := eq_true p550; replace q550 := eq_true q550; have p551 : 0 ≤ (a1 : Int) := of_decide_eq_true (by first | (with_reducible assumption) | assumption); have q551 : a1 < (l0_4.length : Int) := of_decide_eq_true (by first | (with_reducible assumption) | assumption); obtain ⟨ad551, e551, hx551_0⟩ := Kd.at_int HR0_4.out a1 p551 q551; cases e551; replace hx551_0 := (HB.out.cell (World.block_lt_of_cell? w _ hx551_0)).trans hx551_0; replace p551 := eq_true p551; replace q551 := eq_true q551)))
       go_ret2
       exact ⟨by first | rfl | (simp [errW_none, errW_some] <;> rfl) | (simp [*, errW_none, errW_some] <;> rfl), hb_ HB⟩
      ·rw [if_neg c16] at H
       exact absurd H (by simp)
     ·rw [if_neg c15] at H
      exact absurd H (by simp)
    ·rw [if_neg c14] at H
     exact absurd H (by simp)
 ·replace c4 := Bool.eq_false_iff.mpr c4
  subst c4
  rw [if_neg (show ¬ (false = true) by decide)] at H
  simp only [Option.some.injEq, Prod.mk.injEq] at H
  obtain ⟨rfl, rfl⟩ := H
  go_enter Try.func49, Try.ntmps49
  go_wp2_with (first | ((with_reducible refine gate_dst (N := 2) rfl ?_); (try (refine gate_guard (by rfl) ?_; dsimp only)); refine box_event ?hg (N := 2) ?hd (cs := #[.int .i64 a0_0, .int .i64 a0_1, .int .i64 a0_2, .slice A0_3 l0_3.length c0_3, .slice A0_4 l0_4.length c0_4, .slice A0_5 l0_5.length c0_5]) (t := 34) ?hr ?_; (case hd => rfl); (case hg => rfl); (case hr => first | (go_simp; done) | (go_simp; rfl)); intro gb548 hg w21 hbox hb; have BK548 := Aside0.mk (hbox); have GW548 := gs_ hg HB; have GE548 := gs_ hg HB; replace HB := hbs_ HB hb; clear hb hbox hg; obtain ⟨hcz22_0, hcz22_1, hcz22_2, hcz22_3, hcz22_4, hcz22_5, hfz22_0, hfz22_1, hfz22_2, hfz22_3, hfz22_4, hfz22_5⟩ := bx6 BK548) | (go_at_call 59; (with_reducible refine (impl_IsModel.calls k a0_0 a0_1 a0_2 _ _ l0_3 _ _ l0_4 _ _ l0_5 false _ ?side1 ?side2 ?side3 ?side4 ?side5 ?side6 A3.out).mono ?_); (case side1 => exact Kd.C_w HR0_3 HB); (case side2 => exact HC0_3.out); (case side3 => exact Kd.C_w HR0_4 HB); (case side4 => exact HC0_4.out); (case side5 => exact Kd.C_w HR0_5 HB); (case side6 => exact HC0_5.out); rintro e w23 ⟨rfl, hb⟩; have n0_ := Aside0.mk (blk_below (kp_ BK548) hb); have n1_ := Aside0.mk (below_step (hb_ HB) hb); clear BK548; clear HB; have BK548 := n0_; have HB := n1_; clear n0_ n1_; (try clear hb); (try clear hb2); (try clear hk); (try clear hi)))
  repeat (go_quiet (first | ((with_reducible refine gate_dst (N := 2) rfl ?_); (try (refine gate_guard (by rfl) ?_; dsimp only)); refine box_event ?hg (N := 2) ?hd (cs := #[.int .i64 a0_0, .int .i64 a0_1, .int .i64 a0_2, .slice A0_3 l0_3.length c0_3, .slice A0_4 l0_4.length c0_4, .slice A0_5 l0_5.length c0_5]) (t := 34) ?hr ?_; (case hd => rfl); (case hg => rfl); (case hr => first | (go_simp; done) | (go_simp; rfl)); intro gb548 hg w21 hbox hb; have BK548 := Aside0.mk (hbox); have GW548 := gs_ hg HB; have GE548 := gs_ hg HB; replace HB := hbs_ HB hb; clear hb hbox hg; obtain ⟨hcz22_0, hcz22_1, hcz22_2, hcz22_3, hcz22_4, hcz22_5, hfz22_0, hfz22_1, hfz22_2, hfz22_3, hfz22_4, hfz22_5⟩ := bx6 BK548) | (go_at_call 59; (with_reducible refine (impl_IsModel.calls k a0_0 a0_1 a0_2 _ _ l0_3 _ _ l0_4 _ _ l0_5 false _ ?side1 ?side2 ?side3 ?side4 ?side5 ?side6 A3.out).mono ?_); (case side1 => exact Kd.C_w HR0_3 HB); (case side2 => exact HC0_3.out); (case side3 => exact Kd.C_w HR0_4 HB); (case side4 => exact HC0_4.out); (case side5 => exact Kd.C_w HR0_5 HB); (case side6 => exact HC0_5.out); rintro e w23 ⟨rfl, hb⟩; have n0_ := Aside0.mk (blk_below (kp_ BK548) hb); have n1_ := Aside0.mk (below_step (hb_ HB) hb); clear BK548; clear HB; have BK548 := n0_; have HB := n1_; clear n0_ n1_; (try clear hb); (try clear hb2); (try clear hk); (try clear hi))); try go_wp2_with (first | ((with_reducible refine gate_dst (N := 2) rfl ?_); (try (refine gate_guard (by rfl) ?_; dsimp only)); refine box_event ?hg (N := 2) ?hd (cs := #[.int .i64 a0_0, .int .i64 a0_1, .int .i64 a0_2, .slice A0_3 l0_3.length c0_3, .slice A0_4 l0_4.length c0_4, .slice A0_5 l0_5.length c0_5]) (t := 34) ?hr ?_; (case hd => rfl); (case hg => rfl); (case hr => first | (go_simp; done) | (go_simp; rfl)); intro gb548 hg w21 hbox hb; have BK548 := Aside0.mk (hbox); have GW548 := gs_ hg HB; have GE548 := gs_ hg HB; replace HB := hbs_ HB hb; clear hb hbox hg; obtain ⟨hcz22_0, hcz22_1, hcz22_2, hcz22_3, hcz22_4, hcz22_5, hfz22_0, hfz22_1, hfz22_2, hfz22_3, hfz22_4, hfz22_5⟩ := bx6 BK548) | (go_at_call 59; (with_reducible refine (impl_IsModel.calls k a0_0 a0_1 a0_2 _ _ l0_3 _ _ l0_4 _ _ l0_5 false _ ?side1 ?side2 ?side3 ?side4 ?side5 ?side6 A3.out).mono ?_); (case side1 => exact Kd.C_w HR0_3 HB); (case side2 => exact HC0_3.out); (case side3 => exact Kd.C_w HR0_4 HB); (case side4 => exact HC0_4.out); (case side5 => exact Kd.C_w HR0_5 HB); (case side6 => exact HC0_5.out); rintro e w23 ⟨rfl, hb⟩; have n0_ := Aside0.mk (blk_below (kp_ BK548) hb); have n1_ := Aside0.mk (below_step (hb_ HB) hb); clear BK548; clear HB; have BK548 := n0_; have HB := n1_; clear n0_ n1_; (try clear hb); (try clear hb2); (try clear hk); (try clear hi))))
  go_ret2
  exact ⟨by first | rfl | (simp [errW_none, errW_some] <;> rfl) | (simp [*, errW_none, errW_some] <;> rfl), hb_ HB⟩

end Go.Proofs.Ytceajigggcihnaa.PFnPieces
