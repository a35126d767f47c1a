-- Laid for this claim by wip/tools/print2.sh, a changed copy of the kit's print (wip/tools/patch_print.py): not by print.sh.
import Derived.Test.YtdfjlelbkkaloaaPFnGradesx0
import Derived.Test.YtdfjlelbkkaloaaPFnGradesx1
import Derived.Test.YtdfjlelbkkaloaaPFnGradesx2
import Derived.Test.YtdfjlelbkkaloaaPFnGradesx3
import Derived.Test.YtdfjlelbkkaloaaPFnGradesx5
import Derived.Test.YtdfjlelbkkaloaaPFnGradesx8
import Derived.Test.YtdfjlelbkkaloaaPFnGradesx10
import Derived.Test.YtdfjlelbkkaloaaPFnGradesx11
import Derived.Test.YtdfjlelbkkaloaaPFnGradesx12
namespace Go.Proofs.Ytdfjlelbkkaloaa.PFnGrades
open Go.RowKit Go.Proofs.YtdfjlelbkkaloaaW.PrintWords Go.Proofs.YtdfjlelbkkaloaaW.PrintLast Go.Proofs.YtdfjlelbkkaloaaW.PrintMore
attribute [local go_sem] max2_int min2_int max_two min_two max_three min_three max_four min_four   -- for this text's walks alone
set_option linter.unusedVariables false
set_option linter.unusedSimpArgs false

attribute [local go_sem high] eqA28
/-! ### spec_DrawMetalOf: function 34 -/
def spec_DrawMetalOf.f (k : Nat) (l0 : List Int) : Option (Int × Int × Int × List Int × List Int × List Int × Int) := (spec_l1Cur_anyModel.f k l0 0 0).bind fun bt561 => ((spec_l1Cur_block.f l0 bt561.2.2.2.2.2.2.1 bt561.2.2.2.2.2.2.2 bt561.1 bt561.2.1 bt561.2.2.1).bind fun bt576 => (some (bt561.1, bt561.2.1, bt561.2.2.1, bt561.2.2.2.1, bt561.2.2.2.2.1, bt561.2.2.2.2.2.1, bt576.1)))
set_option maxHeartbeats 8000000 in
set_option maxRecDepth 100000 in
theorem spec_DrawMetalOf.calls (k : Nat) (A0 : Option Addr) (c0 : Nat) (l0 : List Int) (r1 : Int) (r2 : Int) (r3 : Int) (r4 : List Int) (r5 : List Int) (r6 : List Int) (r7 : Int) (w : World) (hr0 : Kd.C (Kd.int .u8) w A0 l0.length l0) (hc0 : l0.length ≤ c0) (h : spec_DrawMetalOf.f k l0 = some (r1, r2, r3, r4, r5, r6, r7)) :
  Calls Try.prog 34 #[.slice A0 l0.length c0] w fun e w' => ∃ v3_ v4_ v5_ : Value, e = .returned (.tuple #[.agg #[.int .i64 r1, .int .i64 r2, .int .i64 r3, v3_, v4_, v5_], .int .i64 r7]) ∧ Kd.R (Kd.int .i64) 3 w' w.heap.size (fun k_ => some k_ ≠ (v4_ : Value).ownBlock ∧ some k_ ≠ (v5_ : Value).ownBlock) v3_ r4 ∧ Kd.R (Kd.int .i64) 3 w' w.heap.size (fun k_ => some k_ ≠ (v3_ : Value).ownBlock ∧ some k_ ≠ (v5_ : Value).ownBlock) v4_ r5 ∧ Kd.R (Kd.int .i64) 3 w' w.heap.size (fun k_ => some k_ ≠ (v3_ : Value).ownBlock ∧ some k_ ≠ (v4_ : Value).ownBlock) v5_ r6 ∧ Below w.heap.size w w' := by
 have hu30 := Try.underlying30
 have hu76 := Try.underlying76
 have hu28 := Try.underlying28
 have HR0 := Aside0.mk hr0
 have HC0 := Aside0.mk hc0
 clear hr0 hc0
 have HB := Aside0.mk (Below.refl w.heap.size w)
 have H : ((spec_l1Cur_anyModel.f k l0 0 0).bind fun bt561 => ((spec_l1Cur_block.f l0 bt561.2.2.2.2.2.2.1 bt561.2.2.2.2.2.2.2 bt561.1 bt561.2.1 bt561.2.2.1).bind fun bt576 => (some (bt561.1, bt561.2.1, bt561.2.2.1, bt561.2.2.2.1, bt561.2.2.2.2.1, bt561.2.2.2.2.2.1, bt576.1)))) = some (r1, r2, r3, r4, r5, r6, r7) := h
 clear h
 replace H := Option.bind_eq_some_iff.mp H
 obtain ⟨⟨t561, t562, t563, t564, t567, t570, t573, t574⟩, A20, H⟩ := H
 replace H : ((spec_l1Cur_block.f l0 t573 t574 t561 t562 t563).bind fun bt576 => (some (t561, t562, t563, t564, t567, t570, bt576.1))) = some (r1, r2, r3, r4, r5, r6, r7) := H
 have A2 := Aside0.mk A20
 clear A20
 replace H := Option.bind_eq_some_iff.mp H
 obtain ⟨⟨t576, t577, t578⟩, A30, H⟩ := H
 replace H : (some (t561, t562, t563, t564, t567, t570, t576)) = some (r1, r2, r3, r4, r5, r6, r7) := H
 have A3 := Aside0.mk A30
 clear A30
 simp only [Option.some.injEq, Prod.mk.injEq] at H
 obtain ⟨rfl, rfl, rfl, rfl, rfl, rfl, rfl⟩ := H
 go_enter Try.func34, Try.ntmps34
 try go_wp2_with (first | ((with_reducible refine gate_dst (N := 2) rfl ?_); refine box_event ?hg (N := 2) ?hd (cs := #[.int .i64 0, .int .i64 0, .int .i64 0, .slice none 0 0, .slice none 0 0, .slice none 0 0]) (t := 30) ?hr ?_; (case hd => rfl); (case hg => rfl); (case hr => first | (go_simp; done) | (go_simp; rfl)); intro gb559 hg w4 hbox hb; have BK559 := Aside0.mk (hbox); have GW559 := gs_ hg HB; have GE559 := gs_ hg HB; replace HB := hbs_ HB hb; clear hb hbox hg) | ((with_reducible refine gate_dst (N := 8) rfl ?_); refine box_event ?hg (N := 8) ?hd (cs := #[.slice A0 l0.length c0, .int .i64 0, .int .u64 0]) (t := 76) ?hr ?_; (case hd => rfl); (case hg => rfl); (case hr => first | (go_simp; done) | (go_simp; rfl)); intro gb560 hg w5 hbox hb; have HI560 := Aside0.mk ((show IsS76 w w5 gb560 l0 0 0 from ⟨A0, c0, hbox, (by rw [hg]; exact (below_size (hb_ HB))), HR0.out⟩)); have GW560 := gs_ hg HB; have GE560 := gs_ hg HB; have NB559_560 := nl_ hg BK559; have NB560_559 := ng_ hg BK559; replace BK559 := kb_ BK559 hb; replace HB := hbs_ HB hb; clear hb hbox hg) | ((with_reducible refine gate_callee (f := 56) rfl ?_); refine gl_ (some 10) Try.func56 #[.pointer (some ⟨gb560, 0, none⟩)] rfl rfl rfl ?_; (with_reducible refine (spec_l1Cur_anyModel.calls k gb560 l0 0 0 t561 t562 t563 t564 t567 t570 t573 t574 w _ ?side1 ?side2 A2.out).mono ?_); (case side1 => exact IsS76.q HI560); (case side2 => exact hbI_ HB (IsS76.ge HI560.out)); rintro e w6 ⟨v565, v568, v571, rfl, ho0, ho1, ho2, hi, hb, hk⟩; refine ⟨_, rfl, ?_⟩; have HO566 := Aside0.mk (Kd.R_lower ho0 (below_size (hbI_ HB (IsS76.ge HI560.out)))); have HO569 := Aside0.mk (Kd.R_lower ho1 (below_size (hbI_ HB (IsS76.ge HI560.out)))); have HO572 := Aside0.mk (Kd.R_lower ho2 (below_size (hbI_ HB (IsS76.ge HI560.out)))); replace BK559 := kk_ BK559 hk NB559_560; replace HB := Aside0.mk (hb); replace HI560 := Aside0.mk (hi); (try clear hb); (try clear hb2); (try clear hk); (try clear hi); (try clear ho0); (try clear ho1); (try clear ho2)) | ((with_reducible refine gate_dst (N := 5) rfl ?_); refine box_event ?hg (N := 5) ?hd (cs := #[.int .i64 0, .int .i64 0, .int .i64 0, .slice none 0 0, .slice none 0 0, .slice none 0 0]) (t := 30) ?hr ?_; (case hd => rfl); (case hg => rfl); (case hr => first | (go_simp; done) | (go_simp; rfl)); intro gb575 hg w7 hbox hb; have BK575 := Aside0.mk (hbox); have GW575 := Aside0.mk ((by rw [hg]; exact (below_size (hbI_ HB (IsS76.ge HI560.out))) : w.heap.size ≤ gb575)); have GE575 := Aside0.mk ((by rw [hg]; exact (below_size (hbI_ HB (IsS76.ge HI560.out))) : w.heap.size ≤ gb575)); have NB559_575 := nl_ hg BK559; have NB575_559 := ng_ hg BK559; have NB560_575 := Aside0.mk ((by rw [hg]; exact Nat.ne_of_lt (IsS76.lt (show IsS76 w _ gb560 l0 t573 t574 from IsS76.q HI560)) : gb560 ≠ gb575)); have NB575_560 := Aside0.mk ((by rw [hg]; exact Nat.ne_of_gt (IsS76.lt (show IsS76 w _ gb560 l0 t573 t574 from IsS76.q HI560)) : gb575 ≠ gb560)); replace HO566 := Kd.R_b HO566 hb; replace HO569 := Kd.R_b HO569 hb; replace HO572 := Kd.R_b HO572 hb; replace BK559 := kb_ BK559 hb; replace HB := Aside0.mk (below_step (hbI_ HB (IsS76.ge HI560.out)) hb); replace HI560 := IsS76.b HI560 hb; clear hb hbox hg; have hnb8 := NB575_559.out; have hnc8 := NB559_575.out; have hnb9 := NB575_560.out; have hnc9 := NB560_575.out; obtain ⟨hcz10_0, hcz10_1, hcz10_2, hcz10_3, hcz10_4, hcz10_5, hfz10_0, hfz10_1, hfz10_2, hfz10_3, hfz10_4, hfz10_5⟩ := bx6 BK575; obtain ⟨Ao11, co11, eo11⟩ := Kd.R_slice HO566.out; subst eo11; obtain ⟨Ao12, co12, eo12⟩ := Kd.R_slice HO569.out; subst eo12; obtain ⟨Ao13, co13, eo13⟩ := Kd.R_slice HO572.out; subst eo13))
 have n0_ : Aside0 (Kd.R (Kd.int .i64) 3 ((((((w7.setCell ⟨gb575, 0, none⟩ (.int .i64 t561)).setCell ⟨gb575, 1, none⟩ (.int .i64 t562)).setCell ⟨gb575, 2, none⟩ (.int .i64 t563)).setCell ⟨gb575, 3, none⟩ (.slice Ao11 t564.length co11)).setCell ⟨gb575, 4, none⟩ (.slice Ao12 t567.length co12)).setCell ⟨gb575, 5, none⟩ (.slice Ao13 t570.length co13)) w.heap.size (fun k_ => some k_ ≠ (.slice Ao12 t567.length co12 : Value).ownBlock ∧ some k_ ≠ (.slice Ao13 t570.length co13 : Value).ownBlock) (.slice Ao11 t564.length co11) t564) := ⟨Kd.R_mono (Kd.R_s HO566 BK575) (fun _ hk => ⟨hk.1, hk.2⟩)⟩
 have n1_ : Aside0 (Kd.R (Kd.int .i64) 3 ((((((w7.setCell ⟨gb575, 0, none⟩ (.int .i64 t561)).setCell ⟨gb575, 1, none⟩ (.int .i64 t562)).setCell ⟨gb575, 2, none⟩ (.int .i64 t563)).setCell ⟨gb575, 3, none⟩ (.slice Ao11 t564.length co11)).setCell ⟨gb575, 4, none⟩ (.slice Ao12 t567.length co12)).setCell ⟨gb575, 5, none⟩ (.slice Ao13 t570.length co13)) w.heap.size (fun k_ => some k_ ≠ (.slice Ao11 t564.length co11 : Value).ownBlock ∧ some k_ ≠ (.slice Ao13 t570.length co13 : Value).ownBlock) (.slice Ao12 t567.length co12) t567) := ⟨Kd.R_mono (Kd.R_s HO569 BK575) (fun _ hk => ⟨hk.1, hk.2⟩)⟩
 have n2_ : Aside0 (Kd.R (Kd.int .i64) 3 ((((((w7.setCell ⟨gb575, 0, none⟩ (.int .i64 t561)).setCell ⟨gb575, 1, none⟩ (.int .i64 t562)).setCell ⟨gb575, 2, none⟩ (.int .i64 t563)).setCell ⟨gb575, 3, none⟩ (.slice Ao11 t564.length co11)).setCell ⟨gb575, 4, none⟩ (.slice Ao12 t567.length co12)).setCell ⟨gb575, 5, none⟩ (.slice Ao13 t570.length co13)) w.heap.size (fun k_ => some k_ ≠ (.slice Ao11 t564.length co11 : Value).ownBlock ∧ some k_ ≠ (.slice Ao12 t567.length co12 : Value).ownBlock) (.slice Ao13 t570.length co13) t570) := ⟨Kd.R_mono (Kd.R_s HO572 BK575) (fun _ hk => ⟨hk.1, hk.2⟩)⟩
 have n3_ : Aside0 (((((((w7.setCell ⟨gb575, 0, none⟩ (.int .i64 t561)).setCell ⟨gb575, 1, none⟩ (.int .i64 t562)).setCell ⟨gb575, 2, none⟩ (.int .i64 t563)).setCell ⟨gb575, 3, none⟩ (.slice Ao11 t564.length co11)).setCell ⟨gb575, 4, none⟩ (.slice Ao12 t567.length co12)).setCell ⟨gb575, 5, none⟩ (.slice Ao13 t570.length co13)).heap[gb559]? = some (.cells #[.int .i64 0, .int .i64 0, .int .i64 0, .slice none 0 0, .slice none 0 0, .slice none 0 0] 30 (0, 0))) := ⟨kf_ BK559 NB559_575⟩
 have n4_ : Aside0 (((((((w7.setCell ⟨gb575, 0, none⟩ (.int .i64 t561)).setCell ⟨gb575, 1, none⟩ (.int .i64 t562)).setCell ⟨gb575, 2, none⟩ (.int .i64 t563)).setCell ⟨gb575, 3, none⟩ (.slice Ao11 t564.length co11)).setCell ⟨gb575, 4, none⟩ (.slice Ao12 t567.length co12)).setCell ⟨gb575, 5, none⟩ (.slice Ao13 t570.length co13)).heap[gb575]? = some (.cells #[.int .i64 t561, .int .i64 t562, .int .i64 t563, .slice Ao11 t564.length co11, .slice Ao12 t567.length co12, .slice Ao13 t570.length co13] 30 (0, 0))) := ⟨kpq_ (kputs BK575 [(0, _), (1, _), (2, _), (3, _), (4, _), (5, _)])⟩
 have n5_ : Aside0 (IsS76 w ((((((w7.setCell ⟨gb575, 0, none⟩ (.int .i64 t561)).setCell ⟨gb575, 1, none⟩ (.int .i64 t562)).setCell ⟨gb575, 2, none⟩ (.int .i64 t563)).setCell ⟨gb575, 3, none⟩ (.slice Ao11 t564.length co11)).setCell ⟨gb575, 4, none⟩ (.slice Ao12 t567.length co12)).setCell ⟨gb575, 5, none⟩ (.slice Ao13 t570.length co13)) gb560 l0 t573 t574) := ⟨IsS76.q HI560⟩
 have n6_ : Aside0 (Below w.heap.size w ((((((w7.setCell ⟨gb575, 0, none⟩ (.int .i64 t561)).setCell ⟨gb575, 1, none⟩ (.int .i64 t562)).setCell ⟨gb575, 2, none⟩ (.int .i64 t563)).setCell ⟨gb575, 3, none⟩ (.slice Ao11 t564.length co11)).setCell ⟨gb575, 4, none⟩ (.slice Ao12 t567.length co12)).setCell ⟨gb575, 5, none⟩ (.slice Ao13 t570.length co13))) := ⟨hbI_ HB (IsS76.ge HI560.out)⟩
 (try clear HO566)
 (try clear HO569)
 (try clear HO572)
 (try clear BK559)
 (try clear BK575)
 (try clear HI560)
 (try clear HB)
 generalize ((((((w7.setCell ⟨gb575, 0, none⟩ (.int .i64 t561)).setCell ⟨gb575, 1, none⟩ (.int .i64 t562)).setCell ⟨gb575, 2, none⟩ (.int .i64 t563)).setCell ⟨gb575, 3, none⟩ (.slice Ao11 t564.length co11)).setCell ⟨gb575, 4, none⟩ (.slice Ao12 t567.length co12)).setCell ⟨gb575, 5, none⟩ (.slice Ao13 t570.length co13)) = w14 at n0_ n1_ n2_ n3_ n4_ n5_ n6_ ⊢
 have HO566 := n0_
 have HO569 := n1_
 have HO572 := n2_
 have BK559 := n3_
 have BK575 := n4_
 have HI560 := n5_
 have HB := n6_
 clear n0_ n1_ n2_ n3_ n4_ n5_ n6_
 have n0_ := Aside0.mk (Kd.R_drew HO566.out)
 have n1_ := Aside0.mk (Kd.R_drew HO569.out)
 have n2_ := Aside0.mk (Kd.R_drew HO572.out)
 have n3_ := Aside0.mk (blk_drew BK559.out)
 have n4_ := Aside0.mk (blk_drew BK575.out)
 have n5_ := Aside0.mk (IsS76.drew HI560.out)
 have n6_ := Aside0.mk (below_drew1 HB.out)
 clear HO566
 clear HO569
 clear HO572
 clear BK559
 clear BK575
 clear HI560
 clear HB
 have HO566 := n0_
 have HO569 := n1_
 have HO572 := n2_
 have BK559 := n3_
 have BK575 := n4_
 have HI560 := n5_
 have HB := n6_
 clear n0_ n1_ n2_ n3_ n4_ n5_ n6_
 refine start_ (n := 7) (S := fun w' => w'.cell? ⟨gb575, 0, none⟩ = some (.int .i64 t561) ∧ w'.cell? ⟨gb575, 1, none⟩ = some (.int .i64 t562) ∧ w'.cell? ⟨gb575, 2, none⟩ = some (.int .i64 t563) ∧ w'.cell? ⟨gb575, 3, none⟩ = some (.slice Ao11 t564.length co11) ∧ w'.cell? ⟨gb575, 4, none⟩ = some (.slice Ao12 t567.length co12) ∧ w'.cell? ⟨gb575, 5, none⟩ = some (.slice Ao13 t570.length co13)) (ds := []) #[false, false, false, false, false, false, false] (by kernel_rfl) rfl rfl ⟨(blk_cell BK575.out 0).trans rfl, (blk_cell BK575.out 1).trans rfl, (blk_cell BK575.out 2).trans rfl, (blk_cell BK575.out 3).trans rfl, (blk_cell BK575.out 4).trans rfl, (blk_cell BK575.out 5).trans rfl⟩ (fun hHeld => ?_)
 generalize w14.drew = w15 at HO566 HO569 HO572 BK559 BK575 HI560 HB hHeld ⊢
 refine pure_ (i := 1) (N := some 12) (v := ?_) (a' := ?_) #[false, true, false, false, false, false, false] rfl rfl (by kernel_rfl) (fun _ _ _ h => h) (Or.inl ⟨by rfl, ?_⟩) ?_ ?_
 rotate_left
 ·intro w'
  go_simp
  with_reducible rfl
 rotate_left
 ·simp only [Act.put, List.setIfInBounds_toArray, List.set_cons_zero, List.set_cons_succ, i64_w, i32_w]
  rfl
 refine pure_ (i := 2) (N := some 13) (v := ?_) (a' := ?_) #[false, true, true, false, false, false, false] rfl rfl (by kernel_rfl) (fun _ _ _ h => h) (Or.inl ⟨by rfl, ?_⟩) ?_ ?_
 rotate_left
 ·intro w'
  go_simp
  with_reducible rfl
 rotate_left
 ·simp only [Act.put, List.setIfInBounds_toArray, List.set_cons_zero, List.set_cons_succ, i64_w, i32_w]
  rfl
 refine take_ (i := 0) (N := some 11) (v := ?_) (a' := ?_) #[true, true, true, false, false, false, false] rfl rfl (by kernel_rfl) (fun _ _ _ h => h) (Or.inl ⟨by rfl, ?_⟩) hHeld ?_ ?_
 rotate_left
 ·rintro w' ⟨s0, s1, s2, s3, s4, s5⟩
  go_simp
  with_reducible rfl
 rotate_left
 ·simp only [Act.put, List.setIfInBounds_toArray, List.set_cons_zero, List.set_cons_succ, i64_w, i32_w]
  rfl
 refine take_ (i := 3) (N := some 14) (v := ?_) (a' := ?_) #[true, true, true, true, false, false, false] rfl rfl (by kernel_rfl) (fun _ _ _ h => h) (Or.inl ⟨by rfl, ?_⟩) hHeld ?_ ?_
 rotate_left
 ·rintro w' ⟨s0, s1, s2, s3, s4, s5⟩
  go_simp
  with_reducible rfl
 rotate_left
 ·simp only [Act.put, List.setIfInBounds_toArray, List.set_cons_zero, List.set_cons_succ, i64_w, i32_w]
  rfl
 refine one_ (i := 4) (N := some 15) #[true, true, true, true, true, false, false] rfl rfl (by kernel_rfl) (by decide) (fun K hK => ?_)
 refine goes_ Try.func59 (by kernel_rfl) rfl #[.pointer (some ⟨gb560, 0, none⟩), .agg #[.int .i64 t561, .int .i64 t562, .int .i64 t563]] (by rfl) rfl rfl (by (try simp only [List.map_toArray, List.map_cons, List.map_nil]); first | done | rfl | (simp only [List.length_drop, List.length_take]; rfl)) ?_
 with_reducible refine (spec_l1Cur_block.calls gb560 l0 t573 t574 t561 t562 t563 t576 t577 t578 w _ ?side1 ?side2 A3.out).mono ?_
 (case side1 => exact IsS76.q HI560)
 (case side2 => exact hbI_ HB (IsS76.ge HI560.out))
 rintro e w16 ⟨rfl, hi, hb, hk⟩
 refine ⟨_, rfl, ?_⟩
 have n0_ := Aside0.mk (KeepBut.blk hk (kp_ BK559) NB559_560.out (by simp))
 have n1_ := IsS76.rk HI560 HO566 hk
 have n2_ := IsS76.rk HI560 HO569 hk
 have n3_ := IsS76.rk HI560 HO572 hk
 have n4_ := Aside0.mk (KeepBut.blk hk (kp_ BK575) NB575_560.out (by simp))
 have n5_ := Aside0.mk (hb)
 have n6_ := Aside0.mk (hi)
 clear BK559
 clear HO566
 clear HO569
 clear HO572
 clear BK575
 clear HB
 clear HI560
 have BK559 := n0_
 have HO566 := n1_
 have HO569 := n2_
 have HO572 := n3_
 have BK575 := n4_
 have HB := n5_
 have HI560 := n6_
 clear n0_ n1_ n2_ n3_ n4_ n5_ n6_
 (try clear hb)
 (try clear hb2)
 (try clear hk)
 (try clear hi)
 refine hK.out _ _ ⟨(blk_cell BK575.out 0).trans rfl, (blk_cell BK575.out 1).trans rfl, (blk_cell BK575.out 2).trans rfl, (blk_cell BK575.out 3).trans rfl, (blk_cell BK575.out 4).trans rfl, (blk_cell BK575.out 5).trans rfl⟩ (fun hHeld => ?_)
 clear hK K
 refine norm_ (a' := ?_) ?_ ?_
 rotate_left
 ·show Act.put _ (some 15) _ = _
  simp only [Act.put, List.setIfInBounds_toArray, List.set_cons_zero, List.set_cons_succ, i64_w, i32_w]
  rfl
 refine one_ (i := 5) (N := none) #[true, true, true, true, true, true, false] rfl rfl (by kernel_rfl) (by decide) (fun K hK => ?_)
 have hs17 : w16.cell? ⟨gb559, 0, none⟩ = some (.int .i64 0) := (blk_cell BK559.out 0).trans rfl
 have hfs17 := blk_frozen BK559.out 0
 have hns17_1 := NB575_559.out
 have hms17_1 := NB559_575.out
 have hs18 : w16.cell? ⟨gb559, 1, none⟩ = some (.int .i64 0) := (blk_cell BK559.out 1).trans rfl
 have hfs18 := blk_frozen BK559.out 1
 have hns18_1 := NB575_559.out
 have hms18_1 := NB559_575.out
 have hs19 : w16.cell? ⟨gb559, 2, none⟩ = some (.int .i64 0) := (blk_cell BK559.out 2).trans rfl
 have hfs19 := blk_frozen BK559.out 2
 have hns19_1 := NB575_559.out
 have hms19_1 := NB559_575.out
 have hs20 : w16.cell? ⟨gb559, 3, none⟩ = some (.slice none 0 0) := (blk_cell BK559.out 3).trans rfl
 have hfs20 := blk_frozen BK559.out 3
 have hns20_1 := NB575_559.out
 have hms20_1 := NB559_575.out
 have hs21 : w16.cell? ⟨gb559, 4, none⟩ = some (.slice none 0 0) := (blk_cell BK559.out 4).trans rfl
 have hfs21 := blk_frozen BK559.out 4
 have hns21_1 := NB575_559.out
 have hms21_1 := NB559_575.out
 have hs22 : w16.cell? ⟨gb559, 5, none⟩ = some (.slice none 0 0) := (blk_cell BK559.out 5).trans rfl
 have hfs22 := blk_frozen BK559.out 5
 have hns22_1 := NB575_559.out
 have hms22_1 := NB559_575.out
 refine skip_ (w1 := ?_) (by rfl) rfl ?_ ?_
 rotate_left
 ·go_simp
  rfl
 refine hK.out _ _ ⟨((cell_far (p := ⟨gb559, _, none⟩) NB575_559.out _).trans (((cell_far (p := ⟨gb559, _, none⟩) NB575_559.out _).trans (((cell_far (p := ⟨gb559, _, none⟩) NB575_559.out _).trans (((cell_far (p := ⟨gb559, _, none⟩) NB575_559.out _).trans (((cell_far (p := ⟨gb559, _, none⟩) NB575_559.out _).trans (((cell_far (p := ⟨gb559, _, none⟩) NB575_559.out _).trans (hHeld.1)))))))))))), ((cell_far (p := ⟨gb559, _, none⟩) NB575_559.out _).trans (((cell_far (p := ⟨gb559, _, none⟩) NB575_559.out _).trans (((cell_far (p := ⟨gb559, _, none⟩) NB575_559.out _).trans (((cell_far (p := ⟨gb559, _, none⟩) NB575_559.out _).trans (((cell_far (p := ⟨gb559, _, none⟩) NB575_559.out _).trans (((cell_far (p := ⟨gb559, _, none⟩) NB575_559.out _).trans (hHeld.2.1)))))))))))), ((cell_far (p := ⟨gb559, _, none⟩) NB575_559.out _).trans (((cell_far (p := ⟨gb559, _, none⟩) NB575_559.out _).trans (((cell_far (p := ⟨gb559, _, none⟩) NB575_559.out _).trans (((cell_far (p := ⟨gb559, _, none⟩) NB575_559.out _).trans (((cell_far (p := ⟨gb559, _, none⟩) NB575_559.out _).trans (((cell_far (p := ⟨gb559, _, none⟩) NB575_559.out _).trans (hHeld.2.2.1)))))))))))), ((cell_far (p := ⟨gb559, _, none⟩) NB575_559.out _).trans (((cell_far (p := ⟨gb559, _, none⟩) NB575_559.out _).trans (((cell_far (p := ⟨gb559, _, none⟩) NB575_559.out _).trans (((cell_far (p := ⟨gb559, _, none⟩) NB575_559.out _).trans (((cell_far (p := ⟨gb559, _, none⟩) NB575_559.out _).trans (((cell_far (p := ⟨gb559, _, none⟩) NB575_559.out _).trans (hHeld.2.2.2.1)))))))))))), ((cell_far (p := ⟨gb559, _, none⟩) NB575_559.out _).trans (((cell_far (p := ⟨gb559, _, none⟩) NB575_559.out _).trans (((cell_far (p := ⟨gb559, _, none⟩) NB575_559.out _).trans (((cell_far (p := ⟨gb559, _, none⟩) NB575_559.out _).trans (((cell_far (p := ⟨gb559, _, none⟩) NB575_559.out _).trans (((cell_far (p := ⟨gb559, _, none⟩) NB575_559.out _).trans (hHeld.2.2.2.2.1)))))))))))), ((cell_far (p := ⟨gb559, _, none⟩) NB575_559.out _).trans (((cell_far (p := ⟨gb559, _, none⟩) NB575_559.out _).trans (((cell_far (p := ⟨gb559, _, none⟩) NB575_559.out _).trans (((cell_far (p := ⟨gb559, _, none⟩) NB575_559.out _).trans (((cell_far (p := ⟨gb559, _, none⟩) NB575_559.out _).trans (((cell_far (p := ⟨gb559, _, none⟩) NB575_559.out _).trans (hHeld.2.2.2.2.2))))))))))))⟩ (fun hHeld => ?_)
 clear hK K
 refine pure_ (i := 6) (N := some 3) (v := ?_) (a' := ?_) #[true, true, true, true, true, true, true] rfl rfl (by kernel_rfl) (fun _ _ _ h => h) (Or.inl ⟨by rfl, ?_⟩) ?_ ?_
 rotate_left
 ·intro w'
  go_simp
  with_reducible rfl
 rotate_left
 ·simp only [Act.put, List.setIfInBounds_toArray, List.set_cons_zero, List.set_cons_succ, i64_w, i32_w]
  rfl
 refine done_ (by kernel_rfl) ?_
 try go_wp2
 refine bodyPost_ret (results_ct rfl _ _ gb559 30 #[.int .i64 t561, .int .i64 t562, .int .i64 t563, .slice Ao11 t564.length co11, .slice Ao12 t567.length co12, .slice Ao13 t570.length co13] (0, 0) _ rfl (kpq_ (kputs BK559 [(0, _), (1, _), (2, _), (3, _), (4, _), (5, _)])) Try.underlying30 rfl (by kernel_rfl)) rfl ?_
 exact ⟨_, _, _, by first | rfl | (simp [errW_none, errW_some] <;> rfl) | (simp [*, errW_none, errW_some] <;> rfl), Kd.R_mono (Kd.R_s HO566 BK559) (fun _ hk => ⟨hk.1, hk.2⟩), Kd.R_mono (Kd.R_s HO569 BK559) (fun _ hk => ⟨hk.1, hk.2⟩), Kd.R_mono (Kd.R_s HO572 BK559) (fun _ hk => ⟨hk.1, hk.2⟩), hbI_ HB (IsS76.ge HI560.out)⟩

/-! ### impl_MetalOf: function 35 -/
def impl_MetalOf.f (k : Nat) (a0_0 : Int) (a0_1 : Int) (a0_2 : Int) (l0_3 : List Int) (l0_4 : List Int) (l0_5 : List Int) (a1 : Int) : Option (Int × Bool) := (impl_IsModel.f k a0_0 a0_1 a0_2 l0_3 l0_4 l0_5).bind fun t580 => (if t580 = true then (if a1 < 0 then (some (0, false)) else (if a1 ≥ (l0_3.length : Int) then (some (0, false)) else (if 0 ≤ a1 then (if a1 < (l0_3.length : Int) then (if a1 < (l0_4.length : Int) then (some (wrap64 ((rd l0_3 a1) * (rd l0_4 a1)), true)) else (none)) else (none)) else (none)))) else (some (0, false)))
set_option maxHeartbeats 8000000 in
set_option maxRecDepth 100000 in
theorem impl_MetalOf.calls (k : Nat) (a0_0 : Int) (a0_1 : Int) (a0_2 : Int) (A0_3 : Option Addr) (c0_3 : Nat) (l0_3 : List Int) (A0_4 : Option Addr) (c0_4 : Nat) (l0_4 : List Int) (A0_5 : Option Addr) (c0_5 : Nat) (l0_5 : List Int) (a1 : Int) (r1 : Int) (r2 : Bool) (w : World) (hr0_3 : Kd.C (Kd.int .i64) w A0_3 l0_3.length l0_3) (hc0_3 : l0_3.length ≤ c0_3) (hr0_4 : Kd.C (Kd.int .i64) w A0_4 l0_4.length l0_4) (hc0_4 : l0_4.length ≤ c0_4) (hr0_5 : Kd.C (Kd.int .i64) w A0_5 l0_5.length l0_5) (hc0_5 : l0_5.length ≤ c0_5) (h : impl_MetalOf.f k a0_0 a0_1 a0_2 l0_3 l0_4 l0_5 a1 = some (r1, r2)) :
  Calls Try.prog 35 #[.agg #[.int .i64 a0_0, .int .i64 a0_1, .int .i64 a0_2, .slice A0_3 l0_3.length c0_3, .slice A0_4 l0_4.length c0_4, .slice A0_5 l0_5.length c0_5], .int .i64 a1] w fun e w' => e = .returned (.tuple #[.int .i64 r1, .bool r2]) ∧ Below w.heap.size w w' := by
 have hu30 := Try.underlying30
 have HR0_3 := Aside0.mk hr0_3
 have HC0_3 := Aside0.mk hc0_3
 clear hr0_3 hc0_3
 have HR0_4 := Aside0.mk hr0_4
 have HC0_4 := Aside0.mk hc0_4
 clear hr0_4 hc0_4
 have HR0_5 := Aside0.mk hr0_5
 have HC0_5 := Aside0.mk hc0_5
 clear hr0_5 hc0_5
 have HB := Aside0.mk (Below.refl w.heap.size w)
 have H : ((impl_IsModel.f k a0_0 a0_1 a0_2 l0_3 l0_4 l0_5).bind fun t580 => (if t580 = true then (if a1 < 0 then (some (0, false)) else (if a1 ≥ (l0_3.length : Int) then (some (0, false)) else (if 0 ≤ a1 then (if a1 < (l0_3.length : Int) then (if a1 < (l0_4.length : Int) then (some (wrap64 ((rd l0_3 a1) * (rd l0_4 a1)), true)) else (none)) else (none)) else (none)))) else (some (0, false)))) = some (r1, r2) := h
 clear h
 replace H := Option.bind_eq_some_iff.mp H
 obtain ⟨t580, A30, H⟩ := H
 replace H : (if t580 = true then (if a1 < 0 then (some (0, false)) else (if a1 ≥ (l0_3.length : Int) then (some (0, false)) else (if 0 ≤ a1 then (if a1 < (l0_3.length : Int) then (if a1 < (l0_4.length : Int) then (some (wrap64 ((rd l0_3 a1) * (rd l0_4 a1)), true)) else (none)) else (none)) else (none)))) else (some (0, false))) = some (r1, r2) := H
 have A3 := Aside0.mk A30
 clear A30
 by_cases c4 : t580 = true
 ·subst c4
  have H1 : (if a1 < 0 then (some (0, false)) else (if a1 ≥ (l0_3.length : Int) then (some (0, false)) else (if 0 ≤ a1 then (if a1 < (l0_3.length : Int) then (if a1 < (l0_4.length : Int) then (some (wrap64 ((rd l0_3 a1) * (rd l0_4 a1)), true)) else (none)) else (none)) else (none)))) = some (r1, r2) := by rw [if_pos rfl] at H; exact H
  clear H
  have H := H1
  clear H1
  by_cases c5 : a1 < 0
  ·rw [if_pos c5] at H
   have c5b0 : decide (a1 < 0) = true := decide_eq_true c5
   clear c5
   simp only [Option.some.injEq, Prod.mk.injEq] at H
   obtain ⟨rfl, rfl⟩ := H
   go_enter Try.func35, Try.ntmps35
   go_wp2_with (first | ((with_reducible refine gate_dst (N := 2) rfl ?_); (try (refine gate_guard (by rfl) ?_; dsimp only)); refine box_event ?hg (N := 2) ?hd (cs := #[.int .i64 a0_0, .int .i64 a0_1, .int .i64 a0_2, .slice A0_3 l0_3.length c0_3, .slice A0_4 l0_4.length c0_4, .slice A0_5 l0_5.length c0_5]) (t := 30) ?hr ?_; (case hd => rfl); (case hg => rfl); (case hr => first | (go_simp; done) | (go_simp; rfl)); intro gb579 hg w6 hbox hb; have BK579 := Aside0.mk (hbox); have GW579 := gs_ hg HB; have GE579 := gs_ hg HB; replace HB := hbs_ HB hb; clear hb hbox hg; obtain ⟨hcz7_0, hcz7_1, hcz7_2, hcz7_3, hcz7_4, hcz7_5, hfz7_0, hfz7_1, hfz7_2, hfz7_3, hfz7_4, hfz7_5⟩ := bx6 BK579) | (go_at_call 38; (with_reducible refine (impl_IsModel.calls k a0_0 a0_1 a0_2 _ _ l0_3 _ _ l0_4 _ _ l0_5 true _ ?side1 ?side2 ?side3 ?side4 ?side5 ?side6 A3.out).mono ?_); (case side1 => exact Kd.C_w HR0_3 HB); (case side2 => exact HC0_3.out); (case side3 => exact Kd.C_w HR0_4 HB); (case side4 => exact HC0_4.out); (case side5 => exact Kd.C_w HR0_5 HB); (case side6 => exact HC0_5.out); rintro e w8 ⟨rfl, hb⟩; have n0_ := Aside0.mk (blk_below (kp_ BK579) hb); have n1_ := Aside0.mk (below_step (hb_ HB) hb); clear BK579; clear HB; have BK579 := n0_; have HB := n1_; clear n0_ n1_; (try clear hb); (try clear hb2); (try clear hk); (try clear hi)))
   repeat (go_quiet (first | ((with_reducible refine gate_dst (N := 2) rfl ?_); (try (refine gate_guard (by rfl) ?_; dsimp only)); refine box_event ?hg (N := 2) ?hd (cs := #[.int .i64 a0_0, .int .i64 a0_1, .int .i64 a0_2, .slice A0_3 l0_3.length c0_3, .slice A0_4 l0_4.length c0_4, .slice A0_5 l0_5.length c0_5]) (t := 30) ?hr ?_; (case hd => rfl); (case hg => rfl); (case hr => first | (go_simp; done) | (go_simp; rfl)); intro gb579 hg w6 hbox hb; have BK579 := Aside0.mk (hbox); have GW579 := gs_ hg HB; have GE579 := gs_ hg HB; replace HB := hbs_ HB hb; clear hb hbox hg; obtain ⟨hcz7_0, hcz7_1, hcz7_2, hcz7_3, hcz7_4, hcz7_5, hfz7_0, hfz7_1, hfz7_2, hfz7_3, hfz7_4, hfz7_5⟩ := bx6 BK579) | (go_at_call 38; (with_reducible refine (impl_IsModel.calls k a0_0 a0_1 a0_2 _ _ l0_3 _ _ l0_4 _ _ l0_5 true _ ?side1 ?side2 ?side3 ?side4 ?side5 ?side6 A3.out).mono ?_); (case side1 => exact Kd.C_w HR0_3 HB); (case side2 => exact HC0_3.out); (case side3 => exact Kd.C_w HR0_4 HB); (case side4 => exact HC0_4.out); (case side5 => exact Kd.C_w HR0_5 HB); (case side6 => exact HC0_5.out); rintro e w8 ⟨rfl, hb⟩; have n0_ := Aside0.mk (blk_below (kp_ BK579) hb); have n1_ := Aside0.mk (below_step (hb_ HB) hb); clear BK579; clear HB; have BK579 := n0_; have HB := n1_; clear n0_ n1_; (try clear hb); (try clear hb2); (try clear hk); (try clear hi))); try go_wp2_with (first | ((with_reducible refine gate_dst (N := 2) rfl ?_); (try (refine gate_guard (by rfl) ?_; dsimp only)); refine box_event ?hg (N := 2) ?hd (cs := #[.int .i64 a0_0, .int .i64 a0_1, .int .i64 a0_2, .slice A0_3 l0_3.length c0_3, .slice A0_4 l0_4.length c0_4, .slice A0_5 l0_5.length c0_5]) (t := 30) ?hr ?_; (case hd => rfl); (case hg => rfl); (case hr => first | (go_simp; done) | (go_simp; rfl)); intro gb579 hg w6 hbox hb; have BK579 := Aside0.mk (hbox); have GW579 := gs_ hg HB; have GE579 := gs_ hg HB; replace HB := hbs_ HB hb; clear hb hbox hg; obtain ⟨hcz7_0, hcz7_1, hcz7_2, hcz7_3, hcz7_4, hcz7_5, hfz7_0, hfz7_1, hfz7_2, hfz7_3, hfz7_4, hfz7_5⟩ := bx6 BK579) | (go_at_call 38; (with_reducible refine (impl_IsModel.calls k a0_0 a0_1 a0_2 _ _ l0_3 _ _ l0_4 _ _ l0_5 true _ ?side1 ?side2 ?side3 ?side4 ?side5 ?side6 A3.out).mono ?_); (case side1 => exact Kd.C_w HR0_3 HB); (case side2 => exact HC0_3.out); (case side3 => exact Kd.C_w HR0_4 HB); (case side4 => exact HC0_4.out); (case side5 => exact Kd.C_w HR0_5 HB); (case side6 => exact HC0_5.out); rintro e w8 ⟨rfl, hb⟩; have n0_ := Aside0.mk (blk_below (kp_ BK579) hb); have n1_ := Aside0.mk (below_step (hb_ HB) hb); clear BK579; clear HB; have BK579 := n0_; have HB := n1_; clear n0_ n1_; (try clear hb); (try clear hb2); (try clear hk); (try clear hi))))
   go_ret2
   exact ⟨by first | rfl | (simp [errW_none, errW_some] <;> rfl) | (simp [*, errW_none, errW_some] <;> rfl), hb_ HB⟩
  ·rw [if_neg c5] at H
   have c5b0 : decide (a1 < 0) = false := decide_eq_false c5
   clear c5
   by_cases c9 : a1 ≥ (l0_3.length : Int)
   ·rw [if_pos c9] at H
    have c9b0 : decide ((l0_3.length : Int) ≤ a1) = true := decide_eq_true c9
    clear c9
    simp only [Option.some.injEq, Prod.mk.injEq] at H
    obtain ⟨rfl, rfl⟩ := H
    go_enter Try.func35, Try.ntmps35
    go_wp2_with (first | ((with_reducible refine gate_dst (N := 2) rfl ?_); (try (refine gate_guard (by rfl) ?_; dsimp only)); refine box_event ?hg (N := 2) ?hd (cs := #[.int .i64 a0_0, .int .i64 a0_1, .int .i64 a0_2, .slice A0_3 l0_3.length c0_3, .slice A0_4 l0_4.length c0_4, .slice A0_5 l0_5.length c0_5]) (t := 30) ?hr ?_; (case hd => rfl); (case hg => rfl); (case hr => first | (go_simp; done) | (go_simp; rfl)); intro gb579 hg w10 hbox hb; have BK579 := Aside0.mk (hbox); have GW579 := gs_ hg HB; have GE579 := gs_ hg HB; replace HB := hbs_ HB hb; clear hb hbox hg; obtain ⟨hcz11_0, hcz11_1, hcz11_2, hcz11_3, hcz11_4, hcz11_5, hfz11_0, hfz11_1, hfz11_2, hfz11_3, hfz11_4, hfz11_5⟩ := bx6 BK579) | (go_at_call 38; (with_reducible refine (impl_IsModel.calls k a0_0 a0_1 a0_2 _ _ l0_3 _ _ l0_4 _ _ l0_5 true _ ?side1 ?side2 ?side3 ?side4 ?side5 ?side6 A3.out).mono ?_); (case side1 => exact Kd.C_w HR0_3 HB); (case side2 => exact HC0_3.out); (case side3 => exact Kd.C_w HR0_4 HB); (case side4 => exact HC0_4.out); (case side5 => exact Kd.C_w HR0_5 HB); (case side6 => exact HC0_5.out); rintro e w12 ⟨rfl, hb⟩; have n0_ := Aside0.mk (blk_below (kp_ BK579) hb); have n1_ := Aside0.mk (below_step (hb_ HB) hb); clear BK579; clear HB; have BK579 := n0_; have HB := n1_; clear n0_ n1_; (try clear hb); (try clear hb2); (try clear hk); (try clear hi); have hcz13_0 : w12.cell? ⟨gb579, 0, none⟩ = some (.int .i64 a0_0) := (blk_cell BK579.out 0).trans rfl; have hcz13_1 : w12.cell? ⟨gb579, 1, none⟩ = some (.int .i64 a0_1) := (blk_cell BK579.out 1).trans rfl; have hcz13_2 : w12.cell? ⟨gb579, 2, none⟩ = some (.int .i64 a0_2) := (blk_cell BK579.out 2).trans rfl; have hcz13_3 : w12.cell? ⟨gb579, 3, none⟩ = some (.slice A0_3 l0_3.length c0_3) := (blk_cell BK579.out 3).trans rfl; have hcz13_4 : w12.cell? ⟨gb579, 4, none⟩ = some (.slice A0_4 l0_4.length c0_4) := (blk_cell BK579.out 4).trans rfl; have hcz13_5 : w12.cell? ⟨gb579, 5, none⟩ = some (.slice A0_5 l0_5.length c0_5) := (blk_cell BK579.out 5).trans rfl; have hfz13_0 := blk_frozen BK579.out 0; have hfz13_1 := blk_frozen BK579.out 1; have hfz13_2 := blk_frozen BK579.out 2; have hfz13_3 := blk_frozen BK579.out 3; have hfz13_4 := blk_frozen BK579.out 4; have hfz13_5 := blk_frozen BK579.out 5))
    repeat (go_quiet (first | ((with_reducible refine gate_dst (N := 2) rfl ?_); (try (refine gate_guard (by rfl) ?_; dsimp only)); refine box_event ?hg (N := 2) ?hd (cs := #[.int .i64 a0_0, .int .i64 a0_1, .int .i64 a0_2, .slice A0_3 l0_3.length c0_3, .slice A0_4 l0_4.length c0_4, .slice A0_5 l0_5.length c0_5]) (t := 30) ?hr ?_; (case hd => rfl); (case hg => rfl); (case hr => first | (go_simp; done) | (go_simp; rfl)); intro gb579 hg w10 hbox hb; have BK579 := Aside0.mk (hbox); have GW579 := gs_ hg HB; have GE579 := gs_ hg HB; replace HB := hbs_ HB hb; clear hb hbox hg; obtain ⟨hcz11_0, hcz11_1, hcz11_2, hcz11_3, hcz11_4, hcz11_5, hfz11_0, hfz11_1, hfz11_2, hfz11_3, hfz11_4, hfz11_5⟩ := bx6 BK579) | (go_at_call 38; (with_reducible refine (impl_IsModel.calls k a0_0 a0_1 a0_2 _ _ l0_3 _ _ l0_4 _ _ l0_5 true _ ?side1 ?side2 ?side3 ?side4 ?side5 ?side6 A3.out).mono ?_); (case side1 => exact Kd.C_w HR0_3 HB); (case side2 => exact HC0_3.out); (case side3 => exact Kd.C_w HR0_4 HB); (case side4 => exact HC0_4.out); (case side5 => exact Kd.C_w HR0_5 HB); (case side6 => exact HC0_5.out); rintro e w12 ⟨rfl, hb⟩; have n0_ := Aside0.mk (blk_below (kp_ BK579) hb); have n1_ := Aside0.mk (below_step (hb_ HB) hb); clear BK579; clear HB; have BK579 := n0_; have HB := n1_; clear n0_ n1_; (try clear hb); (try clear hb2); (try clear hk); (try clear hi); have hcz13_0 : w12.cell? ⟨gb579, 0, none⟩ = some (.int .i64 a0_0) := (blk_cell BK579.out 0).trans rfl; have hcz13_1 : w12.cell? ⟨gb579, 1, none⟩ = some (.int .i64 a0_1) := (blk_cell BK579.out 1).trans rfl; have hcz13_2 : w12.cell? ⟨gb579, 2, none⟩ = some (.int .i64 a0_2) := (blk_cell BK579.out 2).trans rfl; have hcz13_3 : w12.cell? ⟨gb579, 3, none⟩ = some (.slice A0_3 l0_3.length c0_3) := (blk_cell BK579.out 3).trans rfl; have hcz13_4 : w12.cell? ⟨gb579, 4, none⟩ = some (.slice A0_4 l0_4.length c0_4) := (blk_cell BK579.out 4).trans rfl; have hcz13_5 : w12.cell? ⟨gb579, 5, none⟩ = some (.slice A0_5 l0_5.length c0_5) := (blk_cell BK579.out 5).trans rfl; have hfz13_0 := blk_frozen BK579.out 0; have hfz13_1 := blk_frozen BK579.out 1; have hfz13_2 := blk_frozen BK579.out 2; have hfz13_3 := blk_frozen BK579.out 3; have hfz13_4 := blk_frozen BK579.out 4; have hfz13_5 := blk_frozen BK579.out 5)); try go_wp2_with (first | ((with_reducible refine gate_dst (N := 2) rfl ?_); (try (refine gate_guard (by rfl) ?_; dsimp only)); refine box_event ?hg (N := 2) ?hd (cs := #[.int .i64 a0_0, .int .i64 a0_1, .int .i64 a0_2, .slice A0_3 l0_3.length c0_3, .slice A0_4 l0_4.length c0_4, .slice A0_5 l0_5.length c0_5]) (t := 30) ?hr ?_; (case hd => rfl); (case hg => rfl); (case hr => first | (go_simp; done) | (go_simp; rfl)); intro gb579 hg w10 hbox hb; have BK579 := Aside0.mk (hbox); have GW579 := gs_ hg HB; have GE579 := gs_ hg HB; replace HB := hbs_ HB hb; clear hb hbox hg; obtain ⟨hcz11_0, hcz11_1, hcz11_2, hcz11_3, hcz11_4, hcz11_5, hfz11_0, hfz11_1, hfz11_2, hfz11_3, hfz11_4, hfz11_5⟩ := bx6 BK579) | (go_at_call 38; (with_reducible refine (impl_IsModel.calls k a0_0 a0_1 a0_2 _ _ l0_3 _ _ l0_4 _ _ l0_5 true _ ?side1 ?side2 ?side3 ?side4 ?side5 ?side6 A3.out).mono ?_); (case side1 => exact Kd.C_w HR0_3 HB); (case side2 => exact HC0_3.out); (case side3 => exact Kd.C_w HR0_4 HB); (case side4 => exact HC0_4.out); (case side5 => exact Kd.C_w HR0_5 HB); (case side6 => exact HC0_5.out); rintro e w12 ⟨rfl, hb⟩; have n0_ := Aside0.mk (blk_below (kp_ BK579) hb); have n1_ := Aside0.mk (below_step (hb_ HB) hb); clear BK579; clear HB; have BK579 := n0_; have HB := n1_; clear n0_ n1_; (try clear hb); (try clear hb2); (try clear hk); (try clear hi); have hcz13_0 : w12.cell? ⟨gb579, 0, none⟩ = some (.int .i64 a0_0) := (blk_cell BK579.out 0).trans rfl; have hcz13_1 : w12.cell? ⟨gb579, 1, none⟩ = some (.int .i64 a0_1) := (blk_cell BK579.out 1).trans rfl; have hcz13_2 : w12.cell? ⟨gb579, 2, none⟩ = some (.int .i64 a0_2) := (blk_cell BK579.out 2).trans rfl; have hcz13_3 : w12.cell? ⟨gb579, 3, none⟩ = some (.slice A0_3 l0_3.length c0_3) := (blk_cell BK579.out 3).trans rfl; have hcz13_4 : w12.cell? ⟨gb579, 4, none⟩ = some (.slice A0_4 l0_4.length c0_4) := (blk_cell BK579.out 4).trans rfl; have hcz13_5 : w12.cell? ⟨gb579, 5, none⟩ = some (.slice A0_5 l0_5.length c0_5) := (blk_cell BK579.out 5).trans rfl; have hfz13_0 := blk_frozen BK579.out 0; have hfz13_1 := blk_frozen BK579.out 1; have hfz13_2 := blk_frozen BK579.out 2; have hfz13_3 := blk_frozen BK579.out 3; have hfz13_4 := blk_frozen BK579.out 4; have hfz13_5 := blk_frozen BK579.out 5)))
    go_ret2
    exact ⟨by first | rfl | (simp [errW_none, errW_some] <;> rfl) | (simp [*, errW_none, errW_some] <;> rfl), hb_ HB⟩
   ·rw [if_neg c9] at H
    have c9b0 : decide ((l0_3.length : Int) ≤ a1) = false := decide_eq_false c9
    clear c9
    by_cases c14 : 0 ≤ a1
    ·rw [if_pos c14] at H
     have c14b0 : decide (0 ≤ a1) = true := decide_eq_true c14
     clear c14
     by_cases c15 : a1 < (l0_3.length : Int)
     ·rw [if_pos c15] at H
      have c15b0 : decide (a1 < (l0_3.length : Int)) = true := decide_eq_true c15
      clear c15
      by_cases c16 : a1 < (l0_4.length : Int)
      ·rw [if_pos c16] at H
       have c16b0 : decide (a1 < (l0_4.length : Int)) = true := decide_eq_true c16
       clear c16
       simp only [Option.some.injEq, Prod.mk.injEq] at H
       obtain ⟨rfl, rfl⟩ := H
       go_enter Try.func35, Try.ntmps35
       go_wp2_with (first | ((with_reducible refine gate_dst (N := 2) rfl ?_); (try (refine gate_guard (by rfl) ?_; dsimp only)); refine box_event ?hg (N := 2) ?hd (cs := #[.int .i64 a0_0, .int .i64 a0_1, .int .i64 a0_2, .slice A0_3 l0_3.length c0_3, .slice A0_4 l0_4.length c0_4, .slice A0_5 l0_5.length c0_5]) (t := 30) ?hr ?_; (case hd => rfl); (case hg => rfl); (case hr => first | (go_simp; done) | (go_simp; rfl)); intro gb579 hg w17 hbox hb; have BK579 := Aside0.mk (hbox); have GW579 := gs_ hg HB; have GE579 := gs_ hg HB; replace HB := hbs_ HB hb; clear hb hbox hg; obtain ⟨hcz18_0, hcz18_1, hcz18_2, hcz18_3, hcz18_4, hcz18_5, hfz18_0, hfz18_1, hfz18_2, hfz18_3, hfz18_4, hfz18_5⟩ := bx6 BK579) | (go_at_call 38; (with_reducible refine (impl_IsModel.calls k a0_0 a0_1 a0_2 _ _ l0_3 _ _ l0_4 _ _ l0_5 true _ ?side1 ?side2 ?side3 ?side4 ?side5 ?side6 A3.out).mono ?_); (case side1 => exact Kd.C_w HR0_3 HB); (case side2 => exact HC0_3.out); (case side3 => exact Kd.C_w HR0_4 HB); (case side4 => exact HC0_4.out); (case side5 => exact Kd.C_w HR0_5 HB); (case side6 => exact HC0_5.out); rintro e w19 ⟨rfl, hb⟩; have n0_ := Aside0.mk (blk_below (kp_ BK579) hb); have n1_ := Aside0.mk (below_step (hb_ HB) hb); clear BK579; clear HB; have BK579 := n0_; have HB := n1_; clear n0_ n1_; (try clear hb); (try clear hb2); (try clear hk); (try clear hi); have hcz20_0 : w19.cell? ⟨gb579, 0, none⟩ = some (.int .i64 a0_0) := (blk_cell BK579.out 0).trans rfl; have hcz20_1 : w19.cell? ⟨gb579, 1, none⟩ = some (.int .i64 a0_1) := (blk_cell BK579.out 1).trans rfl; have hcz20_2 : w19.cell? ⟨gb579, 2, none⟩ = some (.int .i64 a0_2) := (blk_cell BK579.out 2).trans rfl; have hcz20_3 : w19.cell? ⟨gb579, 3, none⟩ = some (.slice A0_3 l0_3.length c0_3) := (blk_cell BK579.out 3).trans rfl; have hcz20_4 : w19.cell? ⟨gb579, 4, none⟩ = some (.slice A0_4 l0_4.length c0_4) := (blk_cell BK579.out 4).trans rfl; have hcz20_5 : w19.cell? ⟨gb579, 5, none⟩ = some (.slice A0_5 l0_5.length c0_5) := (blk_cell BK579.out 5).trans rfl; have hfz20_0 := blk_frozen BK579.out 0; have hfz20_1 := blk_frozen BK579.out 1; have hfz20_2 := blk_frozen BK579.out 2; have hfz20_3 := blk_frozen BK579.out 3; have hfz20_4 := blk_frozen BK579.out 4; have hfz20_5 := blk_frozen BK579.out 5; have p581 : 0 ≤ (a1 : Int) := of_decide_eq_true (by first | (with_reducible assumption) | assumption); have q581 : a1 < (l0_3.length : Int) := of_decide_eq_true (by first | (with_reducible assumption) | assumption); obtain ⟨ad581, e581, hx581_0⟩ := Kd.at_int HR0_3.out a1 p581 q581; cases e581; replace hx581_0 := (HB.out.cell (World.block_lt_of_cell? w _ hx581_0)).trans hx581_0; replace p581 := eq_true p581; replace q581 := eq_true q581; have p582 : 0 ≤ (a1 : Int) := of_decide_eq_true (by first | (with_reducible assumption) | assumption); have q582 : a1 < (l0_4.length : Int) := of_decide_eq_true (by first | (with_reducible assumption) | assumption); obtain ⟨ad582, e582, hx582_0⟩ := Kd.at_int HR0_4.out a1 p582 q582; cases e582; replace hx582_0 := (HB.out.cell (World.block_lt_of_cell? w _ hx582_0)).trans hx582_0; replace p582 := eq_true p582; replace q582 := eq_true q582))
       repeat (go_quiet (first | ((with_reducible refine gate_dst (N := 2) rfl ?_); (try (refine gate_guard (by rfl) ?_; dsimp only)); refine box_event ?hg (N := 2) ?hd (cs := #[.int .i64 a0_0, .int .i64 a0_1, .int .i64 a0_2, .slice A0_3 l0_3.length c0_3, .slice A0_4 l0_4.length c0_4, .slice A0_5 l0_5.length c0_5]) (t := 30) ?hr ?_; (case hd => rfl); (case hg => rfl); (case hr => first | (go_simp; done) | (go_simp; rfl)); intro gb579 hg w17 hbox hb; have BK579 := Aside0.mk (hbox); have GW579 := gs_ hg HB; have GE579 := gs_ hg HB; replace HB := hbs_ HB hb; clear hb hbox hg; obtain ⟨hcz18_0, hcz18_1, hcz18_2, hcz18_3, hcz18_4, hcz18_5, hfz18_0, hfz18_1, hfz18_2, hfz18_3, hfz18_4, hfz18_5⟩ := bx6 BK579) | (go_at_call 38; (with_reducible refine (impl_IsModel.calls k a0_0 a0_1 a0_2 _ _ l0_3 _ _ l0_4 _ _ l0_5 true _ ?side1 ?side2 ?side3 ?side4 ?side5 ?side6 A3.out).mono ?_); (case side1 => exact Kd.C_w HR0_3 HB); (case side2 => exact HC0_3.out); (case side3 => exact Kd.C_w HR0_4 HB); (case side4 => exact HC0_4.out); (case side5 => exact Kd.C_w HR0_5 HB); (case side6 => exact HC0_5.out); rintro e w19 ⟨rfl, hb⟩; have n0_ := Aside0.mk (blk_below (kp_ BK579) hb); have n1_ := Aside0.mk (below_step (hb_ HB) hb); clear BK579; clear HB; have BK579 := n0_; have HB := n1_; clear n0_ n1_; (try clear hb); (try clear hb2); (try clear hk); (try clear hi); have hcz20_0 : w19.cell? ⟨gb579, 0, none⟩ = some (.int .i64 a0_0) := (blk_cell BK579.out 0).trans rfl; have hcz20_1 : w19.cell? ⟨gb579, 1, none⟩ = some (.int .i64 a0_1) := (blk_cell BK579.out 1).trans rfl; have hcz20_2 : w19.cell? ⟨gb579, 2, none⟩ = some (.int .i64 a0_2) := (blk_cell BK579.out 2).trans rfl; have hcz20_3 : w19.cell? ⟨gb579, 3, none⟩ = some (.slice A0_3 l0_3.length c0_3) := (blk_cell BK579.out 3).trans rfl; have hcz20_4 : w19.cell? ⟨gb579, 4, none⟩ = some (.slice A0_4 l0_4.length c0_4) := (blk_cell BK579.out 4).trans rfl; have hcz20_5 : w19.cell? ⟨gb579, 5, none⟩ = some (.slice A0_5 l0_5.length c0_5) := (blk_cell BK579.out 5).trans rfl; have hfz20_0 := blk_frozen BK579.out 0; have hfz20_1 := blk_frozen BK579.out 1; have hfz20_2 := blk_frozen BK579.out 2; have hfz20_3 := blk_frozen BK579.out 3; have hfz20_4 := blk_frozen BK579.out 4; have hfz20_5 := blk_frozen BK579.out 5; have p581 : 0 ≤ (a1 : Int) := of_decide_eq_true (by first | (with_reducible assumption) | assumption); have q581 : a1 < (l0_3.length : Int) := of_decide_eq_true (by first | (with_reducible assumption) | assumption); obtain ⟨ad581, e581, hx581_0⟩ := Kd.at_int HR0_3.out a1 p581 q581; cases e581; replace hx581_0 := (HB.out.cell (World.block_lt_of_cell? w _ hx581_0)).trans hx581_0; replace p581 := eq_true p581; replace q581 := eq_true q581; have p582 : 0 ≤ (a1 : Int) := of_decide_eq_true (by first | (with_reducible assumption) | assumption); have q582 : a1 < (l0_4.length : Int) := of_decide_eq_true (by first | (with_reducible assumption) | assumption); obtain ⟨ad582, e582, hx582_0⟩ := Kd.at_int HR0_4.out a1 p582 q582; cases e582; replace hx582_0 := (HB.out.cell (World.block_lt_of_cell? w _ hx582_0)).trans hx582_0; replace p582 := eq_true p582; replace q582 := eq_true q582)); try go_wp2_with (first | ((with_reducible refine gate_dst (N := 2) rfl ?_); (try (refine gate_guard (by rfl) ?_; dsimp only)); refine box_event ?hg (N := 2) ?hd (cs := #[.int .i64 a0_0, .int .i64 a0_1, .int .i64 a0_2, .slice A0_3 l0_3.length c0_3, .slice A0_4 l0_4.length c0_4, .slice A0_5 l0_5.length c0_5]) (t := 30) ?hr ?_; (case hd => rfl); (case hg => rfl); (case hr => first | (go_simp; done) | (go_simp; rfl)); intro gb579 hg w17 hbox hb; have BK579 := Aside0.mk (hbox); have GW579 := gs_ hg HB; have GE579 := gs_ hg HB; replace HB := hbs_ HB hb; clear hb hbox hg; obtain ⟨hcz18_0, hcz18_1, hcz18_2, hcz18_3, hcz18_4, hcz18_5, hfz18_0, hfz18_1, hfz18_2, hfz18_3, hfz18_4, hfz18_5⟩ := bx6 BK579) | (go_at_call 38; (with_reducible refine (impl_IsModel.calls k a0_0 a0_1 a0_2 _ _ l0_3 _ _ l0_4 _ _ l0_5 true _ ?side1 ?side2 ?side3 ?side4 ?side5 ?side6 A3.out).mono ?_); (case side1 => exact Kd.C_w HR0_3 HB); (case side2 => exact HC0_3.out); (case side3 => exact Kd.C_w HR0_4 HB); (case side4 => exact HC0_4.out); (case side5 => exact Kd.C_w HR0_5 HB); (case side6 => exact HC0_5.out); rintro e w19 ⟨rfl, hb⟩; have n0_ := Aside0.mk (blk_below (kp_ BK579) hb); have n1_ := Aside0.mk (below_step (hb_ HB) hb); clear BK579; clear HB; have BK579 := n0_; have HB := n1_; clear n0_ n1_; (try clear hb); (try clear hb2); (try clear hk); (try clear hi); have hcz20_0 : w19.cell? ⟨gb579, 0, none⟩ = some (.int .i64 a0_0) := (blk_cell BK579.out 0).trans rfl; have hcz20_1 : w19.cell? ⟨gb579, 1, none⟩ = some (.int .i64 a0_1) := (blk_cell BK579.out 1).trans rfl; have hcz20_2 : w19.cell? ⟨gb579, 2, none⟩ = some (.int .i64 a0_2) := (blk_cell BK579.out 2).trans rfl; have hcz20_3 : w19.cell? ⟨gb579, 3, none⟩ = some (.slice A0_3 l0_3.length c0_3) := (blk_cell BK579.out 3).trans rfl; have hcz20_4 : w19.cell? ⟨gb579, 4, none⟩ = some (.slice A0_4 l0_4.length c0_4) := (blk_cell BK579.out 4).trans rfl; have hcz20_5 : w19.cell? ⟨gb579, 5, none⟩ = some (.slice A0_5 l0_5.length c0_5) := (blk_cell BK579.out 5).trans rfl; have hfz20_0 := blk_frozen BK579.out 0; have hfz20_1 := blk_frozen BK579.out 1; have hfz20_2 := blk_frozen BK579.out 2; have hfz20_3 := blk_frozen BK579.out 3; have hfz20_4 := blk_frozen BK579.out 4; have hfz20_5 := blk_frozen BK579.out 5; have p581 : 0 ≤ (a1 : Int) := of_decide_eq_true (by first | (with_reducible assumption) | assumption); have q581 : a1 < (l0_3.length : Int) := of_decide_eq_true (by first | (with_reducible assumption) | assumption); obtain ⟨ad581, e581, hx581_0⟩ := Kd.at_int HR0_3.out a1 p581 q581; cases e581; replace hx581_0 := (HB.out.cell (World.block_lt_of_cell? w _ hx581_0)).trans hx581_0; replace p581 := eq_true p581; replace q581 := eq_true q581; have p582 : 0 ≤ (a1 : Int) := of_decide_eq_true (by first | (with_reducible assumption) | assumption); have q582 : a1 < (l0_4.length : Int) := of_decide_eq_true (by first | (with_reducible assumption) | assumption); obtain ⟨ad582, e582, hx582_0⟩ := Kd.at_int HR0_4.out a1 p582 q582; cases e582; replace hx582_0 := (HB.out.cell (World.block_lt_of_cell? w _ hx582_0)).trans hx582_0; replace p582 := eq_true p582; replace q582 := eq_true q582)))
       go_ret2
       exact ⟨by first | rfl | (simp [errW_none, errW_some] <;> rfl) | (simp [*, errW_none, errW_some] <;> rfl), hb_ HB⟩
      ·rw [if_neg c16] at H
       exact absurd H (by simp)
     ·rw [if_neg c15] at H
      exact absurd H (by simp)
    ·rw [if_neg c14] at H
     exact absurd H (by simp)
 ·replace c4 := Bool.eq_false_iff.mpr c4
  subst c4
  have H1 : (some (0, false)) = some (r1, r2) := by rw [if_neg (show ¬ (false = true) by decide)] at H; exact H
  clear H
  have H := H1
  clear H1
  simp only [Option.some.injEq, Prod.mk.injEq] at H
  obtain ⟨rfl, rfl⟩ := H
  go_enter Try.func35, Try.ntmps35
  go_wp2_with (first | ((with_reducible refine gate_dst (N := 2) rfl ?_); (try (refine gate_guard (by rfl) ?_; dsimp only)); refine box_event ?hg (N := 2) ?hd (cs := #[.int .i64 a0_0, .int .i64 a0_1, .int .i64 a0_2, .slice A0_3 l0_3.length c0_3, .slice A0_4 l0_4.length c0_4, .slice A0_5 l0_5.length c0_5]) (t := 30) ?hr ?_; (case hd => rfl); (case hg => rfl); (case hr => first | (go_simp; done) | (go_simp; rfl)); intro gb579 hg w21 hbox hb; have BK579 := Aside0.mk (hbox); have GW579 := gs_ hg HB; have GE579 := gs_ hg HB; replace HB := hbs_ HB hb; clear hb hbox hg; obtain ⟨hcz22_0, hcz22_1, hcz22_2, hcz22_3, hcz22_4, hcz22_5, hfz22_0, hfz22_1, hfz22_2, hfz22_3, hfz22_4, hfz22_5⟩ := bx6 BK579) | (go_at_call 38; (with_reducible refine (impl_IsModel.calls k a0_0 a0_1 a0_2 _ _ l0_3 _ _ l0_4 _ _ l0_5 false _ ?side1 ?side2 ?side3 ?side4 ?side5 ?side6 A3.out).mono ?_); (case side1 => exact Kd.C_w HR0_3 HB); (case side2 => exact HC0_3.out); (case side3 => exact Kd.C_w HR0_4 HB); (case side4 => exact HC0_4.out); (case side5 => exact Kd.C_w HR0_5 HB); (case side6 => exact HC0_5.out); rintro e w23 ⟨rfl, hb⟩; have n0_ := Aside0.mk (blk_below (kp_ BK579) hb); have n1_ := Aside0.mk (below_step (hb_ HB) hb); clear BK579; clear HB; have BK579 := n0_; have HB := n1_; clear n0_ n1_; (try clear hb); (try clear hb2); (try clear hk); (try clear hi)))
  repeat (go_quiet (first | ((with_reducible refine gate_dst (N := 2) rfl ?_); (try (refine gate_guard (by rfl) ?_; dsimp only)); refine box_event ?hg (N := 2) ?hd (cs := #[.int .i64 a0_0, .int .i64 a0_1, .int .i64 a0_2, .slice A0_3 l0_3.length c0_3, .slice A0_4 l0_4.length c0_4, .slice A0_5 l0_5.length c0_5]) (t := 30) ?hr ?_; (case hd => rfl); (case hg => rfl); (case hr => first | (go_simp; done) | (go_simp; rfl)); intro gb579 hg w21 hbox hb; have BK579 := Aside0.mk (hbox); have GW579 := gs_ hg HB; have GE579 := gs_ hg HB; replace HB := hbs_ HB hb; clear hb hbox hg; obtain ⟨hcz22_0, hcz22_1, hcz22_2, hcz22_3, hcz22_4, hcz22_5, hfz22_0, hfz22_1, hfz22_2, hfz22_3, hfz22_4, hfz22_5⟩ := bx6 BK579) | (go_at_call 38; (with_reducible refine (impl_IsModel.calls k a0_0 a0_1 a0_2 _ _ l0_3 _ _ l0_4 _ _ l0_5 false _ ?side1 ?side2 ?side3 ?side4 ?side5 ?side6 A3.out).mono ?_); (case side1 => exact Kd.C_w HR0_3 HB); (case side2 => exact HC0_3.out); (case side3 => exact Kd.C_w HR0_4 HB); (case side4 => exact HC0_4.out); (case side5 => exact Kd.C_w HR0_5 HB); (case side6 => exact HC0_5.out); rintro e w23 ⟨rfl, hb⟩; have n0_ := Aside0.mk (blk_below (kp_ BK579) hb); have n1_ := Aside0.mk (below_step (hb_ HB) hb); clear BK579; clear HB; have BK579 := n0_; have HB := n1_; clear n0_ n1_; (try clear hb); (try clear hb2); (try clear hk); (try clear hi))); try go_wp2_with (first | ((with_reducible refine gate_dst (N := 2) rfl ?_); (try (refine gate_guard (by rfl) ?_; dsimp only)); refine box_event ?hg (N := 2) ?hd (cs := #[.int .i64 a0_0, .int .i64 a0_1, .int .i64 a0_2, .slice A0_3 l0_3.length c0_3, .slice A0_4 l0_4.length c0_4, .slice A0_5 l0_5.length c0_5]) (t := 30) ?hr ?_; (case hd => rfl); (case hg => rfl); (case hr => first | (go_simp; done) | (go_simp; rfl)); intro gb579 hg w21 hbox hb; have BK579 := Aside0.mk (hbox); have GW579 := gs_ hg HB; have GE579 := gs_ hg HB; replace HB := hbs_ HB hb; clear hb hbox hg; obtain ⟨hcz22_0, hcz22_1, hcz22_2, hcz22_3, hcz22_4, hcz22_5, hfz22_0, hfz22_1, hfz22_2, hfz22_3, hfz22_4, hfz22_5⟩ := bx6 BK579) | (go_at_call 38; (with_reducible refine (impl_IsModel.calls k a0_0 a0_1 a0_2 _ _ l0_3 _ _ l0_4 _ _ l0_5 false _ ?side1 ?side2 ?side3 ?side4 ?side5 ?side6 A3.out).mono ?_); (case side1 => exact Kd.C_w HR0_3 HB); (case side2 => exact HC0_3.out); (case side3 => exact Kd.C_w HR0_4 HB); (case side4 => exact HC0_4.out); (case side5 => exact Kd.C_w HR0_5 HB); (case side6 => exact HC0_5.out); rintro e w23 ⟨rfl, hb⟩; have n0_ := Aside0.mk (blk_below (kp_ BK579) hb); have n1_ := Aside0.mk (below_step (hb_ HB) hb); clear BK579; clear HB; have BK579 := n0_; have HB := n1_; clear n0_ n1_; (try clear hb); (try clear hb2); (try clear hk); (try clear hi))))
  go_ret2
  exact ⟨by first | rfl | (simp [errW_none, errW_some] <;> rfl) | (simp [*, errW_none, errW_some] <;> rfl), hb_ HB⟩

/-! ### spec_MetalOf: function 36 -/
def spec_MetalOf.f (k : Nat) (a0_0 : Int) (a0_1 : Int) (a0_2 : Int) (l0_3 : List Int) (l0_4 : List Int) (l0_5 : List Int) (a1 : Int) : Option (Int × Bool) := (spec_moHas.f k a0_0 a0_1 a0_2 l0_3 l0_4 l0_5 a1).bind fun t584 => (if t584 = true then ((spec_moMetal.f a0_0 a0_1 a0_2 l0_3 l0_4 l0_5 a1).bind fun t585 => (some (t585, true))) else (some (0, false)))
set_option maxHeartbeats 8000000 in
set_option maxRecDepth 100000 in
theorem spec_MetalOf.calls (k : Nat) (a0_0 : Int) (a0_1 : Int) (a0_2 : Int) (A0_3 : Option Addr) (c0_3 : Nat) (l0_3 : List Int) (A0_4 : Option Addr) (c0_4 : Nat) (l0_4 : List Int) (A0_5 : Option Addr) (c0_5 : Nat) (l0_5 : List Int) (a1 : Int) (r1 : Int) (r2 : Bool) (w : World) (hr0_3 : Kd.C (Kd.int .i64) w A0_3 l0_3.length l0_3) (hc0_3 : l0_3.length ≤ c0_3) (hr0_4 : Kd.C (Kd.int .i64) w A0_4 l0_4.length l0_4) (hc0_4 : l0_4.length ≤ c0_4) (hr0_5 : Kd.C (Kd.int .i64) w A0_5 l0_5.length l0_5) (hc0_5 : l0_5.length ≤ c0_5) (h : spec_MetalOf.f k a0_0 a0_1 a0_2 l0_3 l0_4 l0_5 a1 = some (r1, r2)) :
  Calls Try.prog 36 #[.agg #[.int .i64 a0_0, .int .i64 a0_1, .int .i64 a0_2, .slice A0_3 l0_3.length c0_3, .slice A0_4 l0_4.length c0_4, .slice A0_5 l0_5.length c0_5], .int .i64 a1] w fun e w' => e = .returned (.tuple #[.int .i64 r1, .bool r2]) ∧ Below w.heap.size w w' := by
 have hu30 := Try.underlying30
 have HR0_3 := Aside0.mk hr0_3
 have HC0_3 := Aside0.mk hc0_3
 clear hr0_3 hc0_3
 have HR0_4 := Aside0.mk hr0_4
 have HC0_4 := Aside0.mk hc0_4
 clear hr0_4 hc0_4
 have HR0_5 := Aside0.mk hr0_5
 have HC0_5 := Aside0.mk hc0_5
 clear hr0_5 hc0_5
 have HB := Aside0.mk (Below.refl w.heap.size w)
 have H : ((spec_moHas.f k a0_0 a0_1 a0_2 l0_3 l0_4 l0_5 a1).bind fun t584 => (if t584 = true then ((spec_moMetal.f a0_0 a0_1 a0_2 l0_3 l0_4 l0_5 a1).bind fun t585 => (some (t585, true))) else (some (0, false)))) = some (r1, r2) := h
 clear h
 replace H := Option.bind_eq_some_iff.mp H
 obtain ⟨t584, A30, H⟩ := H
 replace H : (if t584 = true then ((spec_moMetal.f a0_0 a0_1 a0_2 l0_3 l0_4 l0_5 a1).bind fun t585 => (some (t585, true))) else (some (0, false))) = some (r1, r2) := H
 have A3 := Aside0.mk A30
 clear A30
 by_cases c4 : t584 = true
 ·subst c4
  have H1 : ((spec_moMetal.f a0_0 a0_1 a0_2 l0_3 l0_4 l0_5 a1).bind fun t585 => (some (t585, true))) = some (r1, r2) := by rw [if_pos rfl] at H; exact H
  clear H
  have H := H1
  clear H1
  replace H := Option.bind_eq_some_iff.mp H
  obtain ⟨t585, A50, H⟩ := H
  replace H : (some (t585, true)) = some (r1, r2) := H
  have A5 := Aside0.mk A50
  clear A50
  simp only [Option.some.injEq, Prod.mk.injEq] at H
  obtain ⟨rfl, rfl⟩ := H
  go_enter Try.func36, Try.ntmps36
  go_wp2_with (first | ((with_reducible refine gate_dst (N := 2) rfl ?_); refine box_event ?hg (N := 2) ?hd (cs := #[.int .i64 a0_0, .int .i64 a0_1, .int .i64 a0_2, .slice A0_3 l0_3.length c0_3, .slice A0_4 l0_4.length c0_4, .slice A0_5 l0_5.length c0_5]) (t := 30) ?hr ?_; (case hd => rfl); (case hg => rfl); (case hr => first | (go_simp; done) | (go_simp; rfl)); intro gb583 hg w6 hbox hb; have BK583 := Aside0.mk (hbox); have GW583 := gs_ hg HB; have GE583 := gs_ hg HB; replace HB := hbs_ HB hb; clear hb hbox hg; obtain ⟨hcz7_0, hcz7_1, hcz7_2, hcz7_3, hcz7_4, hcz7_5, hfz7_0, hfz7_1, hfz7_2, hfz7_3, hfz7_4, hfz7_5⟩ := bx6 BK583) | ((with_reducible refine gate_callee (f := 40) rfl ?_); refine gl_ (some 8) Try.func40 #[.agg #[.int .i64 a0_0, .int .i64 a0_1, .int .i64 a0_2, .slice A0_3 l0_3.length c0_3, .slice A0_4 l0_4.length c0_4, .slice A0_5 l0_5.length c0_5], .int .i64 a1] rfl rfl rfl ?_; (with_reducible refine (spec_moHas.calls k a0_0 a0_1 a0_2 _ _ l0_3 _ _ l0_4 _ _ l0_5 a1 true _ ?side1 ?side2 ?side3 ?side4 ?side5 ?side6 A3.out).mono ?_); (case side1 => exact Kd.C_w HR0_3 HB); (case side2 => exact HC0_3.out); (case side3 => exact Kd.C_w HR0_4 HB); (case side4 => exact HC0_4.out); (case side5 => exact Kd.C_w HR0_5 HB); (case side6 => exact HC0_5.out); rintro e w8 ⟨rfl, hb⟩; refine ⟨_, rfl, ?_⟩; replace BK583 := kb_ BK583 hb; replace HB := hbs_ HB hb; (try clear hb); (try clear hb2); (try clear hk); (try clear hi); obtain ⟨hcz9_0, hcz9_1, hcz9_2, hcz9_3, hcz9_4, hcz9_5, hfz9_0, hfz9_1, hfz9_2, hfz9_3, hfz9_4, hfz9_5⟩ := bx6 BK583) | ((with_reducible refine gate_callee (f := 61) rfl ?_); refine gl_ (some 12) Try.func61 #[.agg #[.int .i64 a0_0, .int .i64 a0_1, .int .i64 a0_2, .slice A0_3 l0_3.length c0_3, .slice A0_4 l0_4.length c0_4, .slice A0_5 l0_5.length c0_5], .int .i64 a1] rfl rfl rfl ?_; (with_reducible refine (spec_moMetal.calls a0_0 a0_1 a0_2 _ _ l0_3 _ _ l0_4 _ _ l0_5 a1 t585 _ ?side1 ?side2 ?side3 ?side4 ?side5 ?side6 A5.out).mono ?_); (case side1 => exact Kd.C_w HR0_3 HB); (case side2 => exact HC0_3.out); (case side3 => exact Kd.C_w HR0_4 HB); (case side4 => exact HC0_4.out); (case side5 => exact Kd.C_w HR0_5 HB); (case side6 => exact HC0_5.out); rintro e w10 ⟨rfl, hb⟩; refine ⟨_, rfl, ?_⟩; replace BK583 := kb_ BK583 hb; replace HB := hbs_ HB hb; (try clear hb); (try clear hb2); (try clear hk); (try clear hi)))
  go_ret2
  exact ⟨by first | rfl | (simp [errW_none, errW_some] <;> rfl) | (simp [*, errW_none, errW_some] <;> rfl), hb_ HB⟩
 ·replace c4 := Bool.eq_false_iff.mpr c4
  subst c4
  have H1 : (some (0, false)) = some (r1, r2) := by rw [if_neg (show ¬ (false = true) by decide)] at H; exact H
  clear H
  have H := H1
  clear H1
  simp only [Option.some.injEq, Prod.mk.injEq] at H
  obtain ⟨rfl, rfl⟩ := H
  go_enter Try.func36, Try.ntmps36
  go_wp2_with (first | ((with_reducible refine gate_dst (N := 2) rfl ?_); refine box_event ?hg (N := 2) ?hd (cs := #[.int .i64 a0_0, .int .i64 a0_1, .int .i64 a0_2, .slice A0_3 l0_3.length c0_3, .slice A0_4 l0_4.length c0_4, .slice A0_5 l0_5.length c0_5]) (t := 30) ?hr ?_; (case hd => rfl); (case hg => rfl); (case hr => first | (go_simp; done) | (go_simp; rfl)); intro gb583 hg w11 hbox hb; have BK583 := Aside0.mk (hbox); have GW583 := gs_ hg HB; have GE583 := gs_ hg HB; replace HB := hbs_ HB hb; clear hb hbox hg; obtain ⟨hcz12_0, hcz12_1, hcz12_2, hcz12_3, hcz12_4, hcz12_5, hfz12_0, hfz12_1, hfz12_2, hfz12_3, hfz12_4, hfz12_5⟩ := bx6 BK583) | ((with_reducible refine gate_callee (f := 40) rfl ?_); refine gl_ (some 8) Try.func40 #[.agg #[.int .i64 a0_0, .int .i64 a0_1, .int .i64 a0_2, .slice A0_3 l0_3.length c0_3, .slice A0_4 l0_4.length c0_4, .slice A0_5 l0_5.length c0_5], .int .i64 a1] rfl rfl rfl ?_; (with_reducible refine (spec_moHas.calls k a0_0 a0_1 a0_2 _ _ l0_3 _ _ l0_4 _ _ l0_5 a1 false _ ?side1 ?side2 ?side3 ?side4 ?side5 ?side6 A3.out).mono ?_); (case side1 => exact Kd.C_w HR0_3 HB); (case side2 => exact HC0_3.out); (case side3 => exact Kd.C_w HR0_4 HB); (case side4 => exact HC0_4.out); (case side5 => exact Kd.C_w HR0_5 HB); (case side6 => exact HC0_5.out); rintro e w13 ⟨rfl, hb⟩; refine ⟨_, rfl, ?_⟩; replace BK583 := kb_ BK583 hb; replace HB := hbs_ HB hb; (try clear hb); (try clear hb2); (try clear hk); (try clear hi)))
  go_ret2
  exact ⟨by first | rfl | (simp [errW_none, errW_some] <;> rfl) | (simp [*, errW_none, errW_some] <;> rfl), hb_ HB⟩

/-! ### laws_pSameModel: function 37 -/
def laws_pSameModel.f (k : Nat) (a0_0 : Int) (a0_1 : Int) (a0_2 : Int) (l0_3 : List Int) (l0_4 : List Int) (l0_5 : List Int) (a1_0 : Int) (a1_1 : Int) (a1_2 : Int) (l1_3 : List Int) (l1_4 : List Int) (l1_5 : List Int) : Option (Bool) := if (a0_0 == a1_0 && (a0_1 == a1_1 && (a0_2 == a1_2))) = true then ((laws_sameInts.f k l0_3 l1_3).bind fun t588 => (if t588 = true then ((laws_sameInts.f k l0_4 l1_4).bind fun t589 => (if t589 = true then ((laws_sameInts.f k l0_5 l1_5).bind fun t590 => (some t590)) else (some false))) else (some false))) else (some false)
set_option maxHeartbeats 8000000 in
set_option maxRecDepth 100000 in
theorem laws_pSameModel.calls (k : Nat) (a0_0 : Int) (a0_1 : Int) (a0_2 : Int) (A0_3 : Option Addr) (c0_3 : Nat) (l0_3 : List Int) (A0_4 : Option Addr) (c0_4 : Nat) (l0_4 : List Int) (A0_5 : Option Addr) (c0_5 : Nat) (l0_5 : List Int) (a1_0 : Int) (a1_1 : Int) (a1_2 : Int) (A1_3 : Option Addr) (c1_3 : Nat) (l1_3 : List Int) (A1_4 : Option Addr) (c1_4 : Nat) (l1_4 : List Int) (A1_5 : Option Addr) (c1_5 : Nat) (l1_5 : List Int) (r : Bool) (w : World) (hr0_3 : Kd.C (Kd.int .i64) w A0_3 l0_3.length l0_3) (hc0_3 : l0_3.length ≤ c0_3) (hr0_4 : Kd.C (Kd.int .i64) w A0_4 l0_4.length l0_4) (hc0_4 : l0_4.length ≤ c0_4) (hr0_5 : Kd.C (Kd.int .i64) w A0_5 l0_5.length l0_5) (hc0_5 : l0_5.length ≤ c0_5) (hr1_3 : Kd.C (Kd.int .i64) w A1_3 l1_3.length l1_3) (hc1_3 : l1_3.length ≤ c1_3) (hr1_4 : Kd.C (Kd.int .i64) w A1_4 l1_4.length l1_4) (hc1_4 : l1_4.length ≤ c1_4) (hr1_5 : Kd.C (Kd.int .i64) w A1_5 l1_5.length l1_5) (hc1_5 : l1_5.length ≤ c1_5) (h : laws_pSameModel.f k a0_0 a0_1 a0_2 l0_3 l0_4 l0_5 a1_0 a1_1 a1_2 l1_3 l1_4 l1_5 = some r) :
  Calls Try.prog 37 #[.agg #[.int .i64 a0_0, .int .i64 a0_1, .int .i64 a0_2, .slice A0_3 l0_3.length c0_3, .slice A0_4 l0_4.length c0_4, .slice A0_5 l0_5.length c0_5], .agg #[.int .i64 a1_0, .int .i64 a1_1, .int .i64 a1_2, .slice A1_3 l1_3.length c1_3, .slice A1_4 l1_4.length c1_4, .slice A1_5 l1_5.length c1_5]] w fun e w' => e = .returned (.bool r) ∧ Below w.heap.size w w' := by
 have hu30 := Try.underlying30
 have hu28 := Try.underlying28
 have HR0_3 := Aside0.mk hr0_3
 have HC0_3 := Aside0.mk hc0_3
 clear hr0_3 hc0_3
 have HR0_4 := Aside0.mk hr0_4
 have HC0_4 := Aside0.mk hc0_4
 clear hr0_4 hc0_4
 have HR0_5 := Aside0.mk hr0_5
 have HC0_5 := Aside0.mk hc0_5
 clear hr0_5 hc0_5
 have HR1_3 := Aside0.mk hr1_3
 have HC1_3 := Aside0.mk hc1_3
 clear hr1_3 hc1_3
 have HR1_4 := Aside0.mk hr1_4
 have HC1_4 := Aside0.mk hc1_4
 clear hr1_4 hc1_4
 have HR1_5 := Aside0.mk hr1_5
 have HC1_5 := Aside0.mk hc1_5
 clear hr1_5 hc1_5
 have HB := Aside0.mk (Below.refl w.heap.size w)
 have H : (if (a0_0 == a1_0 && (a0_1 == a1_1 && (a0_2 == a1_2))) = true then ((laws_sameInts.f k l0_3 l1_3).bind fun t588 => (if t588 = true then ((laws_sameInts.f k l0_4 l1_4).bind fun t589 => (if t589 = true then ((laws_sameInts.f k l0_5 l1_5).bind fun t590 => (some t590)) else (some false))) else (some false))) else (some false)) = some r := h
 clear h
 by_cases c3 : (a0_0 == a1_0 && (a0_1 == a1_1 && (a0_2 == a1_2))) = true
 ·rw [if_pos c3] at H
  have c3b0 : (a0_0 == a1_0 && (a0_1 == a1_1 && (a0_2 == a1_2))) = true := c3
  (try (have c3b1 : decide (a0_0 = a1_0 && (a0_1 == a1_1 && (a0_2 == a1_2))) = true := by simpa using c3))
  (try (have c3b2 : (a0_0 == a1_0 && (a0_1 == a1_1 && (a0_2 == a1_2))) = true := by simpa using c3))
  clear c3
  replace H := Option.bind_eq_some_iff.mp H
  obtain ⟨t588, A40, H⟩ := H
  replace H : (if t588 = true then ((laws_sameInts.f k l0_4 l1_4).bind fun t589 => (if t589 = true then ((laws_sameInts.f k l0_5 l1_5).bind fun t590 => (some t590)) else (some false))) else (some false)) = some r := H
  have A4 := Aside0.mk A40
  clear A40
  by_cases c5 : t588 = true
  ·subst c5
   have H1 : ((laws_sameInts.f k l0_4 l1_4).bind fun t589 => (if t589 = true then ((laws_sameInts.f k l0_5 l1_5).bind fun t590 => (some t590)) else (some false))) = some r := by rw [if_pos rfl] at H; exact H
   clear H
   have H := H1
   clear H1
   replace H := Option.bind_eq_some_iff.mp H
   obtain ⟨t589, A60, H⟩ := H
   replace H : (if t589 = true then ((laws_sameInts.f k l0_5 l1_5).bind fun t590 => (some t590)) else (some false)) = some r := H
   have A6 := Aside0.mk A60
   clear A60
   by_cases c7 : t589 = true
   ·subst c7
    have H1 : ((laws_sameInts.f k l0_5 l1_5).bind fun t590 => (some t590)) = some r := by rw [if_pos rfl] at H; exact H
    clear H
    have H := H1
    clear H1
    replace H := Option.bind_eq_some_iff.mp H
    obtain ⟨t590, A80, H⟩ := H
    replace H : (some t590) = some r := H
    have A8 := Aside0.mk A80
    clear A80
    obtain rfl := Option.some.inj H
    go_enter Try.func37, Try.ntmps37
    go_wp2_with (first | ((with_reducible refine gate_dst (N := 2) rfl ?_); refine box_event ?hg (N := 2) ?hd (cs := #[.int .i64 a0_0, .int .i64 a0_1, .int .i64 a0_2, .slice A0_3 l0_3.length c0_3, .slice A0_4 l0_4.length c0_4, .slice A0_5 l0_5.length c0_5]) (t := 30) ?hr ?_; (case hd => rfl); (case hg => rfl); (case hr => first | (go_simp; done) | (go_simp; rfl)); intro gb586 hg w9 hbox hb; have BK586 := Aside0.mk (hbox); have GW586 := gs_ hg HB; have GE586 := gs_ hg HB; replace HB := hbs_ HB hb; clear hb hbox hg) | ((with_reducible refine gate_dst (N := 3) rfl ?_); refine box_event ?hg (N := 3) ?hd (cs := #[.int .i64 a1_0, .int .i64 a1_1, .int .i64 a1_2, .slice A1_3 l1_3.length c1_3, .slice A1_4 l1_4.length c1_4, .slice A1_5 l1_5.length c1_5]) (t := 30) ?hr ?_; (case hd => rfl); (case hg => rfl); (case hr => first | (go_simp; done) | (go_simp; rfl)); intro gb587 hg w10 hbox hb; have BK587 := Aside0.mk (hbox); have GW587 := gs_ hg HB; have GE587 := gs_ hg HB; have NB586_587 := nl_ hg BK586; have NB587_586 := ng_ hg BK586; replace BK586 := kb_ BK586 hb; replace HB := hbs_ HB hb; clear hb hbox hg; have hnb11 := NB586_587.out; have hnc11 := NB587_586.out; obtain ⟨hcz12_0, hcz12_1, hcz12_2, hcz12_3, hcz12_4, hcz12_5, hfz12_0, hfz12_1, hfz12_2, hfz12_3, hfz12_4, hfz12_5⟩ := bx6 BK586; obtain ⟨hcz13_0, hcz13_1, hcz13_2, hcz13_3, hcz13_4, hcz13_5, hfz13_0, hfz13_1, hfz13_2, hfz13_3, hfz13_4, hfz13_5⟩ := bx6 BK587) | (go_at_call 31; (with_reducible refine (laws_sameInts.calls k _ _ l0_3 _ _ l1_3 true _ ?side1 ?side2 ?side3 ?side4 A4.out).mono ?_); (case side1 => exact Kd.C_w HR0_3 HB); (case side2 => exact HC0_3.out); (case side3 => exact Kd.C_w HR1_3 HB); (case side4 => exact HC1_3.out); rintro e w' ⟨rfl, ⟨nd, rfl⟩⟩) | (go_at_call 31; (with_reducible refine (laws_sameInts.calls k _ _ l0_4 _ _ l1_4 true _ ?side1 ?side2 ?side3 ?side4 A6.out).mono ?_); (case side1 => exact Kd.C_below HR0_4.out (hb_ HB)); (case side2 => exact HC0_4.out); (case side3 => exact Kd.C_below HR1_4.out (hb_ HB)); (case side4 => exact HC1_4.out); rintro e w' ⟨rfl, ⟨nd, rfl⟩⟩) | (go_at_call 31; (with_reducible refine (laws_sameInts.calls k _ _ l0_5 _ _ l1_5 t590 _ ?side1 ?side2 ?side3 ?side4 A8.out).mono ?_); (case side1 => exact Kd.C_below HR0_5.out (hb_ HB)); (case side2 => exact HC0_5.out); (case side3 => exact Kd.C_below HR1_5.out (hb_ HB)); (case side4 => exact HC1_5.out); rintro e w' ⟨rfl, ⟨nd, rfl⟩⟩))
    go_ret
    exact ⟨by first | rfl | (simp [errW_none, errW_some] <;> rfl) | (simp [*, errW_none, errW_some] <;> rfl), hb_ HB⟩
   ·replace c7 := Bool.eq_false_iff.mpr c7
    subst c7
    have H1 : (some false) = some r := by rw [if_neg (show ¬ (false = true) by decide)] at H; exact H
    clear H
    have H := H1
    clear H1
    obtain rfl := Option.some.inj H
    go_enter Try.func37, Try.ntmps37
    go_wp2_with (first | ((with_reducible refine gate_dst (N := 2) rfl ?_); refine box_event ?hg (N := 2) ?hd (cs := #[.int .i64 a0_0, .int .i64 a0_1, .int .i64 a0_2, .slice A0_3 l0_3.length c0_3, .slice A0_4 l0_4.length c0_4, .slice A0_5 l0_5.length c0_5]) (t := 30) ?hr ?_; (case hd => rfl); (case hg => rfl); (case hr => first | (go_simp; done) | (go_simp; rfl)); intro gb586 hg w14 hbox hb; have BK586 := Aside0.mk (hbox); have GW586 := gs_ hg HB; have GE586 := gs_ hg HB; replace HB := hbs_ HB hb; clear hb hbox hg) | ((with_reducible refine gate_dst (N := 3) rfl ?_); refine box_event ?hg (N := 3) ?hd (cs := #[.int .i64 a1_0, .int .i64 a1_1, .int .i64 a1_2, .slice A1_3 l1_3.length c1_3, .slice A1_4 l1_4.length c1_4, .slice A1_5 l1_5.length c1_5]) (t := 30) ?hr ?_; (case hd => rfl); (case hg => rfl); (case hr => first | (go_simp; done) | (go_simp; rfl)); intro gb587 hg w15 hbox hb; have BK587 := Aside0.mk (hbox); have GW587 := gs_ hg HB; have GE587 := gs_ hg HB; have NB586_587 := nl_ hg BK586; have NB587_586 := ng_ hg BK586; replace BK586 := kb_ BK586 hb; replace HB := hbs_ HB hb; clear hb hbox hg; have hnb16 := NB586_587.out; have hnc16 := NB587_586.out; obtain ⟨hcz17_0, hcz17_1, hcz17_2, hcz17_3, hcz17_4, hcz17_5, hfz17_0, hfz17_1, hfz17_2, hfz17_3, hfz17_4, hfz17_5⟩ := bx6 BK586; obtain ⟨hcz18_0, hcz18_1, hcz18_2, hcz18_3, hcz18_4, hcz18_5, hfz18_0, hfz18_1, hfz18_2, hfz18_3, hfz18_4, hfz18_5⟩ := bx6 BK587) | (go_at_call 31; (with_reducible refine (laws_sameInts.calls k _ _ l0_3 _ _ l1_3 true _ ?side1 ?side2 ?side3 ?side4 A4.out).mono ?_); (case side1 => exact Kd.C_w HR0_3 HB); (case side2 => exact HC0_3.out); (case side3 => exact Kd.C_w HR1_3 HB); (case side4 => exact HC1_3.out); rintro e w' ⟨rfl, ⟨nd, rfl⟩⟩) | (go_at_call 31; (with_reducible refine (laws_sameInts.calls k _ _ l0_4 _ _ l1_4 false _ ?side1 ?side2 ?side3 ?side4 A6.out).mono ?_); (case side1 => exact Kd.C_below HR0_4.out (hb_ HB)); (case side2 => exact HC0_4.out); (case side3 => exact Kd.C_below HR1_4.out (hb_ HB)); (case side4 => exact HC1_4.out); rintro e w' ⟨rfl, ⟨nd, rfl⟩⟩))
    go_ret
    exact ⟨by first | rfl | (simp [errW_none, errW_some] <;> rfl) | (simp [*, errW_none, errW_some] <;> rfl), hb_ HB⟩
  ·replace c5 := Bool.eq_false_iff.mpr c5
   subst c5
   have H1 : (some false) = some r := by rw [if_neg (show ¬ (false = true) by decide)] at H; exact H
   clear H
   have H := H1
   clear H1
   obtain rfl := Option.some.inj H
   go_enter Try.func37, Try.ntmps37
   go_wp2_with (first | ((with_reducible refine gate_dst (N := 2) rfl ?_); refine box_event ?hg (N := 2) ?hd (cs := #[.int .i64 a0_0, .int .i64 a0_1, .int .i64 a0_2, .slice A0_3 l0_3.length c0_3, .slice A0_4 l0_4.length c0_4, .slice A0_5 l0_5.length c0_5]) (t := 30) ?hr ?_; (case hd => rfl); (case hg => rfl); (case hr => first | (go_simp; done) | (go_simp; rfl)); intro gb586 hg w19 hbox hb; have BK586 := Aside0.mk (hbox); have GW586 := gs_ hg HB; have GE586 := gs_ hg HB; replace HB := hbs_ HB hb; clear hb hbox hg) | ((with_reducible refine gate_dst (N := 3) rfl ?_); refine box_event ?hg (N := 3) ?hd (cs := #[.int .i64 a1_0, .int .i64 a1_1, .int .i64 a1_2, .slice A1_3 l1_3.length c1_3, .slice A1_4 l1_4.length c1_4, .slice A1_5 l1_5.length c1_5]) (t := 30) ?hr ?_; (case hd => rfl); (case hg => rfl); (case hr => first | (go_simp; done) | (go_simp; rfl)); intro gb587 hg w20 hbox hb; have BK587 := Aside0.mk (hbox); have GW587 := gs_ hg HB; have GE587 := gs_ hg HB; have NB586_587 := nl_ hg BK586; have NB587_586 := ng_ hg BK586; replace BK586 := kb_ BK586 hb; replace HB := hbs_ HB hb; clear hb hbox hg; have hnb21 := NB586_587.out; have hnc21 := NB587_586.out; obtain ⟨hcz22_0, hcz22_1, hcz22_2, hcz22_3, hcz22_4, hcz22_5, hfz22_0, hfz22_1, hfz22_2, hfz22_3, hfz22_4, hfz22_5⟩ := bx6 BK586; obtain ⟨hcz23_0, hcz23_1, hcz23_2, hcz23_3, hcz23_4, hcz23_5, hfz23_0, hfz23_1, hfz23_2, hfz23_3, hfz23_4, hfz23_5⟩ := bx6 BK587) | (go_at_call 31; (with_reducible refine (laws_sameInts.calls k _ _ l0_3 _ _ l1_3 false _ ?side1 ?side2 ?side3 ?side4 A4.out).mono ?_); (case side1 => exact Kd.C_w HR0_3 HB); (case side2 => exact HC0_3.out); (case side3 => exact Kd.C_w HR1_3 HB); (case side4 => exact HC1_3.out); rintro e w' ⟨rfl, ⟨nd, rfl⟩⟩))
   go_ret
   exact ⟨by first | rfl | (simp [errW_none, errW_some] <;> rfl) | (simp [*, errW_none, errW_some] <;> rfl), hb_ HB⟩
 ·rw [if_neg c3] at H
  have c3b0 : (a0_0 == a1_0 && (a0_1 == a1_1 && (a0_2 == a1_2))) = false := by simpa using c3
  (try (have c3b1 : decide (a0_0 = a1_0 && (a0_1 == a1_1 && (a0_2 == a1_2))) = false := by simpa using c3))
  (try (have c3b2 : (a0_0 == a1_0 && (a0_1 == a1_1 && (a0_2 == a1_2))) = false := by simpa using c3))
  (try (have c3b3 : ¬ (a0_0 = a1_0 && (a0_1 == a1_1 && (a0_2 == a1_2))) := by simpa using c3))
  clear c3
  obtain rfl := Option.some.inj H
  go_enter Try.func37, Try.ntmps37
  go_wp2_with (first | ((with_reducible refine gate_dst (N := 2) rfl ?_); refine box_event ?hg (N := 2) ?hd (cs := #[.int .i64 a0_0, .int .i64 a0_1, .int .i64 a0_2, .slice A0_3 l0_3.length c0_3, .slice A0_4 l0_4.length c0_4, .slice A0_5 l0_5.length c0_5]) (t := 30) ?hr ?_; (case hd => rfl); (case hg => rfl); (case hr => first | (go_simp; done) | (go_simp; rfl)); intro gb586 hg w24 hbox hb; have BK586 := Aside0.mk (hbox); have GW586 := gs_ hg HB; have GE586 := gs_ hg HB; replace HB := hbs_ HB hb; clear hb hbox hg) | ((with_reducible refine gate_dst (N := 3) rfl ?_); refine box_event ?hg (N := 3) ?hd (cs := #[.int .i64 a1_0, .int .i64 a1_1, .int .i64 a1_2, .slice A1_3 l1_3.length c1_3, .slice A1_4 l1_4.length c1_4, .slice A1_5 l1_5.length c1_5]) (t := 30) ?hr ?_; (case hd => rfl); (case hg => rfl); (case hr => first | (go_simp; done) | (go_simp; rfl)); intro gb587 hg w25 hbox hb; have BK587 := Aside0.mk (hbox); have GW587 := gs_ hg HB; have GE587 := gs_ hg HB; have NB586_587 := nl_ hg BK586; have NB587_586 := ng_ hg BK586; replace BK586 := kb_ BK586 hb; replace HB := hbs_ HB hb; clear hb hbox hg; have hnb26 := NB586_587.out; have hnc26 := NB587_586.out; obtain ⟨hcz27_0, hcz27_1, hcz27_2, hcz27_3, hcz27_4, hcz27_5, hfz27_0, hfz27_1, hfz27_2, hfz27_3, hfz27_4, hfz27_5⟩ := bx6 BK586; obtain ⟨hcz28_0, hcz28_1, hcz28_2, hcz28_3, hcz28_4, hcz28_5, hfz28_0, hfz28_1, hfz28_2, hfz28_3, hfz28_4, hfz28_5⟩ := bx6 BK587))
  go_ret
  exact ⟨by first | rfl | (simp [errW_none, errW_some] <;> rfl) | (simp [*, errW_none, errW_some] <;> rfl), hb_ HB⟩

end Go.Proofs.Ytdfjlelbkkaloaa.PFnGrades
