-- Laid for this claim by wip/tools/print2.sh, a changed copy of the kit's print (wip/tools/patch_print.py): not by print.sh.
import Derived.Test.YtgeoecfphklcmaaDoorPFnGridsx0
import Derived.Test.YtgeoecfphklcmaaDoorPFnGridsx1
import Derived.Test.YtgeoecfphklcmaaDoorPFnGridsx4
import Derived.Test.YtgeoecfphklcmaaDoorPFnGridsx7
namespace Go.Proofs.YtgeoecfphklcmaaDoor.PFnGrids
open Go.RowKit Go.Proofs.YtgeoecfphklcmaaDoorW.PrintWords Go.Proofs.YtgeoecfphklcmaaDoorW.PrintLast Go.Proofs.YtgeoecfphklcmaaDoorW.PrintMore
attribute [local go_sem] max2_int min2_int max_two min_two max_three min_three max_four min_four   -- for this text's walks alone
set_option linter.unusedVariables false
set_option linter.unusedSimpArgs false

/-! ### spec_DrawParseBlock: function 27 -/
def spec_DrawParseBlock.f (k : Nat) (l0 : List Int) : Option (Int × Int × Int × ByteArray) := (spec_l1Cur_anyGrid.f k l0 0 0).bind fun bt360 => ((spec_grGood.f bt360.1 bt360.2.1 bt360.2.2.1).bind fun t366 => (if t366 = true then ((spec_grCount.f bt360.1 bt360.2.1 bt360.2.2.1).bind fun t367 => ((spec_l1Cur_pick.f l0 bt360.2.2.2.1 bt360.2.2.2.2 t367).bind fun bt368 => ((spec_grName.f k bt360.1 bt360.2.1 bt360.2.2.1 bt368.1).bind fun t371 => ((spec_l1Cur_one.f l0 bt368.2.1 bt368.2.2 3).bind fun bt372 => (if bt372.1 = true then ((spec_l1Cur_spoilt.f k l0 bt372.2.1 bt372.2.2 t371 (⟨#[44, 48, 49, 50, 57]⟩ : ByteArray)).bind fun bt375 => (some (bt360.1, bt360.2.1, bt360.2.2.1, bt375.1))) else (some (bt360.1, bt360.2.1, bt360.2.2.1, t371))))))) else (some (bt360.1, bt360.2.1, bt360.2.2.1, (⟨#[48, 44, 48, 44, 48]⟩ : ByteArray)))))
set_option maxHeartbeats 8000000 in
set_option maxRecDepth 100000 in
theorem spec_DrawParseBlock.calls (k : Nat) (A0 : Option Addr) (c0 : Nat) (l0 : List Int) (r1 : Int) (r2 : Int) (r3 : Int) (r4 : ByteArray) (w : World) (hr0 : Kd.C (Kd.int .u8) w A0 l0.length l0) (hc0 : l0.length ≤ c0) (h : spec_DrawParseBlock.f k l0 = some (r1, r2, r3, r4)) :
  Calls Tryd.prog 27 #[.slice A0 l0.length c0] w fun e w' => e = .returned (.tuple #[.agg #[.int .i64 r1, .int .i64 r2, .int .i64 r3], .string r4]) ∧ Below w.heap.size w w' := by
 have hu26 := Tryd.underlying26
 have hu68 := Tryd.underlying68
 have HR0 := Aside0.mk hr0
 have HC0 := Aside0.mk hc0
 clear hr0 hc0
 have HB := Aside0.mk (Below.refl w.heap.size w)
 have H : ((spec_l1Cur_anyGrid.f k l0 0 0).bind fun bt360 => ((spec_grGood.f bt360.1 bt360.2.1 bt360.2.2.1).bind fun t366 => (if t366 = true then ((spec_grCount.f bt360.1 bt360.2.1 bt360.2.2.1).bind fun t367 => ((spec_l1Cur_pick.f l0 bt360.2.2.2.1 bt360.2.2.2.2 t367).bind fun bt368 => ((spec_grName.f k bt360.1 bt360.2.1 bt360.2.2.1 bt368.1).bind fun t371 => ((spec_l1Cur_one.f l0 bt368.2.1 bt368.2.2 3).bind fun bt372 => (if bt372.1 = true then ((spec_l1Cur_spoilt.f k l0 bt372.2.1 bt372.2.2 t371 (⟨#[44, 48, 49, 50, 57]⟩ : ByteArray)).bind fun bt375 => (some (bt360.1, bt360.2.1, bt360.2.2.1, bt375.1))) else (some (bt360.1, bt360.2.1, bt360.2.2.1, t371))))))) else (some (bt360.1, bt360.2.1, bt360.2.2.1, (⟨#[48, 44, 48, 44, 48]⟩ : ByteArray)))))) = some (r1, r2, r3, r4) := h
 clear h
 replace H := Option.bind_eq_some_iff.mp H
 obtain ⟨⟨t360, t361, t362, t363, t364⟩, A20, H⟩ := H
 replace H : ((spec_grGood.f t360 t361 t362).bind fun t366 => (if t366 = true then ((spec_grCount.f t360 t361 t362).bind fun t367 => ((spec_l1Cur_pick.f l0 t363 t364 t367).bind fun bt368 => ((spec_grName.f k t360 t361 t362 bt368.1).bind fun t371 => ((spec_l1Cur_one.f l0 bt368.2.1 bt368.2.2 3).bind fun bt372 => (if bt372.1 = true then ((spec_l1Cur_spoilt.f k l0 bt372.2.1 bt372.2.2 t371 (⟨#[44, 48, 49, 50, 57]⟩ : ByteArray)).bind fun bt375 => (some (t360, t361, t362, bt375.1))) else (some (t360, t361, t362, t371))))))) else (some (t360, t361, t362, (⟨#[48, 44, 48, 44, 48]⟩ : ByteArray))))) = some (r1, r2, r3, r4) := H
 have A2 := Aside0.mk A20
 clear A20
 replace H := Option.bind_eq_some_iff.mp H
 obtain ⟨t366, A30, H⟩ := H
 replace H : (if t366 = true then ((spec_grCount.f t360 t361 t362).bind fun t367 => ((spec_l1Cur_pick.f l0 t363 t364 t367).bind fun bt368 => ((spec_grName.f k t360 t361 t362 bt368.1).bind fun t371 => ((spec_l1Cur_one.f l0 bt368.2.1 bt368.2.2 3).bind fun bt372 => (if bt372.1 = true then ((spec_l1Cur_spoilt.f k l0 bt372.2.1 bt372.2.2 t371 (⟨#[44, 48, 49, 50, 57]⟩ : ByteArray)).bind fun bt375 => (some (t360, t361, t362, bt375.1))) else (some (t360, t361, t362, t371))))))) else (some (t360, t361, t362, (⟨#[48, 44, 48, 44, 48]⟩ : ByteArray)))) = some (r1, r2, r3, r4) := H
 have A3 := Aside0.mk A30
 clear A30
 by_cases c4 : t366 = true
 ·subst c4
  have H1 : ((spec_grCount.f t360 t361 t362).bind fun t367 => ((spec_l1Cur_pick.f l0 t363 t364 t367).bind fun bt368 => ((spec_grName.f k t360 t361 t362 bt368.1).bind fun t371 => ((spec_l1Cur_one.f l0 bt368.2.1 bt368.2.2 3).bind fun bt372 => (if bt372.1 = true then ((spec_l1Cur_spoilt.f k l0 bt372.2.1 bt372.2.2 t371 (⟨#[44, 48, 49, 50, 57]⟩ : ByteArray)).bind fun bt375 => (some (t360, t361, t362, bt375.1))) else (some (t360, t361, t362, t371))))))) = some (r1, r2, r3, r4) := by rw [if_pos rfl] at H; exact H
  clear H
  have H := H1
  clear H1
  replace H := Option.bind_eq_some_iff.mp H
  obtain ⟨t367, A50, H⟩ := H
  replace H : ((spec_l1Cur_pick.f l0 t363 t364 t367).bind fun bt368 => ((spec_grName.f k t360 t361 t362 bt368.1).bind fun t371 => ((spec_l1Cur_one.f l0 bt368.2.1 bt368.2.2 3).bind fun bt372 => (if bt372.1 = true then ((spec_l1Cur_spoilt.f k l0 bt372.2.1 bt372.2.2 t371 (⟨#[44, 48, 49, 50, 57]⟩ : ByteArray)).bind fun bt375 => (some (t360, t361, t362, bt375.1))) else (some (t360, t361, t362, t371)))))) = some (r1, r2, r3, r4) := H
  have A5 := Aside0.mk A50
  clear A50
  replace H := Option.bind_eq_some_iff.mp H
  obtain ⟨⟨t368, t369, t370⟩, A60, H⟩ := H
  replace H : ((spec_grName.f k t360 t361 t362 t368).bind fun t371 => ((spec_l1Cur_one.f l0 t369 t370 3).bind fun bt372 => (if bt372.1 = true then ((spec_l1Cur_spoilt.f k l0 bt372.2.1 bt372.2.2 t371 (⟨#[44, 48, 49, 50, 57]⟩ : ByteArray)).bind fun bt375 => (some (t360, t361, t362, bt375.1))) else (some (t360, t361, t362, t371))))) = some (r1, r2, r3, r4) := H
  have A6 := Aside0.mk A60
  clear A60
  replace H := Option.bind_eq_some_iff.mp H
  obtain ⟨t371, A70, H⟩ := H
  replace H : ((spec_l1Cur_one.f l0 t369 t370 3).bind fun bt372 => (if bt372.1 = true then ((spec_l1Cur_spoilt.f k l0 bt372.2.1 bt372.2.2 t371 (⟨#[44, 48, 49, 50, 57]⟩ : ByteArray)).bind fun bt375 => (some (t360, t361, t362, bt375.1))) else (some (t360, t361, t362, t371)))) = some (r1, r2, r3, r4) := H
  have A7 := Aside0.mk A70
  clear A70
  replace H := Option.bind_eq_some_iff.mp H
  obtain ⟨⟨t372, t373, t374⟩, A80, H⟩ := H
  replace H : (if t372 = true then ((spec_l1Cur_spoilt.f k l0 t373 t374 t371 (⟨#[44, 48, 49, 50, 57]⟩ : ByteArray)).bind fun bt375 => (some (t360, t361, t362, bt375.1))) else (some (t360, t361, t362, t371))) = some (r1, r2, r3, r4) := H
  have A8 := Aside0.mk A80
  clear A80
  by_cases c9 : t372 = true
  ·subst c9
   have H1 : ((spec_l1Cur_spoilt.f k l0 t373 t374 t371 (⟨#[44, 48, 49, 50, 57]⟩ : ByteArray)).bind fun bt375 => (some (t360, t361, t362, bt375.1))) = some (r1, r2, r3, r4) := by rw [if_pos rfl] at H; exact H
   clear H
   have H := H1
   clear H1
   replace H := Option.bind_eq_some_iff.mp H
   obtain ⟨⟨t375, t376, t377⟩, A100, H⟩ := H
   replace H : (some (t360, t361, t362, t375)) = some (r1, r2, r3, r4) := H
   have A10 := Aside0.mk A100
   clear A100
   simp only [Option.some.injEq, Prod.mk.injEq] at H
   obtain ⟨rfl, rfl, rfl, rfl⟩ := H
   go_enter Tryd.func27, Tryd.ntmps27
   try go_wp2_with (first | ((with_reducible refine gate_dst (N := 2) rfl ?_); refine box_event ?hg (N := 2) ?hd (cs := #[.int .i64 0, .int .i64 0, .int .i64 0]) (t := 26) ?hr ?_; (case hd => rfl); (case hg => rfl); (case hr => first | (go_simp; done) | (go_simp; rfl)); intro gb358 hg w11 hbox hb; have BK358 := Aside0.mk (hbox); have GW358 := gs_ hg HB; have GE358 := gs_ hg HB; replace HB := hbs_ HB hb; clear hb hbox hg) | ((with_reducible refine gate_dst (N := 9) rfl ?_); refine box_event ?hg (N := 9) ?hd (cs := #[.slice A0 l0.length c0, .int .i64 0, .int .u64 0]) (t := 68) ?hr ?_; (case hd => rfl); (case hg => rfl); (case hr => first | (go_simp; done) | (go_simp; rfl)); intro gb359 hg w12 hbox hb; have HI359 := Aside0.mk ((show IsS68 w w12 gb359 l0 0 0 from ⟨A0, c0, hbox, (by rw [hg]; exact (below_size (hb_ HB))), HR0.out⟩)); have GW359 := gs_ hg HB; have GE359 := gs_ hg HB; have NB358_359 := nl_ hg BK358; have NB359_358 := ng_ hg BK358; replace BK358 := kb_ BK358 hb; replace HB := hbs_ HB hb; clear hb hbox hg) | ((with_reducible refine gate_callee (f := 45) rfl ?_); refine gl_ (some 11) Tryd.func45 #[.pointer (some ⟨gb359, 0, none⟩)] rfl rfl rfl ?_; (with_reducible refine (spec_l1Cur_anyGrid.calls k gb359 l0 0 0 t360 t361 t362 t363 t364 w _ ?side1 ?side2 A2.out).mono ?_); (case side1 => exact IsS68.q HI359); (case side2 => exact hbI_ HB (IsS68.ge HI359.out)); rintro e w13 ⟨rfl, hi, hb, hk⟩; refine ⟨_, rfl, ?_⟩; replace BK358 := kk_ BK358 hk NB358_359; replace HB := Aside0.mk (hb); replace HI359 := Aside0.mk (hi); (try clear hb); (try clear hb2); (try clear hk); (try clear hi)) | ((with_reducible refine gate_dst (N := 5) rfl ?_); refine box_event ?hg (N := 5) ?hd (cs := #[.int .i64 0, .int .i64 0, .int .i64 0]) (t := 26) ?hr ?_; (case hd => rfl); (case hg => rfl); (case hr => first | (go_simp; done) | (go_simp; rfl)); intro gb365 hg w14 hbox hb; have BK365 := Aside0.mk (hbox); have GW365 := Aside0.mk ((by rw [hg]; exact (below_size (hbI_ HB (IsS68.ge HI359.out))) : w.heap.size ≤ gb365)); have GE365 := Aside0.mk ((by rw [hg]; exact (below_size (hbI_ HB (IsS68.ge HI359.out))) : w.heap.size ≤ gb365)); have NB358_365 := nl_ hg BK358; have NB365_358 := ng_ hg BK358; have NB359_365 := Aside0.mk ((by rw [hg]; exact Nat.ne_of_lt (IsS68.lt (show IsS68 w _ gb359 l0 t363 t364 from IsS68.q HI359)) : gb359 ≠ gb365)); have NB365_359 := Aside0.mk ((by rw [hg]; exact Nat.ne_of_gt (IsS68.lt (show IsS68 w _ gb359 l0 t363 t364 from IsS68.q HI359)) : gb365 ≠ gb359)); replace BK358 := kb_ BK358 hb; replace HB := Aside0.mk (below_step (hbI_ HB (IsS68.ge HI359.out)) hb); replace HI359 := IsS68.b HI359 hb; clear hb hbox hg; have hnb15 := NB365_358.out; have hnc15 := NB358_365.out; have hnb16 := NB365_359.out; have hnc16 := NB359_365.out; obtain ⟨hcz17_0, hcz17_1, hcz17_2, hfz17_0, hfz17_1, hfz17_2⟩ := bx3 BK365) | ((with_reducible refine gate_callee (f := 39) rfl ?_); refine gl_ (some 13) Tryd.func39 #[.agg #[.int .i64 t360, .int .i64 t361, .int .i64 t362]] rfl rfl rfl ?_; (with_reducible refine (spec_grGood.calls t360 t361 t362 true _ A3.out).mono ?_); rintro e w18 ⟨rfl, hb⟩; refine ⟨_, rfl, ?_⟩; replace BK358 := kfb_ BK358 NB358_365 hb; replace BK365 := Aside0.mk (blk_below (g := gb365) (o := .cells #[.int .i64 t360, .int .i64 t361, .int .i64 t362] 26 (0, 0)) (kpq_ (kputs BK365 [(0, _), (1, _), (2, _)])) hb); replace HB := Aside0.mk (below_step (hbI_ HB (IsS68.ge HI359.out)) hb); replace HI359 := Aside0.mk (IsS68.below (show IsS68 w (((w14.setCell ⟨gb365, 0, none⟩ (.int .i64 t360)).setCell ⟨gb365, 1, none⟩ (.int .i64 t361)).setCell ⟨gb365, 2, none⟩ (.int .i64 t362)) gb359 l0 t363 t364 from IsS68.q HI359) hb); (try clear hb); (try clear hb2); (try clear hk); (try clear hi)))
   have n0_ := Aside0.mk (blk_drew BK358.out)
   have n1_ := Aside0.mk (blk_drew BK365.out)
   have n2_ := Aside0.mk (IsS68.drew HI359.out)
   have n3_ := Aside0.mk (below_drew1 HB.out)
   clear BK358
   clear BK365
   clear HI359
   clear HB
   have BK358 := n0_
   have BK365 := n1_
   have HI359 := n2_
   have HB := n3_
   clear n0_ n1_ n2_ n3_
   refine start_ (n := 7) (S := fun w' => w'.cell? ⟨gb365, 0, none⟩ = some (.int .i64 t360) ∧ w'.cell? ⟨gb365, 1, none⟩ = some (.int .i64 t361) ∧ w'.cell? ⟨gb365, 2, none⟩ = some (.int .i64 t362)) (ds := []) #[false, false, false, false, false, false, false] (by kernel_rfl) rfl rfl ⟨(blk_cell BK365.out 0).trans rfl, (blk_cell BK365.out 1).trans rfl, (blk_cell BK365.out 2).trans rfl⟩ (fun hHeld => ?_)
   generalize w18.drew = w19 at BK358 BK365 HI359 HB hHeld ⊢
   refine pure_ (i := 1) (N := some 17) (v := ?_) (a' := ?_) #[false, true, false, false, false, false, false] rfl rfl (by kernel_rfl) (fun _ _ _ h => h) (Or.inl ⟨by rfl, ?_⟩) ?_ ?_
   rotate_left
   ·intro w'
    go_simp
    with_reducible rfl
   rotate_left
   ·simp only [Act.put, List.setIfInBounds_toArray, List.set_cons_zero, List.set_cons_succ, i64_w, i32_w]
    rfl
   refine take_ (i := 0) (N := some 16) (v := ?_) (a' := ?_) #[true, true, false, false, false, false, false] rfl rfl (by kernel_rfl) (fun _ _ _ h => h) (Or.inl ⟨by rfl, ?_⟩) hHeld ?_ ?_
   rotate_left
   ·rintro w' ⟨s0, s1, s2⟩
    go_simp
    with_reducible rfl
   rotate_left
   ·simp only [Act.put, List.setIfInBounds_toArray, List.set_cons_zero, List.set_cons_succ, i64_w, i32_w]
    rfl
   refine take_ (i := 2) (N := some 18) (v := ?_) (a' := ?_) #[true, true, true, false, false, false, false] rfl rfl (by kernel_rfl) (fun _ _ _ h => h) (Or.inl ⟨by rfl, ?_⟩) hHeld ?_ ?_
   rotate_left
   ·rintro w' ⟨s0, s1, s2⟩
    go_simp
    with_reducible rfl
   rotate_left
   ·simp only [Act.put, List.setIfInBounds_toArray, List.set_cons_zero, List.set_cons_succ, i64_w, i32_w]
    rfl
   refine one_ (i := 3) (N := some 19) #[true, true, true, true, false, false, false] rfl rfl (by kernel_rfl) (by decide) (fun K hK => ?_)
   refine goes_ Tryd.func53 (by kernel_rfl) rfl #[.agg #[.int .i64 t360, .int .i64 t361, .int .i64 t362]] (by rfl) rfl rfl (by (try simp only [List.map_toArray, List.map_cons, List.map_nil]); first | done | rfl | (simp only [List.length_drop, List.length_take]; rfl)) ?_
   with_reducible refine (spec_grCount.calls t360 t361 t362 t367 _ A5.out).mono ?_
   rintro e w20 ⟨rfl, hb⟩
   refine ⟨_, rfl, ?_⟩
   have n0_ := Aside0.mk (blk_below (kp_ BK358) hb)
   have n1_ := Aside0.mk (IsS68.below (IsS68.q HI359) hb)
   have n2_ := Aside0.mk (blk_below (kp_ BK365) hb)
   have n3_ := Aside0.mk (below_step (hbI_ HB (IsS68.ge HI359.out)) hb)
   clear BK358
   clear HI359
   clear BK365
   clear HB
   have BK358 := n0_
   have HI359 := n1_
   have BK365 := n2_
   have HB := n3_
   clear n0_ n1_ n2_ n3_
   (try clear hb)
   (try clear hb2)
   (try clear hk)
   (try clear hi)
   refine hK.out _ _ ⟨(blk_cell BK365.out 0).trans rfl, (blk_cell BK365.out 1).trans rfl, (blk_cell BK365.out 2).trans rfl⟩ (fun hHeld => ?_)
   clear hK K
   refine norm_ (a' := ?_) ?_ ?_
   rotate_left
   ·show Act.put _ (some 19) _ = _
    simp only [Act.put, List.setIfInBounds_toArray, List.set_cons_zero, List.set_cons_succ, i64_w, i32_w]
    rfl
   refine one_ (i := 4) (N := some 20) #[true, true, true, true, true, false, false] rfl rfl (by kernel_rfl) (by decide) (fun K hK => ?_)
   refine goes_ Tryd.func52 (by kernel_rfl) rfl #[.pointer (some ⟨gb359, 0, none⟩), .int .i64 t367] (by rfl) rfl rfl (by (try simp only [List.map_toArray, List.map_cons, List.map_nil]); first | done | rfl | (simp only [List.length_drop, List.length_take]; rfl)) ?_
   with_reducible refine (spec_l1Cur_pick.calls gb359 l0 t363 t364 t367 t368 t369 t370 w _ ?side1 ?side2 A6.out).mono ?_
   (case side1 => exact IsS68.q HI359)
   (case side2 => exact hbI_ HB (IsS68.ge HI359.out))
   rintro e w21 ⟨rfl, hi, hb, hk⟩
   refine ⟨_, rfl, ?_⟩
   have n0_ := Aside0.mk (KeepBut.blk hk (kp_ BK358) NB358_359.out (by simp))
   have n1_ := Aside0.mk (KeepBut.blk hk (kp_ BK365) NB365_359.out (by simp))
   have n2_ := Aside0.mk (hb)
   have n3_ := Aside0.mk (hi)
   clear BK358
   clear BK365
   clear HB
   clear HI359
   have BK358 := n0_
   have BK365 := n1_
   have HB := n2_
   have HI359 := n3_
   clear n0_ n1_ n2_ n3_
   (try clear hb)
   (try clear hb2)
   (try clear hk)
   (try clear hi)
   refine hK.out _ _ ⟨(blk_cell BK365.out 0).trans rfl, (blk_cell BK365.out 1).trans rfl, (blk_cell BK365.out 2).trans rfl⟩ (fun hHeld => ?_)
   clear hK K
   refine norm_ (a' := ?_) ?_ ?_
   rotate_left
   ·show Act.put _ (some 20) _ = _
    simp only [Act.put, List.setIfInBounds_toArray, List.set_cons_zero, List.set_cons_succ, i64_w, i32_w]
    rfl
   refine one_ (i := 5) (N := some 21) #[true, true, true, true, true, true, false] rfl rfl (by kernel_rfl) (by decide) (fun K hK => ?_)
   refine goes_ Tryd.func35 (by kernel_rfl) rfl #[.agg #[.int .i64 t360, .int .i64 t361, .int .i64 t362], .int .i64 t368] (by rfl) rfl rfl (by (try simp only [List.map_toArray, List.map_cons, List.map_nil]); first | done | rfl | (simp only [List.length_drop, List.length_take]; rfl)) ?_
   with_reducible refine (spec_grName.calls k t360 t361 t362 t368 t371 _ A7.out).mono ?_
   rintro e w22 ⟨rfl, hb⟩
   refine ⟨_, rfl, ?_⟩
   have n0_ := Aside0.mk (blk_below (kp_ BK358) hb)
   have n1_ := Aside0.mk (IsS68.below (IsS68.q HI359) hb)
   have n2_ := Aside0.mk (blk_below (kp_ BK365) hb)
   have n3_ := Aside0.mk (below_step (hbI_ HB (IsS68.ge HI359.out)) hb)
   clear BK358
   clear HI359
   clear BK365
   clear HB
   have BK358 := n0_
   have HI359 := n1_
   have BK365 := n2_
   have HB := n3_
   clear n0_ n1_ n2_ n3_
   (try clear hb)
   (try clear hb2)
   (try clear hk)
   (try clear hi)
   refine hK.out _ _ ⟨(blk_cell BK365.out 0).trans rfl, (blk_cell BK365.out 1).trans rfl, (blk_cell BK365.out 2).trans rfl⟩ (fun hHeld => ?_)
   clear hK K
   refine norm_ (a' := ?_) ?_ ?_
   rotate_left
   ·show Act.put _ (some 21) _ = _
    simp only [Act.put, List.setIfInBounds_toArray, List.set_cons_zero, List.set_cons_succ, i64_w, i32_w]
    rfl
   refine pure_ (i := 6) (N := some 6) (v := ?_) (a' := ?_) #[true, true, true, true, true, true, true] rfl rfl (by kernel_rfl) (fun _ _ _ h => h) (Or.inl ⟨by rfl, ?_⟩) ?_ ?_
   rotate_left
   ·intro w'
    go_simp
    with_reducible rfl
   rotate_left
   ·simp only [Act.put, List.setIfInBounds_toArray, List.set_cons_zero, List.set_cons_succ, i64_w, i32_w]
    rfl
   refine done_ (by kernel_rfl) ?_
   try go_wp2_with (first | ((with_reducible refine gate_callee (f := 54) rfl ?_); refine gl_ (some 23) Tryd.func54 #[.pointer (some ⟨gb359, 0, none⟩), .int .i64 3] rfl rfl rfl ?_; (with_reducible refine (spec_l1Cur_one.calls gb359 l0 t369 t370 3 true t373 t374 w _ ?side1 ?side2 A8.out).mono ?_); (case side1 => exact IsS68.q HI359); (case side2 => exact hbI_ HB (IsS68.ge HI359.out)); rintro e w23 ⟨rfl, hi, hb, hk⟩; refine ⟨_, rfl, ?_⟩; replace BK358 := kk_ BK358 hk NB358_359; replace BK365 := kk_ BK365 hk NB365_359; replace HB := Aside0.mk (hb); replace HI359 := Aside0.mk (hi); (try clear hb); (try clear hb2); (try clear hk); (try clear hi)))
   have n0_ := Aside0.mk (blk_drew BK358.out)
   have n1_ := Aside0.mk (blk_drew BK365.out)
   have n2_ := Aside0.mk (IsS68.drew HI359.out)
   have n3_ := Aside0.mk (below_drew1 HB.out)
   clear BK358
   clear BK365
   clear HI359
   clear HB
   have BK358 := n0_
   have BK365 := n1_
   have HI359 := n2_
   have HB := n3_
   clear n0_ n1_ n2_ n3_
   refine start_ (n := 6) (S := fun w' => w'.cell? ⟨gb365, 0, none⟩ = some (.int .i64 t360) ∧ w'.cell? ⟨gb365, 1, none⟩ = some (.int .i64 t361) ∧ w'.cell? ⟨gb365, 2, none⟩ = some (.int .i64 t362)) (ds := []) #[false, false, false, false, false, false] (by kernel_rfl) rfl rfl ⟨(blk_cell BK365.out 0).trans rfl, (blk_cell BK365.out 1).trans rfl, (blk_cell BK365.out 2).trans rfl⟩ (fun hHeld => ?_)
   generalize w23.drew = w24 at BK358 BK365 HI359 HB hHeld ⊢
   refine pure_ (i := 1) (N := some 25) (v := ?_) (a' := ?_) #[false, true, false, false, false, false] rfl rfl (by kernel_rfl) (fun _ _ _ h => h) (Or.inl ⟨by rfl, ?_⟩) ?_ ?_
   rotate_left
   ·intro w'
    go_simp
    with_reducible rfl
   rotate_left
   ·simp only [Act.put, List.setIfInBounds_toArray, List.set_cons_zero, List.set_cons_succ, i64_w, i32_w]
    rfl
   refine pure_ (i := 2) (N := some 26) (v := ?_) (a' := ?_) #[false, true, true, false, false, false] rfl rfl (by kernel_rfl) (fun _ _ _ h => h) (Or.inl ⟨by rfl, ?_⟩) ?_ ?_
   rotate_left
   ·intro w'
    go_simp
    with_reducible rfl
   rotate_left
   ·simp only [Act.put, List.setIfInBounds_toArray, List.set_cons_zero, List.set_cons_succ, i64_w, i32_w]
    rfl
   refine take_ (i := 0) (N := some 24) (v := ?_) (a' := ?_) #[true, true, true, false, false, false] rfl rfl (by kernel_rfl) (fun _ _ _ h => h) (Or.inl ⟨by rfl, ?_⟩) hHeld ?_ ?_
   rotate_left
   ·rintro w' ⟨s0, s1, s2⟩
    go_simp
    with_reducible rfl
   rotate_left
   ·simp only [Act.put, List.setIfInBounds_toArray, List.set_cons_zero, List.set_cons_succ, i64_w, i32_w]
    rfl
   refine one_ (i := 3) (N := some 27) #[true, true, true, true, false, false] rfl rfl (by kernel_rfl) (by decide) (fun K hK => ?_)
   refine goes_ Tryd.func55 (by kernel_rfl) rfl #[.pointer (some ⟨gb359, 0, none⟩), .string t371, .string (⟨#[44, 48, 49, 50, 57]⟩ : ByteArray)] (by rfl) rfl rfl (by (try simp only [List.map_toArray, List.map_cons, List.map_nil]); first | done | rfl | (simp only [List.length_drop, List.length_take]; rfl)) ?_
   with_reducible refine (spec_l1Cur_spoilt.calls k gb359 l0 t373 t374 t371 (⟨#[44, 48, 49, 50, 57]⟩ : ByteArray) t375 t376 t377 w _ ?side1 ?side2 A10.out).mono ?_
   (case side1 => exact IsS68.q HI359)
   (case side2 => exact hbI_ HB (IsS68.ge HI359.out))
   rintro e w25 ⟨rfl, hi, hb, hk⟩
   refine ⟨_, rfl, ?_⟩
   have n0_ := Aside0.mk (KeepBut.blk hk (kp_ BK358) NB358_359.out (by simp))
   have n1_ := Aside0.mk (KeepBut.blk hk (kp_ BK365) NB365_359.out (by simp))
   have n2_ := Aside0.mk (hb)
   have n3_ := Aside0.mk (hi)
   clear BK358
   clear BK365
   clear HB
   clear HI359
   have BK358 := n0_
   have BK365 := n1_
   have HB := n2_
   have HI359 := n3_
   clear n0_ n1_ n2_ n3_
   (try clear hb)
   (try clear hb2)
   (try clear hk)
   (try clear hi)
   refine hK.out _ _ ⟨(blk_cell BK365.out 0).trans rfl, (blk_cell BK365.out 1).trans rfl, (blk_cell BK365.out 2).trans rfl⟩ (fun hHeld => ?_)
   clear hK K
   refine norm_ (a' := ?_) ?_ ?_
   rotate_left
   ·show Act.put _ (some 27) _ = _
    simp only [Act.put, List.setIfInBounds_toArray, List.set_cons_zero, List.set_cons_succ, i64_w, i32_w]
    rfl
   refine one_ (i := 4) (N := none) #[true, true, true, true, true, false] rfl rfl (by kernel_rfl) (by decide) (fun K hK => ?_)
   have hs26 : w25.cell? ⟨gb358, 0, none⟩ = some (.int .i64 0) := (blk_cell BK358.out 0).trans rfl
   have hfs26 := blk_frozen BK358.out 0
   have hns26_1 := NB365_358.out
   have hms26_1 := NB358_365.out
   have hs27 : w25.cell? ⟨gb358, 1, none⟩ = some (.int .i64 0) := (blk_cell BK358.out 1).trans rfl
   have hfs27 := blk_frozen BK358.out 1
   have hns27_1 := NB365_358.out
   have hms27_1 := NB358_365.out
   have hs28 : w25.cell? ⟨gb358, 2, none⟩ = some (.int .i64 0) := (blk_cell BK358.out 2).trans rfl
   have hfs28 := blk_frozen BK358.out 2
   have hns28_1 := NB365_358.out
   have hms28_1 := NB358_365.out
   refine skip_ (w1 := ?_) (by rfl) rfl ?_ ?_
   rotate_left
   ·go_simp
    rfl
   refine hK.out _ _ ⟨((cell_far (p := ⟨gb358, _, none⟩) NB365_358.out _).trans (((cell_far (p := ⟨gb358, _, none⟩) NB365_358.out _).trans (((cell_far (p := ⟨gb358, _, none⟩) NB365_358.out _).trans (hHeld.1)))))), ((cell_far (p := ⟨gb358, _, none⟩) NB365_358.out _).trans (((cell_far (p := ⟨gb358, _, none⟩) NB365_358.out _).trans (((cell_far (p := ⟨gb358, _, none⟩) NB365_358.out _).trans (hHeld.2.1)))))), ((cell_far (p := ⟨gb358, _, none⟩) NB365_358.out _).trans (((cell_far (p := ⟨gb358, _, none⟩) NB365_358.out _).trans (((cell_far (p := ⟨gb358, _, none⟩) NB365_358.out _).trans (hHeld.2.2))))))⟩ (fun hHeld => ?_)
   clear hK K
   refine pure_ (i := 5) (N := some 3) (v := ?_) (a' := ?_) #[true, true, true, true, true, true] rfl rfl (by kernel_rfl) (fun _ _ _ h => h) (Or.inl ⟨by rfl, ?_⟩) ?_ ?_
   rotate_left
   ·intro w'
    go_simp
    with_reducible rfl
   rotate_left
   ·simp only [Act.put, List.setIfInBounds_toArray, List.set_cons_zero, List.set_cons_succ, i64_w, i32_w]
    rfl
   refine done_ (by kernel_rfl) ?_
   try go_wp2
   refine bodyPost_ret (results_ct rfl _ _ gb358 26 #[.int .i64 t360, .int .i64 t361, .int .i64 t362] (0, 0) _ rfl (kpq_ (kputs BK358 [(0, _), (1, _), (2, _)])) Tryd.underlying26 rfl (by kernel_rfl)) rfl ?_
   exact ⟨by first | rfl | (simp [errW_none, errW_some] <;> rfl) | (simp [*, errW_none, errW_some] <;> rfl), hbI_ HB (IsS68.ge HI359.out)⟩
  ·replace c9 := Bool.eq_false_iff.mpr c9
   subst c9
   have H1 : (some (t360, t361, t362, t371)) = some (r1, r2, r3, r4) := by rw [if_neg (show ¬ (false = true) by decide)] at H; exact H
   clear H
   have H := H1
   clear H1
   simp only [Option.some.injEq, Prod.mk.injEq] at H
   obtain ⟨rfl, rfl, rfl, rfl⟩ := H
   go_enter Tryd.func27, Tryd.ntmps27
   try go_wp2_with (first | ((with_reducible refine gate_dst (N := 2) rfl ?_); refine box_event ?hg (N := 2) ?hd (cs := #[.int .i64 0, .int .i64 0, .int .i64 0]) (t := 26) ?hr ?_; (case hd => rfl); (case hg => rfl); (case hr => first | (go_simp; done) | (go_simp; rfl)); intro gb358 hg w29 hbox hb; have BK358 := Aside0.mk (hbox); have GW358 := gs_ hg HB; have GE358 := gs_ hg HB; replace HB := hbs_ HB hb; clear hb hbox hg) | ((with_reducible refine gate_dst (N := 9) rfl ?_); refine box_event ?hg (N := 9) ?hd (cs := #[.slice A0 l0.length c0, .int .i64 0, .int .u64 0]) (t := 68) ?hr ?_; (case hd => rfl); (case hg => rfl); (case hr => first | (go_simp; done) | (go_simp; rfl)); intro gb359 hg w30 hbox hb; have HI359 := Aside0.mk ((show IsS68 w w30 gb359 l0 0 0 from ⟨A0, c0, hbox, (by rw [hg]; exact (below_size (hb_ HB))), HR0.out⟩)); have GW359 := gs_ hg HB; have GE359 := gs_ hg HB; have NB358_359 := nl_ hg BK358; have NB359_358 := ng_ hg BK358; replace BK358 := kb_ BK358 hb; replace HB := hbs_ HB hb; clear hb hbox hg) | ((with_reducible refine gate_callee (f := 45) rfl ?_); refine gl_ (some 11) Tryd.func45 #[.pointer (some ⟨gb359, 0, none⟩)] rfl rfl rfl ?_; (with_reducible refine (spec_l1Cur_anyGrid.calls k gb359 l0 0 0 t360 t361 t362 t363 t364 w _ ?side1 ?side2 A2.out).mono ?_); (case side1 => exact IsS68.q HI359); (case side2 => exact hbI_ HB (IsS68.ge HI359.out)); rintro e w31 ⟨rfl, hi, hb, hk⟩; refine ⟨_, rfl, ?_⟩; replace BK358 := kk_ BK358 hk NB358_359; replace HB := Aside0.mk (hb); replace HI359 := Aside0.mk (hi); (try clear hb); (try clear hb2); (try clear hk); (try clear hi)) | ((with_reducible refine gate_dst (N := 5) rfl ?_); refine box_event ?hg (N := 5) ?hd (cs := #[.int .i64 0, .int .i64 0, .int .i64 0]) (t := 26) ?hr ?_; (case hd => rfl); (case hg => rfl); (case hr => first | (go_simp; done) | (go_simp; rfl)); intro gb365 hg w32 hbox hb; have BK365 := Aside0.mk (hbox); have GW365 := Aside0.mk ((by rw [hg]; exact (below_size (hbI_ HB (IsS68.ge HI359.out))) : w.heap.size ≤ gb365)); have GE365 := Aside0.mk ((by rw [hg]; exact (below_size (hbI_ HB (IsS68.ge HI359.out))) : w.heap.size ≤ gb365)); have NB358_365 := nl_ hg BK358; have NB365_358 := ng_ hg BK358; have NB359_365 := Aside0.mk ((by rw [hg]; exact Nat.ne_of_lt (IsS68.lt (show IsS68 w _ gb359 l0 t363 t364 from IsS68.q HI359)) : gb359 ≠ gb365)); have NB365_359 := Aside0.mk ((by rw [hg]; exact Nat.ne_of_gt (IsS68.lt (show IsS68 w _ gb359 l0 t363 t364 from IsS68.q HI359)) : gb365 ≠ gb359)); replace BK358 := kb_ BK358 hb; replace HB := Aside0.mk (below_step (hbI_ HB (IsS68.ge HI359.out)) hb); replace HI359 := IsS68.b HI359 hb; clear hb hbox hg; have hnb33 := NB365_358.out; have hnc33 := NB358_365.out; have hnb34 := NB365_359.out; have hnc34 := NB359_365.out; obtain ⟨hcz35_0, hcz35_1, hcz35_2, hfz35_0, hfz35_1, hfz35_2⟩ := bx3 BK365) | ((with_reducible refine gate_callee (f := 39) rfl ?_); refine gl_ (some 13) Tryd.func39 #[.agg #[.int .i64 t360, .int .i64 t361, .int .i64 t362]] rfl rfl rfl ?_; (with_reducible refine (spec_grGood.calls t360 t361 t362 true _ A3.out).mono ?_); rintro e w36 ⟨rfl, hb⟩; refine ⟨_, rfl, ?_⟩; replace BK358 := kfb_ BK358 NB358_365 hb; replace BK365 := Aside0.mk (blk_below (g := gb365) (o := .cells #[.int .i64 t360, .int .i64 t361, .int .i64 t362] 26 (0, 0)) (kpq_ (kputs BK365 [(0, _), (1, _), (2, _)])) hb); replace HB := Aside0.mk (below_step (hbI_ HB (IsS68.ge HI359.out)) hb); replace HI359 := Aside0.mk (IsS68.below (show IsS68 w (((w32.setCell ⟨gb365, 0, none⟩ (.int .i64 t360)).setCell ⟨gb365, 1, none⟩ (.int .i64 t361)).setCell ⟨gb365, 2, none⟩ (.int .i64 t362)) gb359 l0 t363 t364 from IsS68.q HI359) hb); (try clear hb); (try clear hb2); (try clear hk); (try clear hi)))
   have n0_ := Aside0.mk (blk_drew BK358.out)
   have n1_ := Aside0.mk (blk_drew BK365.out)
   have n2_ := Aside0.mk (IsS68.drew HI359.out)
   have n3_ := Aside0.mk (below_drew1 HB.out)
   clear BK358
   clear BK365
   clear HI359
   clear HB
   have BK358 := n0_
   have BK365 := n1_
   have HI359 := n2_
   have HB := n3_
   clear n0_ n1_ n2_ n3_
   refine start_ (n := 7) (S := fun w' => w'.cell? ⟨gb365, 0, none⟩ = some (.int .i64 t360) ∧ w'.cell? ⟨gb365, 1, none⟩ = some (.int .i64 t361) ∧ w'.cell? ⟨gb365, 2, none⟩ = some (.int .i64 t362)) (ds := []) #[false, false, false, false, false, false, false] (by kernel_rfl) rfl rfl ⟨(blk_cell BK365.out 0).trans rfl, (blk_cell BK365.out 1).trans rfl, (blk_cell BK365.out 2).trans rfl⟩ (fun hHeld => ?_)
   generalize w36.drew = w37 at BK358 BK365 HI359 HB hHeld ⊢
   refine pure_ (i := 1) (N := some 17) (v := ?_) (a' := ?_) #[false, true, false, false, false, false, false] rfl rfl (by kernel_rfl) (fun _ _ _ h => h) (Or.inl ⟨by rfl, ?_⟩) ?_ ?_
   rotate_left
   ·intro w'
    go_simp
    with_reducible rfl
   rotate_left
   ·simp only [Act.put, List.setIfInBounds_toArray, List.set_cons_zero, List.set_cons_succ, i64_w, i32_w]
    rfl
   refine take_ (i := 0) (N := some 16) (v := ?_) (a' := ?_) #[true, true, false, false, false, false, false] rfl rfl (by kernel_rfl) (fun _ _ _ h => h) (Or.inl ⟨by rfl, ?_⟩) hHeld ?_ ?_
   rotate_left
   ·rintro w' ⟨s0, s1, s2⟩
    go_simp
    with_reducible rfl
   rotate_left
   ·simp only [Act.put, List.setIfInBounds_toArray, List.set_cons_zero, List.set_cons_succ, i64_w, i32_w]
    rfl
   refine take_ (i := 2) (N := some 18) (v := ?_) (a' := ?_) #[true, true, true, false, false, false, false] rfl rfl (by kernel_rfl) (fun _ _ _ h => h) (Or.inl ⟨by rfl, ?_⟩) hHeld ?_ ?_
   rotate_left
   ·rintro w' ⟨s0, s1, s2⟩
    go_simp
    with_reducible rfl
   rotate_left
   ·simp only [Act.put, List.setIfInBounds_toArray, List.set_cons_zero, List.set_cons_succ, i64_w, i32_w]
    rfl
   refine one_ (i := 3) (N := some 19) #[true, true, true, true, false, false, false] rfl rfl (by kernel_rfl) (by decide) (fun K hK => ?_)
   refine goes_ Tryd.func53 (by kernel_rfl) rfl #[.agg #[.int .i64 t360, .int .i64 t361, .int .i64 t362]] (by rfl) rfl rfl (by (try simp only [List.map_toArray, List.map_cons, List.map_nil]); first | done | rfl | (simp only [List.length_drop, List.length_take]; rfl)) ?_
   with_reducible refine (spec_grCount.calls t360 t361 t362 t367 _ A5.out).mono ?_
   rintro e w38 ⟨rfl, hb⟩
   refine ⟨_, rfl, ?_⟩
   have n0_ := Aside0.mk (blk_below (kp_ BK358) hb)
   have n1_ := Aside0.mk (IsS68.below (IsS68.q HI359) hb)
   have n2_ := Aside0.mk (blk_below (kp_ BK365) hb)
   have n3_ := Aside0.mk (below_step (hbI_ HB (IsS68.ge HI359.out)) hb)
   clear BK358
   clear HI359
   clear BK365
   clear HB
   have BK358 := n0_
   have HI359 := n1_
   have BK365 := n2_
   have HB := n3_
   clear n0_ n1_ n2_ n3_
   (try clear hb)
   (try clear hb2)
   (try clear hk)
   (try clear hi)
   refine hK.out _ _ ⟨(blk_cell BK365.out 0).trans rfl, (blk_cell BK365.out 1).trans rfl, (blk_cell BK365.out 2).trans rfl⟩ (fun hHeld => ?_)
   clear hK K
   refine norm_ (a' := ?_) ?_ ?_
   rotate_left
   ·show Act.put _ (some 19) _ = _
    simp only [Act.put, List.setIfInBounds_toArray, List.set_cons_zero, List.set_cons_succ, i64_w, i32_w]
    rfl
   refine one_ (i := 4) (N := some 20) #[true, true, true, true, true, false, false] rfl rfl (by kernel_rfl) (by decide) (fun K hK => ?_)
   refine goes_ Tryd.func52 (by kernel_rfl) rfl #[.pointer (some ⟨gb359, 0, none⟩), .int .i64 t367] (by rfl) rfl rfl (by (try simp only [List.map_toArray, List.map_cons, List.map_nil]); first | done | rfl | (simp only [List.length_drop, List.length_take]; rfl)) ?_
   with_reducible refine (spec_l1Cur_pick.calls gb359 l0 t363 t364 t367 t368 t369 t370 w _ ?side1 ?side2 A6.out).mono ?_
   (case side1 => exact IsS68.q HI359)
   (case side2 => exact hbI_ HB (IsS68.ge HI359.out))
   rintro e w39 ⟨rfl, hi, hb, hk⟩
   refine ⟨_, rfl, ?_⟩
   have n0_ := Aside0.mk (KeepBut.blk hk (kp_ BK358) NB358_359.out (by simp))
   have n1_ := Aside0.mk (KeepBut.blk hk (kp_ BK365) NB365_359.out (by simp))
   have n2_ := Aside0.mk (hb)
   have n3_ := Aside0.mk (hi)
   clear BK358
   clear BK365
   clear HB
   clear HI359
   have BK358 := n0_
   have BK365 := n1_
   have HB := n2_
   have HI359 := n3_
   clear n0_ n1_ n2_ n3_
   (try clear hb)
   (try clear hb2)
   (try clear hk)
   (try clear hi)
   refine hK.out _ _ ⟨(blk_cell BK365.out 0).trans rfl, (blk_cell BK365.out 1).trans rfl, (blk_cell BK365.out 2).trans rfl⟩ (fun hHeld => ?_)
   clear hK K
   refine norm_ (a' := ?_) ?_ ?_
   rotate_left
   ·show Act.put _ (some 20) _ = _
    simp only [Act.put, List.setIfInBounds_toArray, List.set_cons_zero, List.set_cons_succ, i64_w, i32_w]
    rfl
   refine one_ (i := 5) (N := some 21) #[true, true, true, true, true, true, false] rfl rfl (by kernel_rfl) (by decide) (fun K hK => ?_)
   refine goes_ Tryd.func35 (by kernel_rfl) rfl #[.agg #[.int .i64 t360, .int .i64 t361, .int .i64 t362], .int .i64 t368] (by rfl) rfl rfl (by (try simp only [List.map_toArray, List.map_cons, List.map_nil]); first | done | rfl | (simp only [List.length_drop, List.length_take]; rfl)) ?_
   with_reducible refine (spec_grName.calls k t360 t361 t362 t368 t371 _ A7.out).mono ?_
   rintro e w40 ⟨rfl, hb⟩
   refine ⟨_, rfl, ?_⟩
   have n0_ := Aside0.mk (blk_below (kp_ BK358) hb)
   have n1_ := Aside0.mk (IsS68.below (IsS68.q HI359) hb)
   have n2_ := Aside0.mk (blk_below (kp_ BK365) hb)
   have n3_ := Aside0.mk (below_step (hbI_ HB (IsS68.ge HI359.out)) hb)
   clear BK358
   clear HI359
   clear BK365
   clear HB
   have BK358 := n0_
   have HI359 := n1_
   have BK365 := n2_
   have HB := n3_
   clear n0_ n1_ n2_ n3_
   (try clear hb)
   (try clear hb2)
   (try clear hk)
   (try clear hi)
   refine hK.out _ _ ⟨(blk_cell BK365.out 0).trans rfl, (blk_cell BK365.out 1).trans rfl, (blk_cell BK365.out 2).trans rfl⟩ (fun hHeld => ?_)
   clear hK K
   refine norm_ (a' := ?_) ?_ ?_
   rotate_left
   ·show Act.put _ (some 21) _ = _
    simp only [Act.put, List.setIfInBounds_toArray, List.set_cons_zero, List.set_cons_succ, i64_w, i32_w]
    rfl
   refine pure_ (i := 6) (N := some 6) (v := ?_) (a' := ?_) #[true, true, true, true, true, true, true] rfl rfl (by kernel_rfl) (fun _ _ _ h => h) (Or.inl ⟨by rfl, ?_⟩) ?_ ?_
   rotate_left
   ·intro w'
    go_simp
    with_reducible rfl
   rotate_left
   ·simp only [Act.put, List.setIfInBounds_toArray, List.set_cons_zero, List.set_cons_succ, i64_w, i32_w]
    rfl
   refine done_ (by kernel_rfl) ?_
   try go_wp2_with (first | ((with_reducible refine gate_callee (f := 54) rfl ?_); refine gl_ (some 23) Tryd.func54 #[.pointer (some ⟨gb359, 0, none⟩), .int .i64 3] rfl rfl rfl ?_; (with_reducible refine (spec_l1Cur_one.calls gb359 l0 t369 t370 3 false t373 t374 w _ ?side1 ?side2 A8.out).mono ?_); (case side1 => exact IsS68.q HI359); (case side2 => exact hbI_ HB (IsS68.ge HI359.out)); rintro e w41 ⟨rfl, hi, hb, hk⟩; refine ⟨_, rfl, ?_⟩; replace BK358 := kk_ BK358 hk NB358_359; replace BK365 := kk_ BK365 hk NB365_359; replace HB := Aside0.mk (hb); replace HI359 := Aside0.mk (hi); (try clear hb); (try clear hb2); (try clear hk); (try clear hi); obtain ⟨hcz42_0, hcz42_1, hcz42_2, hfz42_0, hfz42_1, hfz42_2⟩ := bx3 BK365; have hnb43 := NB358_359.out; have hnc43 := NB359_358.out; obtain ⟨hcz44_0, hcz44_1, hcz44_2, hfz44_0, hfz44_1, hfz44_2⟩ := bx3 BK358))
   refine bodyPost_ret (results_ct rfl _ _ gb358 26 #[.int .i64 t360, .int .i64 t361, .int .i64 t362] (0, 0) _ rfl (kpq_ (kputs BK358 [(0, _), (1, _), (2, _)])) Tryd.underlying26 rfl (by kernel_rfl)) rfl ?_
   exact ⟨by first | rfl | (simp [errW_none, errW_some] <;> rfl) | (simp [*, errW_none, errW_some] <;> rfl), hbI_ HB (IsS68.ge HI359.out)⟩
 ·replace c4 := Bool.eq_false_iff.mpr c4
  subst c4
  have H1 : (some (t360, t361, t362, (⟨#[48, 44, 48, 44, 48]⟩ : ByteArray))) = some (r1, r2, r3, r4) := by rw [if_neg (show ¬ (false = true) by decide)] at H; exact H
  clear H
  have H := H1
  clear H1
  simp only [Option.some.injEq, Prod.mk.injEq] at H
  obtain ⟨rfl, rfl, rfl, rfl⟩ := H
  go_enter Tryd.func27, Tryd.ntmps27
  go_wp2_with (first | ((with_reducible refine gate_dst (N := 2) rfl ?_); refine box_event ?hg (N := 2) ?hd (cs := #[.int .i64 0, .int .i64 0, .int .i64 0]) (t := 26) ?hr ?_; (case hd => rfl); (case hg => rfl); (case hr => first | (go_simp; done) | (go_simp; rfl)); intro gb358 hg w45 hbox hb; have BK358 := Aside0.mk (hbox); have GW358 := gs_ hg HB; have GE358 := gs_ hg HB; replace HB := hbs_ HB hb; clear hb hbox hg) | ((with_reducible refine gate_dst (N := 9) rfl ?_); refine box_event ?hg (N := 9) ?hd (cs := #[.slice A0 l0.length c0, .int .i64 0, .int .u64 0]) (t := 68) ?hr ?_; (case hd => rfl); (case hg => rfl); (case hr => first | (go_simp; done) | (go_simp; rfl)); intro gb359 hg w46 hbox hb; have HI359 := Aside0.mk ((show IsS68 w w46 gb359 l0 0 0 from ⟨A0, c0, hbox, (by rw [hg]; exact (below_size (hb_ HB))), HR0.out⟩)); have GW359 := gs_ hg HB; have GE359 := gs_ hg HB; have NB358_359 := nl_ hg BK358; have NB359_358 := ng_ hg BK358; replace BK358 := kb_ BK358 hb; replace HB := hbs_ HB hb; clear hb hbox hg) | ((with_reducible refine gate_callee (f := 45) rfl ?_); refine gl_ (some 11) Tryd.func45 #[.pointer (some ⟨gb359, 0, none⟩)] rfl rfl rfl ?_; (with_reducible refine (spec_l1Cur_anyGrid.calls k gb359 l0 0 0 t360 t361 t362 t363 t364 w _ ?side1 ?side2 A2.out).mono ?_); (case side1 => exact IsS68.q HI359); (case side2 => exact hbI_ HB (IsS68.ge HI359.out)); rintro e w47 ⟨rfl, hi, hb, hk⟩; refine ⟨_, rfl, ?_⟩; replace BK358 := kk_ BK358 hk NB358_359; replace HB := Aside0.mk (hb); replace HI359 := Aside0.mk (hi); (try clear hb); (try clear hb2); (try clear hk); (try clear hi)) | ((with_reducible refine gate_dst (N := 5) rfl ?_); refine box_event ?hg (N := 5) ?hd (cs := #[.int .i64 0, .int .i64 0, .int .i64 0]) (t := 26) ?hr ?_; (case hd => rfl); (case hg => rfl); (case hr => first | (go_simp; done) | (go_simp; rfl)); intro gb365 hg w48 hbox hb; have BK365 := Aside0.mk (hbox); have GW365 := Aside0.mk ((by rw [hg]; exact (below_size (hbI_ HB (IsS68.ge HI359.out))) : w.heap.size ≤ gb365)); have GE365 := Aside0.mk ((by rw [hg]; exact (below_size (hbI_ HB (IsS68.ge HI359.out))) : w.heap.size ≤ gb365)); have NB358_365 := nl_ hg BK358; have NB365_358 := ng_ hg BK358; have NB359_365 := Aside0.mk ((by rw [hg]; exact Nat.ne_of_lt (IsS68.lt (show IsS68 w _ gb359 l0 t363 t364 from IsS68.q HI359)) : gb359 ≠ gb365)); have NB365_359 := Aside0.mk ((by rw [hg]; exact Nat.ne_of_gt (IsS68.lt (show IsS68 w _ gb359 l0 t363 t364 from IsS68.q HI359)) : gb365 ≠ gb359)); replace BK358 := kb_ BK358 hb; replace HB := Aside0.mk (below_step (hbI_ HB (IsS68.ge HI359.out)) hb); replace HI359 := IsS68.b HI359 hb; clear hb hbox hg; have hnb49 := NB365_358.out; have hnc49 := NB358_365.out; have hnb50 := NB365_359.out; have hnc50 := NB359_365.out; obtain ⟨hcz51_0, hcz51_1, hcz51_2, hfz51_0, hfz51_1, hfz51_2⟩ := bx3 BK365) | ((with_reducible refine gate_callee (f := 39) rfl ?_); refine gl_ (some 13) Tryd.func39 #[.agg #[.int .i64 t360, .int .i64 t361, .int .i64 t362]] rfl rfl rfl ?_; (with_reducible refine (spec_grGood.calls t360 t361 t362 false _ A3.out).mono ?_); rintro e w52 ⟨rfl, hb⟩; refine ⟨_, rfl, ?_⟩; replace BK358 := kfb_ BK358 NB358_365 hb; replace BK365 := Aside0.mk (blk_below (g := gb365) (o := .cells #[.int .i64 t360, .int .i64 t361, .int .i64 t362] 26 (0, 0)) (kpq_ (kputs BK365 [(0, _), (1, _), (2, _)])) hb); replace HB := Aside0.mk (below_step (hbI_ HB (IsS68.ge HI359.out)) hb); replace HI359 := Aside0.mk (IsS68.below (show IsS68 w (((w48.setCell ⟨gb365, 0, none⟩ (.int .i64 t360)).setCell ⟨gb365, 1, none⟩ (.int .i64 t361)).setCell ⟨gb365, 2, none⟩ (.int .i64 t362)) gb359 l0 t363 t364 from IsS68.q HI359) hb); (try clear hb); (try clear hb2); (try clear hk); (try clear hi); obtain ⟨hcz53_0, hcz53_1, hcz53_2, hfz53_0, hfz53_1, hfz53_2⟩ := bx3 BK365; have hnb54 := NB358_359.out; have hnc54 := NB359_358.out; obtain ⟨hcz55_0, hcz55_1, hcz55_2, hfz55_0, hfz55_1, hfz55_2⟩ := bx3 BK358))
  refine bodyPost_ret (results_ct rfl _ _ gb358 26 #[.int .i64 t360, .int .i64 t361, .int .i64 t362] (0, 0) _ rfl (kpq_ (kputs BK358 [(0, _), (1, _), (2, _)])) Tryd.underlying26 rfl (by kernel_rfl)) rfl ?_
  exact ⟨by first | rfl | (simp [errW_none, errW_some] <;> rfl) | (simp [*, errW_none, errW_some] <;> rfl), hbI_ HB (IsS68.ge HI359.out)⟩

/-! ### spec_DrawIsGrid: function 56 -/
def spec_DrawIsGrid.f (k : Nat) (l0 : List Int) : Option (Int × Int × Int) := (spec_l1Cur_anyGrid.f k l0 0 0).bind fun bt380 => (some (bt380.1, bt380.2.1, bt380.2.2.1))
set_option maxHeartbeats 8000000 in
set_option maxRecDepth 100000 in
theorem spec_DrawIsGrid.calls (k : Nat) (A0 : Option Addr) (c0 : Nat) (l0 : List Int) (r1 : Int) (r2 : Int) (r3 : Int) (w : World) (hr0 : Kd.C (Kd.int .u8) w A0 l0.length l0) (hc0 : l0.length ≤ c0) (h : spec_DrawIsGrid.f k l0 = some (r1, r2, r3)) :
  Calls Tryd.prog 56 #[.slice A0 l0.length c0] w fun e w' => e = .returned (.agg #[.int .i64 r1, .int .i64 r2, .int .i64 r3]) ∧ Below w.heap.size w w' := by
 have hu26 := Tryd.underlying26
 have hu68 := Tryd.underlying68
 have HR0 := Aside0.mk hr0
 have HC0 := Aside0.mk hc0
 clear hr0 hc0
 have HB := Aside0.mk (Below.refl w.heap.size w)
 have H : ((spec_l1Cur_anyGrid.f k l0 0 0).bind fun bt380 => (some (bt380.1, bt380.2.1, bt380.2.2.1))) = some (r1, r2, r3) := h
 clear h
 replace H := Option.bind_eq_some_iff.mp H
 obtain ⟨⟨t380, t381, t382, t383, t384⟩, A20, H⟩ := H
 replace H : (some (t380, t381, t382)) = some (r1, r2, r3) := H
 have A2 := Aside0.mk A20
 clear A20
 simp only [Option.some.injEq, Prod.mk.injEq] at H
 obtain ⟨rfl, rfl, rfl⟩ := H
 go_enter Tryd.func56, Tryd.ntmps56
 go_wp2_with (first | ((with_reducible refine gate_dst (N := 2) rfl ?_); refine box_event ?hg (N := 2) ?hd (cs := #[.int .i64 0, .int .i64 0, .int .i64 0]) (t := 26) ?hr ?_; (case hd => rfl); (case hg => rfl); (case hr => first | (go_simp; done) | (go_simp; rfl)); intro gb378 hg w3 hbox hb; have BK378 := Aside0.mk (hbox); have GW378 := gs_ hg HB; have GE378 := gs_ hg HB; replace HB := hbs_ HB hb; clear hb hbox hg) | ((with_reducible refine gate_dst (N := 6) rfl ?_); refine box_event ?hg (N := 6) ?hd (cs := #[.slice A0 l0.length c0, .int .i64 0, .int .u64 0]) (t := 68) ?hr ?_; (case hd => rfl); (case hg => rfl); (case hr => first | (go_simp; done) | (go_simp; rfl)); intro gb379 hg w4 hbox hb; have HI379 := Aside0.mk ((show IsS68 w w4 gb379 l0 0 0 from ⟨A0, c0, hbox, (by rw [hg]; exact (below_size (hb_ HB))), HR0.out⟩)); have GW379 := gs_ hg HB; have GE379 := gs_ hg HB; have NB378_379 := nl_ hg BK378; have NB379_378 := ng_ hg BK378; replace BK378 := kb_ BK378 hb; replace HB := hbs_ HB hb; clear hb hbox hg) | ((with_reducible refine gate_callee (f := 45) rfl ?_); refine gl_ (some 8) Tryd.func45 #[.pointer (some ⟨gb379, 0, none⟩)] rfl rfl rfl ?_; (with_reducible refine (spec_l1Cur_anyGrid.calls k gb379 l0 0 0 t380 t381 t382 t383 t384 w _ ?side1 ?side2 A2.out).mono ?_); (case side1 => exact IsS68.q HI379); (case side2 => exact hbI_ HB (IsS68.ge HI379.out)); rintro e w5 ⟨rfl, hi, hb, hk⟩; refine ⟨_, rfl, ?_⟩; replace BK378 := kk_ BK378 hk NB378_379; replace HB := Aside0.mk (hb); replace HI379 := Aside0.mk (hi); (try clear hb); (try clear hb2); (try clear hk); (try clear hi); have hnb6 := NB378_379.out; have hnc6 := NB379_378.out; obtain ⟨hcz7_0, hcz7_1, hcz7_2, hfz7_0, hfz7_1, hfz7_2⟩ := bx3 BK378))
 refine bodyPost_ret (results_cell_row rfl _ _ gb378 26 #[.int .i64 t380, .int .i64 t381, .int .i64 t382] (0, 0) _ rfl (kpq_ (kputs BK378 [(0, _), (1, _), (2, _)])) Tryd.underlying26 rfl (by kernel_rfl)) rfl ?_
 exact ⟨by first | rfl | (simp [errW_none, errW_some] <;> rfl) | (simp [*, errW_none, errW_some] <;> rfl), hbI_ HB (IsS68.ge HI379.out)⟩

/-! ### spec_DrawGridText: function 28 -/
def spec_DrawGridText.f (k : Nat) (l0 : List Int) : Option (Int × Int × Int) := (spec_DrawIsGrid.f k l0).bind fun bt386 => (some (bt386.1, bt386.2.1, bt386.2.2))
set_option maxHeartbeats 8000000 in
set_option maxRecDepth 100000 in
theorem spec_DrawGridText.calls (k : Nat) (A0 : Option Addr) (c0 : Nat) (l0 : List Int) (r1 : Int) (r2 : Int) (r3 : Int) (w : World) (hr0 : Kd.C (Kd.int .u8) w A0 l0.length l0) (hc0 : l0.length ≤ c0) (h : spec_DrawGridText.f k l0 = some (r1, r2, r3)) :
  Calls Tryd.prog 28 #[.slice A0 l0.length c0] w fun e w' => e = .returned (.agg #[.int .i64 r1, .int .i64 r2, .int .i64 r3]) ∧ Below w.heap.size w w' := by
 have hu26 := Tryd.underlying26
 have HR0 := Aside0.mk hr0
 have HC0 := Aside0.mk hc0
 clear hr0 hc0
 have HB := Aside0.mk (Below.refl w.heap.size w)
 have H : ((spec_DrawIsGrid.f k l0).bind fun bt386 => (some (bt386.1, bt386.2.1, bt386.2.2))) = some (r1, r2, r3) := h
 clear h
 replace H := Option.bind_eq_some_iff.mp H
 obtain ⟨⟨t386, t387, t388⟩, A20, H⟩ := H
 replace H : (some (t386, t387, t388)) = some (r1, r2, r3) := H
 have A2 := Aside0.mk A20
 clear A20
 simp only [Option.some.injEq, Prod.mk.injEq] at H
 obtain ⟨rfl, rfl, rfl⟩ := H
 go_enter Tryd.func28, Tryd.ntmps28
 go_wp2_with (first | ((with_reducible refine gate_dst (N := 2) rfl ?_); refine box_event ?hg (N := 2) ?hd (cs := #[.int .i64 0, .int .i64 0, .int .i64 0]) (t := 26) ?hr ?_; (case hd => rfl); (case hg => rfl); (case hr => first | (go_simp; done) | (go_simp; rfl)); intro gb385 hg w3 hbox hb; have BK385 := Aside0.mk (hbox); have GW385 := gs_ hg HB; have GE385 := gs_ hg HB; replace HB := hbs_ HB hb; clear hb hbox hg) | ((with_reducible refine gate_callee (f := 56) rfl ?_); refine gl_ (some 4) Tryd.func56 #[.slice A0 l0.length c0] rfl rfl rfl ?_; (with_reducible refine (spec_DrawIsGrid.calls k _ _ l0 t386 t387 t388 _ ?side1 ?side2 A2.out).mono ?_); (case side1 => exact Kd.C_w HR0 HB); (case side2 => exact HC0.out); rintro e w4 ⟨rfl, hb⟩; refine ⟨_, rfl, ?_⟩; replace BK385 := kb_ BK385 hb; replace HB := hbs_ HB hb; (try clear hb); (try clear hb2); (try clear hk); (try clear hi); obtain ⟨hcz5_0, hcz5_1, hcz5_2, hfz5_0, hfz5_1, hfz5_2⟩ := bx3 BK385))
 refine bodyPost_ret (results_cell_row rfl _ _ gb385 26 #[.int .i64 t386, .int .i64 t387, .int .i64 t388] (0, 0) _ rfl (kpq_ (kputs BK385 [(0, _), (1, _), (2, _)])) Tryd.underlying26 rfl (by kernel_rfl)) rfl ?_
 exact ⟨by first | rfl | (simp [errW_none, errW_some] <;> rfl) | (simp [*, errW_none, errW_some] <;> rfl), hb_ HB⟩

/-! ### spec_DrawLevelBlocks: function 29 -/
def spec_DrawLevelBlocks.f (k : Nat) (l0 : List Int) : Option (Int × Int × Int × Int) := (spec_l1Cur_anyGrid.f k l0 0 0).bind fun bt391 => ((spec_l1Cur_pick.f l0 bt391.2.2.2.1 bt391.2.2.2.2 5).bind fun bt396 => ((spec_l1Cur_pick.f l0 bt396.2.1 bt396.2.2 16).bind fun bt399 => (some (bt391.1, bt391.2.1, bt391.2.2.1, wrap64 (bt396.1 - (wrap64 (Int.tdiv bt399.1 15)))))))
set_option maxHeartbeats 8000000 in
set_option maxRecDepth 100000 in
theorem spec_DrawLevelBlocks.calls (k : Nat) (A0 : Option Addr) (c0 : Nat) (l0 : List Int) (r1 : Int) (r2 : Int) (r3 : Int) (r4 : Int) (w : World) (hr0 : Kd.C (Kd.int .u8) w A0 l0.length l0) (hc0 : l0.length ≤ c0) (h : spec_DrawLevelBlocks.f k l0 = some (r1, r2, r3, r4)) :
  Calls Tryd.prog 29 #[.slice A0 l0.length c0] w fun e w' => e = .returned (.tuple #[.agg #[.int .i64 r1, .int .i64 r2, .int .i64 r3], .int .i64 r4]) ∧ Below w.heap.size w w' := by
 have hu26 := Tryd.underlying26
 have hu68 := Tryd.underlying68
 have HR0 := Aside0.mk hr0
 have HC0 := Aside0.mk hc0
 clear hr0 hc0
 have HB := Aside0.mk (Below.refl w.heap.size w)
 have H : ((spec_l1Cur_anyGrid.f k l0 0 0).bind fun bt391 => ((spec_l1Cur_pick.f l0 bt391.2.2.2.1 bt391.2.2.2.2 5).bind fun bt396 => ((spec_l1Cur_pick.f l0 bt396.2.1 bt396.2.2 16).bind fun bt399 => (some (bt391.1, bt391.2.1, bt391.2.2.1, wrap64 (bt396.1 - (wrap64 (Int.tdiv bt399.1 15)))))))) = some (r1, r2, r3, r4) := h
 clear h
 replace H := Option.bind_eq_some_iff.mp H
 obtain ⟨⟨t391, t392, t393, t394, t395⟩, A20, H⟩ := H
 replace H : ((spec_l1Cur_pick.f l0 t394 t395 5).bind fun bt396 => ((spec_l1Cur_pick.f l0 bt396.2.1 bt396.2.2 16).bind fun bt399 => (some (t391, t392, t393, wrap64 (bt396.1 - (wrap64 (Int.tdiv bt399.1 15))))))) = some (r1, r2, r3, r4) := H
 have A2 := Aside0.mk A20
 clear A20
 replace H := Option.bind_eq_some_iff.mp H
 obtain ⟨⟨t396, t397, t398⟩, A30, H⟩ := H
 replace H : ((spec_l1Cur_pick.f l0 t397 t398 16).bind fun bt399 => (some (t391, t392, t393, wrap64 (t396 - (wrap64 (Int.tdiv bt399.1 15)))))) = some (r1, r2, r3, r4) := H
 have A3 := Aside0.mk A30
 clear A30
 replace H := Option.bind_eq_some_iff.mp H
 obtain ⟨⟨t399, t400, t401⟩, A40, H⟩ := H
 replace H : (some (t391, t392, t393, wrap64 (t396 - (wrap64 (Int.tdiv t399 15))))) = some (r1, r2, r3, r4) := H
 have A4 := Aside0.mk A40
 clear A40
 simp only [Option.some.injEq, Prod.mk.injEq] at H
 obtain ⟨rfl, rfl, rfl, rfl⟩ := H
 go_enter Tryd.func29, Tryd.ntmps29
 go_wp2_with (first | ((with_reducible refine gate_dst (N := 2) rfl ?_); refine box_event ?hg (N := 2) ?hd (cs := #[.int .i64 0, .int .i64 0, .int .i64 0]) (t := 26) ?hr ?_; (case hd => rfl); (case hg => rfl); (case hr => first | (go_simp; done) | (go_simp; rfl)); intro gb389 hg w5 hbox hb; have BK389 := Aside0.mk (hbox); have GW389 := gs_ hg HB; have GE389 := gs_ hg HB; replace HB := hbs_ HB hb; clear hb hbox hg) | ((with_reducible refine gate_dst (N := 7) rfl ?_); refine box_event ?hg (N := 7) ?hd (cs := #[.slice A0 l0.length c0, .int .i64 0, .int .u64 0]) (t := 68) ?hr ?_; (case hd => rfl); (case hg => rfl); (case hr => first | (go_simp; done) | (go_simp; rfl)); intro gb390 hg w6 hbox hb; have HI390 := Aside0.mk ((show IsS68 w w6 gb390 l0 0 0 from ⟨A0, c0, hbox, (by rw [hg]; exact (below_size (hb_ HB))), HR0.out⟩)); have GW390 := gs_ hg HB; have GE390 := gs_ hg HB; have NB389_390 := nl_ hg BK389; have NB390_389 := ng_ hg BK389; replace BK389 := kb_ BK389 hb; replace HB := hbs_ HB hb; clear hb hbox hg) | ((with_reducible refine gate_callee (f := 45) rfl ?_); refine gl_ (some 9) Tryd.func45 #[.pointer (some ⟨gb390, 0, none⟩)] rfl rfl rfl ?_; (with_reducible refine (spec_l1Cur_anyGrid.calls k gb390 l0 0 0 t391 t392 t393 t394 t395 w _ ?side1 ?side2 A2.out).mono ?_); (case side1 => exact IsS68.q HI390); (case side2 => exact hbI_ HB (IsS68.ge HI390.out)); rintro e w7 ⟨rfl, hi, hb, hk⟩; refine ⟨_, rfl, ?_⟩; replace BK389 := kk_ BK389 hk NB389_390; replace HB := Aside0.mk (hb); replace HI390 := Aside0.mk (hi); (try clear hb); (try clear hb2); (try clear hk); (try clear hi)) | ((with_reducible refine gate_callee (f := 52) rfl ?_); refine gl_ (some 11) Tryd.func52 #[.pointer (some ⟨gb390, 0, none⟩), .int .i64 5] rfl rfl rfl ?_; (with_reducible refine (spec_l1Cur_pick.calls gb390 l0 t394 t395 5 t396 t397 t398 w _ ?side1 ?side2 A3.out).mono ?_); (case side1 => exact IsS68.q HI390); (case side2 => exact hbI_ HB (IsS68.ge HI390.out)); rintro e w8 ⟨rfl, hi, hb, hk⟩; refine ⟨_, rfl, ?_⟩; replace BK389 := kk_ BK389 hk NB389_390; replace HB := Aside0.mk (hb); replace HI390 := Aside0.mk (hi); (try clear hb); (try clear hb2); (try clear hk); (try clear hi)) | ((with_reducible refine gate_callee (f := 52) rfl ?_); refine gl_ (some 13) Tryd.func52 #[.pointer (some ⟨gb390, 0, none⟩), .int .i64 16] rfl rfl rfl ?_; (with_reducible refine (spec_l1Cur_pick.calls gb390 l0 t397 t398 16 t399 t400 t401 w _ ?side1 ?side2 A4.out).mono ?_); (case side1 => exact IsS68.q HI390); (case side2 => exact hbI_ HB (IsS68.ge HI390.out)); rintro e w9 ⟨rfl, hi, hb, hk⟩; refine ⟨_, rfl, ?_⟩; replace BK389 := kk_ BK389 hk NB389_390; replace HB := Aside0.mk (hb); replace HI390 := Aside0.mk (hi); (try clear hb); (try clear hb2); (try clear hk); (try clear hi); have hnb10 := NB389_390.out; have hnc10 := NB390_389.out; obtain ⟨hcz11_0, hcz11_1, hcz11_2, hfz11_0, hfz11_1, hfz11_2⟩ := bx3 BK389))
 refine bodyPost_ret (results_ct rfl _ _ gb389 26 #[.int .i64 t391, .int .i64 t392, .int .i64 t393] (0, 0) _ rfl (kpq_ (kputs BK389 [(0, _), (1, _), (2, _)])) Tryd.underlying26 rfl (by kernel_rfl)) rfl ?_
 exact ⟨by first | rfl | (simp [errW_none, errW_some] <;> rfl) | (simp [*, errW_none, errW_some] <;> rfl), hbI_ HB (IsS68.ge HI390.out)⟩

/-! ### spec_LevelBlocks: function 30 -/
mutual
def spec_LevelBlocks.j0 : Nat → Int → Bool → Int → Int → Int → Option (List Int × Bool)
 | 0, _, _, _, _, _ => none
 | k + 1, x1, x18, x403000, x403001, x403002 => if x18 = true then (some (([] : List Int), false)) else (spec_LevelBlocks.l0 k x1 ([] : List Int) 0 x403000 x403001 x403002)
def spec_LevelBlocks.l0 : Nat → Int → List Int → Int → Int → Int → Int → Option (List Int × Bool)
 | 0, _, _, _, _, _, _ => none
 | k + 1, x1, x6, x7, x403000, x403001, x403002 => if x7 < (wrap64 (x403000 * x403001)) then (if x6.length < 17592186044416 then (spec_LevelBlocks.l0 k x1 (x6 ++ [wrap64 ((wrap64 ((wrap64 (x1 * x403000)) * x403001)) + x7)]) (wrap64 (x7 + 1)) x403000 x403001 x403002) else (none)) else (some (x6, true))
end
def spec_LevelBlocks.f (k : Nat) (a0_0 : Int) (a0_1 : Int) (a0_2 : Int) (a1 : Int) : Option (List Int × Bool) := (spec_grGood.f a0_0 a0_1 a0_2).bind fun t403 => (if t403 = true then ((spec_l1In.f a1 0 (wrap64 (a0_2 - 1))).bind fun t404 => (spec_LevelBlocks.j0 k a1 (!t404) a0_0 a0_1 a0_2)) else (spec_LevelBlocks.j0 k a1 true a0_0 a0_1 a0_2))
set_option maxHeartbeats 8000000 in
set_option maxRecDepth 100000 in
theorem spec_LevelBlocks.calls (k : Nat) (a0_0 : Int) (a0_1 : Int) (a0_2 : Int) (a1 : Int) (r1 : List Int) (r2 : Bool) (w : World) (h : spec_LevelBlocks.f k a0_0 a0_1 a0_2 a1 = some (r1, r2)) :
  Calls Tryd.prog 30 #[.agg #[.int .i64 a0_0, .int .i64 a0_1, .int .i64 a0_2], .int .i64 a1] w fun e w' => ∃ v0_ : Value, e = .returned (.tuple #[v0_, .bool r2]) ∧ Kd.R (Kd.int .i64) 3 w' w.heap.size (fun _ => True) v0_ r1 ∧ Below w.heap.size w w' := by
 have hu26 := Tryd.underlying26
 have HB := Aside0.mk (Below.refl w.heap.size w)
 have H : ((spec_grGood.f a0_0 a0_1 a0_2).bind fun t403 => (if t403 = true then ((spec_l1In.f a1 0 (wrap64 (a0_2 - 1))).bind fun t404 => (spec_LevelBlocks.j0 k a1 (!t404) a0_0 a0_1 a0_2)) else (spec_LevelBlocks.j0 k a1 true a0_0 a0_1 a0_2))) = some (r1, r2) := h
 clear h
 have HC3 := Aside0.mk H
 clear H
 go_enter Tryd.func30, Tryd.ntmps30
 go_upto_region 1 with (first | ((with_reducible refine gate_dst (N := 2) rfl ?_); refine box_event ?hg (N := 2) ?hd (cs := #[.int .i64 a0_0, .int .i64 a0_1, .int .i64 a0_2]) (t := 26) ?hr ?_; (case hd => rfl); (case hg => rfl); (case hr => first | (go_simp; done) | (go_simp; rfl)); intro gb402 hg w4 hbox hb; have BK402 := Aside0.mk (hbox); have GW402 := gs_ hg HB; have GE402 := gs_ hg HB; replace HB := hbs_ HB hb; clear hb hbox hg))
 (try simp only [Act.put, List.setIfInBounds_toArray, List.set_cons_zero, List.set_cons_succ])
 go_cut [18] (fun v18 wc => ∃ (kq : Nat) (x18_2 : Bool), v18 = .bool x18_2 ∧ Aside0 (spec_LevelBlocks.j0 kq a1 x18_2 a0_0 a0_1 a0_2 = some (r1, r2)) ∧ Aside0 (kq ≤ k) ∧ Aside0 (wc.heap[gb402]? = some (.cells #[.int .i64 a0_0, .int .i64 a0_1, .int .i64 a0_2] 26 (0, 0))) ∧ Aside0 (Below w.heap.size w wc))
 case first =>
  have H := HC3.out
  clear HC3
  replace H := Option.bind_eq_some_iff.mp H
  obtain ⟨t403, A50, H⟩ := H
  replace H : (if t403 = true then ((spec_l1In.f a1 0 (wrap64 (a0_2 - 1))).bind fun t404 => (spec_LevelBlocks.j0 k a1 (!t404) a0_0 a0_1 a0_2)) else (spec_LevelBlocks.j0 k a1 true a0_0 a0_1 a0_2)) = some (r1, r2) := H
  have A5 := Aside0.mk A50
  clear A50
  by_cases c6 : t403 = true
  ·subst c6
   have H1 : ((spec_l1In.f a1 0 (wrap64 (a0_2 - 1))).bind fun t404 => (spec_LevelBlocks.j0 k a1 (!t404) a0_0 a0_1 a0_2)) = some (r1, r2) := by rw [if_pos rfl] at H; exact H
   clear H
   have H := H1
   clear H1
   replace H := Option.bind_eq_some_iff.mp H
   obtain ⟨t404, A70, H⟩ := H
   replace H : (spec_LevelBlocks.j0 k a1 (!t404) a0_0 a0_1 a0_2) = some (r1, r2) := H
   have A7 := Aside0.mk A70
   clear A70
   have H' := Aside0.mk H
   clear H
   have hcz8_0 : w4.cell? ⟨gb402, 0, none⟩ = some (.int .i64 a0_0) := (blk_cell BK402.out 0).trans rfl
   have hcz8_1 : w4.cell? ⟨gb402, 1, none⟩ = some (.int .i64 a0_1) := (blk_cell BK402.out 1).trans rfl
   have hcz8_2 : w4.cell? ⟨gb402, 2, none⟩ = some (.int .i64 a0_2) := (blk_cell BK402.out 2).trans rfl
   have hfz8_0 := blk_frozen BK402.out 0
   have hfz8_1 := blk_frozen BK402.out 1
   have hfz8_2 := blk_frozen BK402.out 2
   go_wp2_with (first | ((with_reducible refine gate_callee (f := 39) rfl ?_); refine gl_ (some 9) Tryd.func39 #[.agg #[.int .i64 a0_0, .int .i64 a0_1, .int .i64 a0_2]] rfl rfl rfl ?_; (with_reducible refine (spec_grGood.calls a0_0 a0_1 a0_2 true _ A5.out).mono ?_); rintro e w9 ⟨rfl, hb⟩; refine ⟨_, rfl, ?_⟩; replace BK402 := kb_ BK402 hb; replace HB := hbs_ HB hb; (try clear hb); (try clear hb2); (try clear hk); (try clear hi); obtain ⟨hcz10_0, hcz10_1, hcz10_2, hfz10_0, hfz10_1, hfz10_2⟩ := bx3 BK402) | (go_at_call 57; (with_reducible refine (spec_l1In.calls a1 0 (wrap64 (a0_2 - 1)) t404 _ A7.out).mono ?_); rintro e w' ⟨rfl, ⟨nd, rfl⟩⟩))
   go_meet
   case rel => exact ⟨_, (!t404), (by first | rfl | (simp; done) | (simp [*]; done)), H', ⟨by first | omega | exact Nat.le_refl _⟩, ⟨kp_ BK402⟩, ⟨hb_ HB⟩⟩
  ·replace c6 := Bool.eq_false_iff.mpr c6
   subst c6
   have H1 : (spec_LevelBlocks.j0 k a1 true a0_0 a0_1 a0_2) = some (r1, r2) := by rw [if_neg (show ¬ (false = true) by decide)] at H; exact H
   clear H
   have H := H1
   clear H1
   have H' := Aside0.mk H
   clear H
   have hcz11_0 : w4.cell? ⟨gb402, 0, none⟩ = some (.int .i64 a0_0) := (blk_cell BK402.out 0).trans rfl
   have hcz11_1 : w4.cell? ⟨gb402, 1, none⟩ = some (.int .i64 a0_1) := (blk_cell BK402.out 1).trans rfl
   have hcz11_2 : w4.cell? ⟨gb402, 2, none⟩ = some (.int .i64 a0_2) := (blk_cell BK402.out 2).trans rfl
   have hfz11_0 := blk_frozen BK402.out 0
   have hfz11_1 := blk_frozen BK402.out 1
   have hfz11_2 := blk_frozen BK402.out 2
   go_wp2_with (first | ((with_reducible refine gate_callee (f := 39) rfl ?_); refine gl_ (some 9) Tryd.func39 #[.agg #[.int .i64 a0_0, .int .i64 a0_1, .int .i64 a0_2]] rfl rfl rfl ?_; (with_reducible refine (spec_grGood.calls a0_0 a0_1 a0_2 false _ A5.out).mono ?_); rintro e w12 ⟨rfl, hb⟩; refine ⟨_, rfl, ?_⟩; replace BK402 := kb_ BK402 hb; replace HB := hbs_ HB hb; (try clear hb); (try clear hb2); (try clear hk); (try clear hi)))
   go_meet
   case rel => exact ⟨_, (true), (by first | rfl | (simp; done) | (simp [*]; done)), H', ⟨by first | omega | exact Nat.le_refl _⟩, ⟨kp_ BK402⟩, ⟨hb_ HB⟩⟩
 case rest =>
  clear HC3
  (try clear p2); (try clear c3); (try clear c6); (try clear p6)
  obtain ⟨kq, x18_2, rfl, HA, HJ2, BK402, HB⟩ := hcut
  cases kq with
  | zero => exact absurd HA.out (by simp [spec_LevelBlocks.j0])
  | succ kj2 =>
   have H := HA.out
   clear HA
   simp only [spec_LevelBlocks.j0] at H
   by_cases c13 : x18_2 = true
   ·subst c13
    have H1 : (some (([] : List Int), false)) = some (r1, r2) := by rw [if_pos rfl] at H; exact H
    clear H
    have H := H1
    clear H1
    simp only [Option.some.injEq, Prod.mk.injEq] at H
    obtain ⟨rfl, rfl⟩ := H
    go_wp2
    go_ret2
    exact ⟨_, by first | rfl | (simp [errW_none, errW_some] <;> rfl) | (simp [*, errW_none, errW_some] <;> rfl), by first | exact Kd.R_nil _ _ _ _ _ | exact Kd.N_nil _ _ _ _ _ | exact Kd.V_nil _ _ _ _ _ | exact Kd.Q_nil _ _ _ _ _ | exact Kd.S_nil _ _ _ _ _, hb_ HB⟩
   ·replace c13 := Bool.eq_false_iff.mpr c13
    subst c13
    have H1 : (spec_LevelBlocks.l0 kj2 a1 ([] : List Int) 0 a0_0 a0_1 a0_2) = some (r1, r2) := by rw [if_neg (show ¬ (false = true) by decide)] at H; exact H
    clear H
    have H := H1
    clear H1
    have H' := Aside0.mk H
    clear H
    go_wp2
    go_loopg [6, 7] kj2 (fun kq v6 v7 w' => ∃ (x6_2 : List Int) (x7_2 : Int), v7 = .int .i64 x7_2 ∧ Aside0 (spec_LevelBlocks.l0 kq a1 x6_2 x7_2 a0_0 a0_1 a0_2 = some (r1, r2)) ∧ Aside0 (kq ≤ kj2) ∧ Aside0 (Kd.R (Kd.int .i64) 3 w' w.heap.size (fun _ => True) v6 x6_2) ∧ Aside0 (w'.heap[gb402]? = some (.cells #[.int .i64 a0_0, .int .i64 a0_1, .int .i64 a0_2] 26 (0, 0))) ∧ Aside0 (Below w.heap.size w w'))
    case atStart => exact ⟨(([] : List Int)), (0), (by first | rfl | (simp; done) | (simp [*]; done)), H', ⟨Nat.le_refl _⟩, ⟨by first | exact Kd.R_nil _ _ _ _ _ | exact Kd.N_nil _ _ _ _ _ | exact Kd.V_nil _ _ _ _ _ | exact Kd.Q_nil _ _ _ _ _ | exact Kd.S_nil _ _ _ _ _⟩, ⟨kp_ BK402⟩, ⟨hb_ HB⟩⟩
    case round =>
     clear H'
     (try clear c1); (try clear p2); (try clear c3); (try clear c6); (try clear p6); (try clear c13)
     obtain ⟨x6_2, x7_2, rfl, HA, HK2, HO_6, BK402, HB⟩ := hrel
     cases gk with
     | zero => exact absurd HA.out (by simp [spec_LevelBlocks.l0])
     | succ k2 =>
      have H := HA.out
      clear HA
      simp only [spec_LevelBlocks.l0] at H
      by_cases c14 : x7_2 < (wrap64 (a0_0 * a0_1))
      ·rw [if_pos c14] at H
       have c14b0 : decide (x7_2 < (wrap64 (a0_0 * a0_1))) = true := decide_eq_true c14
       clear c14
       by_cases c15 : x6_2.length < 17592186044416
       ·rw [if_pos c15] at H
        have LMc15 := Aside0.mk c15
        clear c15
        obtain ⟨y405, hy405⟩ : ∃ y_ : List Int, y_ = (x6_2 ++ [wrap64 ((wrap64 ((wrap64 (a1 * a0_0)) * a0_1)) + x7_2)]) := ⟨_, rfl⟩
        replace H : (spec_LevelBlocks.l0 k2 a1 y405 (wrap64 (x7_2 + 1)) a0_0 a0_1 a0_2) = some (r1, r2) := by first | (rw [hy405]; with_reducible exact H) | (have H2_ := (Option.bind_some _ _).symm.trans H; rw [hy405]; with_reducible exact H2_) | (have H2_ := (Option.bind_some _ _).symm.trans H; with_reducible exact H2_) | with_reducible exact H | (rw [hy405]; exact H) | exact H
        have Ny405 := Aside0.mk hy405
        clear hy405
        have H' := Aside0.mk H
        clear H
        have hcz16_0 : wr.cell? ⟨gb402, 0, none⟩ = some (.int .i64 a0_0) := (blk_cell BK402.out 0).trans rfl
        have hcz16_1 : wr.cell? ⟨gb402, 1, none⟩ = some (.int .i64 a0_1) := (blk_cell BK402.out 1).trans rfl
        have hcz16_2 : wr.cell? ⟨gb402, 2, none⟩ = some (.int .i64 a0_2) := (blk_cell BK402.out 2).trans rfl
        have hfz16_0 := blk_frozen BK402.out 0
        have hfz16_1 := blk_frozen BK402.out 1
        have hfz16_2 := blk_frozen BK402.out 2
        go_wp2_with (first | ((with_reducible refine gate_builtin (b := .append) (xs := #[.tmp 28, .tmp 38]) rfl ?_); at_builtin; refine Kd.R_append (Kd.int .i64) (w0 := w) w.heap.size rfl (.tmp 28) (.tmp 38) 43 3 (.int .i64 0) 8 rfl Tryd.underlying43 info3 rfl (by decide) (by omega) u6 x6_2 (wrap64 ((wrap64 ((wrap64 (a1 * a0_0)) * a0_1)) + x7_2)) [.int .i64 (wrap64 ((wrap64 ((wrap64 (a1 * a0_0)) * a0_1)) + x7_2))] (fun _ => True) (fun _ => False) rfl rfl ?aP (fun _ hk => hk.elim) ?aF ?aO ?aB ?aS ?aL ?_; (case aP => exact rfl); (case aB => exact (hb_ HB)); (case aF => exact (fun _ _ => trivial)); (case aO => exact (Kd.R_p HO_6)); (case aS => exact (below_size (hb_ HB))); (case aL => have := LMc15.out; omega); intro v406 w17 ho hb hg hat; rw [← Ny405.out] at ho; have HO407 := Aside0.mk (ho); replace BK402 := Aside0.mk (blk_grown (kp_ BK402) hg (Kd.R_ne HO_6.out BK402.out (by decide))); replace HB := Aside0.mk (hb); clear HO_6; clear ho hb hg hat))
        go_roundg k2
        case measure => have := HJ2.out; have := HK2.out; omega
        case rel => exact ⟨(y405), (wrap64 (x7_2 + 1)), (by first | rfl | (simp; done) | (simp [*]; done)), H', ⟨by have := HJ2.out; have := HK2.out; omega⟩, ⟨Kd.R_p HO407⟩, ⟨kp_ BK402⟩, ⟨hb_ HB⟩⟩
       ·rw [if_neg c15] at H
        exact absurd H (by simp)
      ·rw [if_neg c14] at H
       have c14b0 : decide (x7_2 < (wrap64 (a0_0 * a0_1))) = false := decide_eq_false c14
       clear c14
       simp only [Option.some.injEq, Prod.mk.injEq] at H
       obtain ⟨rfl, rfl⟩ := H
       have hcz18_0 : wr.cell? ⟨gb402, 0, none⟩ = some (.int .i64 a0_0) := (blk_cell BK402.out 0).trans rfl
       have hcz18_1 : wr.cell? ⟨gb402, 1, none⟩ = some (.int .i64 a0_1) := (blk_cell BK402.out 1).trans rfl
       have hcz18_2 : wr.cell? ⟨gb402, 2, none⟩ = some (.int .i64 a0_2) := (blk_cell BK402.out 2).trans rfl
       have hfz18_0 := blk_frozen BK402.out 0
       have hfz18_1 := blk_frozen BK402.out 1
       have hfz18_2 := blk_frozen BK402.out 2
       go_wp2
       go_ret2
       exact ⟨_, by first | rfl | (simp [errW_none, errW_some] <;> rfl) | (simp [*, errW_none, errW_some] <;> rfl), Kd.R_p HO_6, hb_ HB⟩

/-! ### spec_DrawColumnBlocks: function 31 -/
def spec_DrawColumnBlocks.f (k : Nat) (l0 : List Int) : Option (Int × Int × Int × Int × Int) := (spec_l1Cur_anyGrid.f k l0 0 0).bind fun bt410 => ((spec_l1Cur_pick.f l0 bt410.2.2.2.1 bt410.2.2.2.2 5).bind fun bt415 => ((spec_l1Cur_pick.f l0 bt415.2.1 bt415.2.2 16).bind fun bt418 => ((spec_l1Cur_pick.f l0 bt418.2.1 bt418.2.2 4).bind fun bt421 => ((spec_l1Cur_pick.f l0 bt421.2.1 bt421.2.2 16).bind fun bt424 => (some (bt410.1, bt410.2.1, bt410.2.2.1, wrap64 (bt415.1 - (wrap64 (Int.tdiv bt418.1 15))), wrap64 (bt421.1 - (wrap64 (Int.tdiv bt424.1 15)))))))))
set_option maxHeartbeats 8000000 in
set_option maxRecDepth 100000 in
theorem spec_DrawColumnBlocks.calls (k : Nat) (A0 : Option Addr) (c0 : Nat) (l0 : List Int) (r1 : Int) (r2 : Int) (r3 : Int) (r4 : Int) (r5 : Int) (w : World) (hr0 : Kd.C (Kd.int .u8) w A0 l0.length l0) (hc0 : l0.length ≤ c0) (h : spec_DrawColumnBlocks.f k l0 = some (r1, r2, r3, r4, r5)) :
  Calls Tryd.prog 31 #[.slice A0 l0.length c0] w fun e w' => e = .returned (.tuple #[.agg #[.int .i64 r1, .int .i64 r2, .int .i64 r3], .int .i64 r4, .int .i64 r5]) ∧ Below w.heap.size w w' := by
 have hu26 := Tryd.underlying26
 have hu68 := Tryd.underlying68
 have HR0 := Aside0.mk hr0
 have HC0 := Aside0.mk hc0
 clear hr0 hc0
 have HB := Aside0.mk (Below.refl w.heap.size w)
 have H : ((spec_l1Cur_anyGrid.f k l0 0 0).bind fun bt410 => ((spec_l1Cur_pick.f l0 bt410.2.2.2.1 bt410.2.2.2.2 5).bind fun bt415 => ((spec_l1Cur_pick.f l0 bt415.2.1 bt415.2.2 16).bind fun bt418 => ((spec_l1Cur_pick.f l0 bt418.2.1 bt418.2.2 4).bind fun bt421 => ((spec_l1Cur_pick.f l0 bt421.2.1 bt421.2.2 16).bind fun bt424 => (some (bt410.1, bt410.2.1, bt410.2.2.1, wrap64 (bt415.1 - (wrap64 (Int.tdiv bt418.1 15))), wrap64 (bt421.1 - (wrap64 (Int.tdiv bt424.1 15)))))))))) = some (r1, r2, r3, r4, r5) := h
 clear h
 replace H := Option.bind_eq_some_iff.mp H
 obtain ⟨⟨t410, t411, t412, t413, t414⟩, A20, H⟩ := H
 replace H : ((spec_l1Cur_pick.f l0 t413 t414 5).bind fun bt415 => ((spec_l1Cur_pick.f l0 bt415.2.1 bt415.2.2 16).bind fun bt418 => ((spec_l1Cur_pick.f l0 bt418.2.1 bt418.2.2 4).bind fun bt421 => ((spec_l1Cur_pick.f l0 bt421.2.1 bt421.2.2 16).bind fun bt424 => (some (t410, t411, t412, wrap64 (bt415.1 - (wrap64 (Int.tdiv bt418.1 15))), wrap64 (bt421.1 - (wrap64 (Int.tdiv bt424.1 15))))))))) = some (r1, r2, r3, r4, r5) := H
 have A2 := Aside0.mk A20
 clear A20
 replace H := Option.bind_eq_some_iff.mp H
 obtain ⟨⟨t415, t416, t417⟩, A30, H⟩ := H
 replace H : ((spec_l1Cur_pick.f l0 t416 t417 16).bind fun bt418 => ((spec_l1Cur_pick.f l0 bt418.2.1 bt418.2.2 4).bind fun bt421 => ((spec_l1Cur_pick.f l0 bt421.2.1 bt421.2.2 16).bind fun bt424 => (some (t410, t411, t412, wrap64 (t415 - (wrap64 (Int.tdiv bt418.1 15))), wrap64 (bt421.1 - (wrap64 (Int.tdiv bt424.1 15)))))))) = some (r1, r2, r3, r4, r5) := H
 have A3 := Aside0.mk A30
 clear A30
 replace H := Option.bind_eq_some_iff.mp H
 obtain ⟨⟨t418, t419, t420⟩, A40, H⟩ := H
 replace H : ((spec_l1Cur_pick.f l0 t419 t420 4).bind fun bt421 => ((spec_l1Cur_pick.f l0 bt421.2.1 bt421.2.2 16).bind fun bt424 => (some (t410, t411, t412, wrap64 (t415 - (wrap64 (Int.tdiv t418 15))), wrap64 (bt421.1 - (wrap64 (Int.tdiv bt424.1 15))))))) = some (r1, r2, r3, r4, r5) := H
 have A4 := Aside0.mk A40
 clear A40
 replace H := Option.bind_eq_some_iff.mp H
 obtain ⟨⟨t421, t422, t423⟩, A50, H⟩ := H
 replace H : ((spec_l1Cur_pick.f l0 t422 t423 16).bind fun bt424 => (some (t410, t411, t412, wrap64 (t415 - (wrap64 (Int.tdiv t418 15))), wrap64 (t421 - (wrap64 (Int.tdiv bt424.1 15)))))) = some (r1, r2, r3, r4, r5) := H
 have A5 := Aside0.mk A50
 clear A50
 replace H := Option.bind_eq_some_iff.mp H
 obtain ⟨⟨t424, t425, t426⟩, A60, H⟩ := H
 replace H : (some (t410, t411, t412, wrap64 (t415 - (wrap64 (Int.tdiv t418 15))), wrap64 (t421 - (wrap64 (Int.tdiv t424 15))))) = some (r1, r2, r3, r4, r5) := H
 have A6 := Aside0.mk A60
 clear A60
 simp only [Option.some.injEq, Prod.mk.injEq] at H
 obtain ⟨rfl, rfl, rfl, rfl, rfl⟩ := H
 go_enter Tryd.func31, Tryd.ntmps31
 go_wp2_with (first | ((with_reducible refine gate_dst (N := 2) rfl ?_); refine box_event ?hg (N := 2) ?hd (cs := #[.int .i64 0, .int .i64 0, .int .i64 0]) (t := 26) ?hr ?_; (case hd => rfl); (case hg => rfl); (case hr => first | (go_simp; done) | (go_simp; rfl)); intro gb408 hg w7 hbox hb; have BK408 := Aside0.mk (hbox); have GW408 := gs_ hg HB; have GE408 := gs_ hg HB; replace HB := hbs_ HB hb; clear hb hbox hg) | ((with_reducible refine gate_dst (N := 8) rfl ?_); refine box_event ?hg (N := 8) ?hd (cs := #[.slice A0 l0.length c0, .int .i64 0, .int .u64 0]) (t := 68) ?hr ?_; (case hd => rfl); (case hg => rfl); (case hr => first | (go_simp; done) | (go_simp; rfl)); intro gb409 hg w8 hbox hb; have HI409 := Aside0.mk ((show IsS68 w w8 gb409 l0 0 0 from ⟨A0, c0, hbox, (by rw [hg]; exact (below_size (hb_ HB))), HR0.out⟩)); have GW409 := gs_ hg HB; have GE409 := gs_ hg HB; have NB408_409 := nl_ hg BK408; have NB409_408 := ng_ hg BK408; replace BK408 := kb_ BK408 hb; replace HB := hbs_ HB hb; clear hb hbox hg) | ((with_reducible refine gate_callee (f := 45) rfl ?_); refine gl_ (some 10) Tryd.func45 #[.pointer (some ⟨gb409, 0, none⟩)] rfl rfl rfl ?_; (with_reducible refine (spec_l1Cur_anyGrid.calls k gb409 l0 0 0 t410 t411 t412 t413 t414 w _ ?side1 ?side2 A2.out).mono ?_); (case side1 => exact IsS68.q HI409); (case side2 => exact hbI_ HB (IsS68.ge HI409.out)); rintro e w9 ⟨rfl, hi, hb, hk⟩; refine ⟨_, rfl, ?_⟩; replace BK408 := kk_ BK408 hk NB408_409; replace HB := Aside0.mk (hb); replace HI409 := Aside0.mk (hi); (try clear hb); (try clear hb2); (try clear hk); (try clear hi)) | ((with_reducible refine gate_callee (f := 52) rfl ?_); refine gl_ (some 12) Tryd.func52 #[.pointer (some ⟨gb409, 0, none⟩), .int .i64 5] rfl rfl rfl ?_; (with_reducible refine (spec_l1Cur_pick.calls gb409 l0 t413 t414 5 t415 t416 t417 w _ ?side1 ?side2 A3.out).mono ?_); (case side1 => exact IsS68.q HI409); (case side2 => exact hbI_ HB (IsS68.ge HI409.out)); rintro e w10 ⟨rfl, hi, hb, hk⟩; refine ⟨_, rfl, ?_⟩; replace BK408 := kk_ BK408 hk NB408_409; replace HB := Aside0.mk (hb); replace HI409 := Aside0.mk (hi); (try clear hb); (try clear hb2); (try clear hk); (try clear hi)) | ((with_reducible refine gate_callee (f := 52) rfl ?_); refine gl_ (some 14) Tryd.func52 #[.pointer (some ⟨gb409, 0, none⟩), .int .i64 16] rfl rfl rfl ?_; (with_reducible refine (spec_l1Cur_pick.calls gb409 l0 t416 t417 16 t418 t419 t420 w _ ?side1 ?side2 A4.out).mono ?_); (case side1 => exact IsS68.q HI409); (case side2 => exact hbI_ HB (IsS68.ge HI409.out)); rintro e w11 ⟨rfl, hi, hb, hk⟩; refine ⟨_, rfl, ?_⟩; replace BK408 := kk_ BK408 hk NB408_409; replace HB := Aside0.mk (hb); replace HI409 := Aside0.mk (hi); (try clear hb); (try clear hb2); (try clear hk); (try clear hi)) | ((with_reducible refine gate_callee (f := 52) rfl ?_); refine gl_ (some 18) Tryd.func52 #[.pointer (some ⟨gb409, 0, none⟩), .int .i64 4] rfl rfl rfl ?_; (with_reducible refine (spec_l1Cur_pick.calls gb409 l0 t419 t420 4 t421 t422 t423 w _ ?side1 ?side2 A5.out).mono ?_); (case side1 => exact IsS68.q HI409); (case side2 => exact hbI_ HB (IsS68.ge HI409.out)); rintro e w12 ⟨rfl, hi, hb, hk⟩; refine ⟨_, rfl, ?_⟩; replace BK408 := kk_ BK408 hk NB408_409; replace HB := Aside0.mk (hb); replace HI409 := Aside0.mk (hi); (try clear hb); (try clear hb2); (try clear hk); (try clear hi)) | ((with_reducible refine gate_callee (f := 52) rfl ?_); refine gl_ (some 20) Tryd.func52 #[.pointer (some ⟨gb409, 0, none⟩), .int .i64 16] rfl rfl rfl ?_; (with_reducible refine (spec_l1Cur_pick.calls gb409 l0 t422 t423 16 t424 t425 t426 w _ ?side1 ?side2 A6.out).mono ?_); (case side1 => exact IsS68.q HI409); (case side2 => exact hbI_ HB (IsS68.ge HI409.out)); rintro e w13 ⟨rfl, hi, hb, hk⟩; refine ⟨_, rfl, ?_⟩; replace BK408 := kk_ BK408 hk NB408_409; replace HB := Aside0.mk (hb); replace HI409 := Aside0.mk (hi); (try clear hb); (try clear hb2); (try clear hk); (try clear hi); have hnb14 := NB408_409.out; have hnc14 := NB409_408.out; obtain ⟨hcz15_0, hcz15_1, hcz15_2, hfz15_0, hfz15_1, hfz15_2⟩ := bx3 BK408))
 refine bodyPost_ret (results_ctt rfl _ _ gb408 26 #[.int .i64 t410, .int .i64 t411, .int .i64 t412] (0, 0) _ rfl (kpq_ (kputs BK408 [(0, _), (1, _), (2, _)])) Tryd.underlying26 rfl (by kernel_rfl)) rfl ?_
 exact ⟨by first | rfl | (simp [errW_none, errW_some] <;> rfl) | (simp [*, errW_none, errW_some] <;> rfl), hbI_ HB (IsS68.ge HI409.out)⟩

end Go.Proofs.YtgeoecfphklcmaaDoor.PFnGrids
