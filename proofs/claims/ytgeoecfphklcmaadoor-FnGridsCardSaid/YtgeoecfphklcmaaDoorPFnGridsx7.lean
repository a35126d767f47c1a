-- Laid for this claim by wip/tools/print2.sh, a changed copy of the kit's print (wip/tools/patch_print.py): not by print.sh. Changed by wip/fix/strsize.py.
import Derived.Test.YtgeoecfphklcmaaDoorPFnGridsx0
import Derived.Test.YtgeoecfphklcmaaDoorPFnGridsx3
import Derived.Test.YtgeoecfphklcmaaDoorPFnGridsx4
import Derived.Test.YtgeoecfphklcmaaDoorPFnGridsx5
namespace Go.Proofs.YtgeoecfphklcmaaDoor.PFnGrids
open Go.RowKit Go.Proofs.YtgeoecfphklcmaaDoorW.PrintWords Go.Proofs.YtgeoecfphklcmaaDoorW.PrintLast Go.Proofs.YtgeoecfphklcmaaDoorW.PrintMore
attribute [local go_sem] max2_int min2_int max_two min_two max_three min_three max_four min_four   -- for this text's walks alone
set_option linter.unusedVariables false
set_option linter.unusedSimpArgs false

/-! ### spec_grName: function 35 -/
def spec_grName.f (k : Nat) (a0_0 : Int) (a0_1 : Int) (a0_2 : Int) (a1 : Int) : Option (ByteArray) := (spec_grX.f a0_0 a0_1 a0_2 a1).bind fun t337 => ((spec_l1Num.f k t337).bind fun t338 => (if t338.size + 1 ≤ 9223372036854775807 then ((spec_grY.f a0_0 a0_1 a0_2 a1).bind fun t339 => ((spec_l1Num.f k t339).bind fun t340 => (if (t338 ++ (⟨#[44]⟩ : ByteArray)).size + t340.size ≤ 9223372036854775807 then (if ((t338 ++ (⟨#[44]⟩ : ByteArray)) ++ t340).size + 1 ≤ 9223372036854775807 then ((spec_grZ.f a0_0 a0_1 a0_2 a1).bind fun t341 => ((spec_l1Num.f k t341).bind fun t342 => (if (((t338 ++ (⟨#[44]⟩ : ByteArray)) ++ t340) ++ (⟨#[44]⟩ : ByteArray)).size + t342.size ≤ 9223372036854775807 then (some ((((t338 ++ (⟨#[44]⟩ : ByteArray)) ++ t340) ++ (⟨#[44]⟩ : ByteArray)) ++ t342)) else (none)))) else (none)) else (none)))) else (none)))
def spec_grName.T1 : Bool × List (List Nat × List Nat) := (true, [([], []), ([], []), ([0, 1], [0, 1]), ([2, 2], [2]), ([3], [3]), ([], []), ([], []), ([5, 6, 3], [5, 6]), ([7, 7], [7]), ([4, 8], [4, 8]), ([9], [9]), ([], []), ([], []), ([11, 12, 8], [11, 12]), ([13, 13], [13]), ([10, 14], [10, 14]), ([15, 14, 0, 1, 2, 3, 4, 5, 6, 7, 8, 9, 10, 11, 12, 13, 14, 15], [15])])
def spec_grName.B1 : List Nat := [0, 0, 3, 7, 15, 0, 0, 111, 239, 511, 1023, 0, 0, 6639, 14831, 32767, 65535]
theorem spec_grName.tab1 : rtab .any (opsOf Tryd.f35 1) = spec_grName.T1 := by kernel_rfl
theorem spec_grName.bits1 : waitsOk spec_grName.T1.2 spec_grName.B1 = true := by kernel_rfl
set_option maxHeartbeats 8000000 in
set_option maxRecDepth 100000 in
theorem spec_grName.calls (k : Nat) (a0_0 : Int) (a0_1 : Int) (a0_2 : Int) (a1 : Int) (r : ByteArray) (w : World) (h : spec_grName.f k a0_0 a0_1 a0_2 a1 = some r) :
  Calls Tryd.prog 35 #[.agg #[.int .i64 a0_0, .int .i64 a0_1, .int .i64 a0_2], .int .i64 a1] w fun e w' => e = .returned (.string r) ∧ Below w.heap.size w w' := by
 have hu26 := Tryd.underlying26
 have HB := Aside0.mk (Below.refl w.heap.size w)
 have H : ((spec_grX.f a0_0 a0_1 a0_2 a1).bind fun t337 => ((spec_l1Num.f k t337).bind fun t338 => (if t338.size + 1 ≤ 9223372036854775807 then ((spec_grY.f a0_0 a0_1 a0_2 a1).bind fun t339 => ((spec_l1Num.f k t339).bind fun t340 => (if (t338 ++ (⟨#[44]⟩ : ByteArray)).size + t340.size ≤ 9223372036854775807 then (if ((t338 ++ (⟨#[44]⟩ : ByteArray)) ++ t340).size + 1 ≤ 9223372036854775807 then ((spec_grZ.f a0_0 a0_1 a0_2 a1).bind fun t341 => ((spec_l1Num.f k t341).bind fun t342 => (if (((t338 ++ (⟨#[44]⟩ : ByteArray)) ++ t340) ++ (⟨#[44]⟩ : ByteArray)).size + t342.size ≤ 9223372036854775807 then (some ((((t338 ++ (⟨#[44]⟩ : ByteArray)) ++ t340) ++ (⟨#[44]⟩ : ByteArray)) ++ t342)) else (none)))) else (none)) else (none)))) else (none)))) = some r := h
 clear h
 replace H := Option.bind_eq_some_iff.mp H
 obtain ⟨t337, A30, H⟩ := H
 replace H : ((spec_l1Num.f k t337).bind fun t338 => (if t338.size + 1 ≤ 9223372036854775807 then ((spec_grY.f a0_0 a0_1 a0_2 a1).bind fun t339 => ((spec_l1Num.f k t339).bind fun t340 => (if (t338 ++ (⟨#[44]⟩ : ByteArray)).size + t340.size ≤ 9223372036854775807 then (if ((t338 ++ (⟨#[44]⟩ : ByteArray)) ++ t340).size + 1 ≤ 9223372036854775807 then ((spec_grZ.f a0_0 a0_1 a0_2 a1).bind fun t341 => ((spec_l1Num.f k t341).bind fun t342 => (if (((t338 ++ (⟨#[44]⟩ : ByteArray)) ++ t340) ++ (⟨#[44]⟩ : ByteArray)).size + t342.size ≤ 9223372036854775807 then (some ((((t338 ++ (⟨#[44]⟩ : ByteArray)) ++ t340) ++ (⟨#[44]⟩ : ByteArray)) ++ t342)) else (none)))) else (none)) else (none)))) else (none))) = some r := H
 have A3 := Aside0.mk A30
 clear A30
 replace H := Option.bind_eq_some_iff.mp H
 obtain ⟨t338, A40, H⟩ := H
 replace H : (if t338.size + 1 ≤ 9223372036854775807 then ((spec_grY.f a0_0 a0_1 a0_2 a1).bind fun t339 => ((spec_l1Num.f k t339).bind fun t340 => (if (t338 ++ (⟨#[44]⟩ : ByteArray)).size + t340.size ≤ 9223372036854775807 then (if ((t338 ++ (⟨#[44]⟩ : ByteArray)) ++ t340).size + 1 ≤ 9223372036854775807 then ((spec_grZ.f a0_0 a0_1 a0_2 a1).bind fun t341 => ((spec_l1Num.f k t341).bind fun t342 => (if (((t338 ++ (⟨#[44]⟩ : ByteArray)) ++ t340) ++ (⟨#[44]⟩ : ByteArray)).size + t342.size ≤ 9223372036854775807 then (some ((((t338 ++ (⟨#[44]⟩ : ByteArray)) ++ t340) ++ (⟨#[44]⟩ : ByteArray)) ++ t342)) else (none)))) else (none)) else (none)))) else (none)) = some r := H
 have A4 := Aside0.mk A40
 clear A40
 by_cases c5 : t338.size + 1 ≤ 9223372036854775807
 ·rw [if_pos c5] at H
  have c5b0 := eq_true c5
  have c5b1 : decide (t338.size + 1 ≤ 9223372036854775807) = true := decide_eq_true c5
  try have c5b2 : (9223372036854775807 < t338.size + 1) = False := eq_false (Nat.not_lt.2 c5)
  replace H := Option.bind_eq_some_iff.mp H
  obtain ⟨t339, A60, H⟩ := H
  replace H : ((spec_l1Num.f k t339).bind fun t340 => (if (t338 ++ (⟨#[44]⟩ : ByteArray)).size + t340.size ≤ 9223372036854775807 then (if ((t338 ++ (⟨#[44]⟩ : ByteArray)) ++ t340).size + 1 ≤ 9223372036854775807 then ((spec_grZ.f a0_0 a0_1 a0_2 a1).bind fun t341 => ((spec_l1Num.f k t341).bind fun t342 => (if (((t338 ++ (⟨#[44]⟩ : ByteArray)) ++ t340) ++ (⟨#[44]⟩ : ByteArray)).size + t342.size ≤ 9223372036854775807 then (some ((((t338 ++ (⟨#[44]⟩ : ByteArray)) ++ t340) ++ (⟨#[44]⟩ : ByteArray)) ++ t342)) else (none)))) else (none)) else (none))) = some r := H
  have A6 := Aside0.mk A60
  clear A60
  replace H := Option.bind_eq_some_iff.mp H
  obtain ⟨t340, A70, H⟩ := H
  replace H : (if (t338 ++ (⟨#[44]⟩ : ByteArray)).size + t340.size ≤ 9223372036854775807 then (if ((t338 ++ (⟨#[44]⟩ : ByteArray)) ++ t340).size + 1 ≤ 9223372036854775807 then ((spec_grZ.f a0_0 a0_1 a0_2 a1).bind fun t341 => ((spec_l1Num.f k t341).bind fun t342 => (if (((t338 ++ (⟨#[44]⟩ : ByteArray)) ++ t340) ++ (⟨#[44]⟩ : ByteArray)).size + t342.size ≤ 9223372036854775807 then (some ((((t338 ++ (⟨#[44]⟩ : ByteArray)) ++ t340) ++ (⟨#[44]⟩ : ByteArray)) ++ t342)) else (none)))) else (none)) else (none)) = some r := H
  have A7 := Aside0.mk A70
  clear A70
  by_cases c8 : (t338 ++ (⟨#[44]⟩ : ByteArray)).size + t340.size ≤ 9223372036854775807
  ·rw [if_pos c8] at H
   have c8b0 := eq_true c8
   have c8b1 : decide ((t338 ++ (⟨#[44]⟩ : ByteArray)).size + t340.size ≤ 9223372036854775807) = true := decide_eq_true c8
   try have c8b2 : (9223372036854775807 < (t338 ++ (⟨#[44]⟩ : ByteArray)).size + t340.size) = False := eq_false (Nat.not_lt.2 c8)
   have c8b3 : (9223372036854775807 < t338.size + 1 + t340.size) = False := eq_false (Nat.not_lt.2 (by have h_ := c8; simp only [ByteArray.size_append] at h_; exact h_))
   by_cases c9 : ((t338 ++ (⟨#[44]⟩ : ByteArray)) ++ t340).size + 1 ≤ 9223372036854775807
   ·rw [if_pos c9] at H
    have c9b0 := eq_true c9
    have c9b1 : decide (((t338 ++ (⟨#[44]⟩ : ByteArray)) ++ t340).size + 1 ≤ 9223372036854775807) = true := decide_eq_true c9
    try have c9b2 : (9223372036854775807 < ((t338 ++ (⟨#[44]⟩ : ByteArray)) ++ t340).size + 1) = False := eq_false (Nat.not_lt.2 c9)
    have c9b3 : (9223372036854775807 < t338.size + 1 + t340.size + 1) = False := eq_false (Nat.not_lt.2 (by have h_ := c9; simp only [ByteArray.size_append] at h_; exact h_))
    replace H := Option.bind_eq_some_iff.mp H
    obtain ⟨t341, A100, H⟩ := H
    replace H : ((spec_l1Num.f k t341).bind fun t342 => (if (((t338 ++ (⟨#[44]⟩ : ByteArray)) ++ t340) ++ (⟨#[44]⟩ : ByteArray)).size + t342.size ≤ 9223372036854775807 then (some ((((t338 ++ (⟨#[44]⟩ : ByteArray)) ++ t340) ++ (⟨#[44]⟩ : ByteArray)) ++ t342)) else (none))) = some r := H
    have A10 := Aside0.mk A100
    clear A100
    replace H := Option.bind_eq_some_iff.mp H
    obtain ⟨t342, A110, H⟩ := H
    replace H : (if (((t338 ++ (⟨#[44]⟩ : ByteArray)) ++ t340) ++ (⟨#[44]⟩ : ByteArray)).size + t342.size ≤ 9223372036854775807 then (some ((((t338 ++ (⟨#[44]⟩ : ByteArray)) ++ t340) ++ (⟨#[44]⟩ : ByteArray)) ++ t342)) else (none)) = some r := H
    have A11 := Aside0.mk A110
    clear A110
    by_cases c12 : (((t338 ++ (⟨#[44]⟩ : ByteArray)) ++ t340) ++ (⟨#[44]⟩ : ByteArray)).size + t342.size ≤ 9223372036854775807
    ·rw [if_pos c12] at H
     have c12b0 := eq_true c12
     have c12b1 : decide ((((t338 ++ (⟨#[44]⟩ : ByteArray)) ++ t340) ++ (⟨#[44]⟩ : ByteArray)).size + t342.size ≤ 9223372036854775807) = true := decide_eq_true c12
     try have c12b2 : (9223372036854775807 < (((t338 ++ (⟨#[44]⟩ : ByteArray)) ++ t340) ++ (⟨#[44]⟩ : ByteArray)).size + t342.size) = False := eq_false (Nat.not_lt.2 c12)
     have c12b3 : (9223372036854775807 < t338.size + 1 + t340.size + 1 + t342.size) = False := eq_false (Nat.not_lt.2 (by have h_ := c12; simp only [ByteArray.size_append] at h_; exact h_))
     obtain rfl := Option.some.inj H
     go_enter Tryd.func35, Tryd.ntmps35
     try go_wp2_with (first | ((with_reducible refine gate_dst (N := 2) rfl ?_); refine box_event ?hg (N := 2) ?hd (cs := #[.int .i64 a0_0, .int .i64 a0_1, .int .i64 a0_2]) (t := 26) ?hr ?_; (case hd => rfl); (case hg => rfl); (case hr => first | (go_simp; done) | (go_simp; rfl)); intro gb336 hg w13 hbox hb; have BK336 := Aside0.mk (hbox); have GW336 := gs_ hg HB; have GE336 := gs_ hg HB; replace HB := hbs_ HB hb; clear hb hbox hg))
     have n0_ := Aside0.mk (blk_drew BK336.out)
     have n1_ := Aside0.mk (below_drew1 HB.out)
     clear BK336
     clear HB
     have BK336 := n0_
     have HB := n1_
     clear n0_ n1_
     refine start_ (n := 17) (S := fun w' => w'.cell? ⟨gb336, 0, none⟩ = some (.int .i64 a0_0) ∧ w'.cell? ⟨gb336, 1, none⟩ = some (.int .i64 a0_1) ∧ w'.cell? ⟨gb336, 2, none⟩ = some (.int .i64 a0_2)) (ds := []) #[false, false, false, false, false, false, false, false, false, false, false, false, false, false, false, false, false] (by kernel_rfl) rfl rfl ⟨(blk_cell BK336.out 0).trans rfl, (blk_cell BK336.out 1).trans rfl, (blk_cell BK336.out 2).trans rfl⟩ (fun hHeld => ?_); refine with_tabW spec_grName.tab1 spec_grName.bits1 (fun HT_ HW_ => ?_)
     generalize w13.drew = w14 at BK336 HB hHeld ⊢
     refine pure_ (i := 1) (N := some 6) (v := ?_) (a' := ?_) #[false, true, false, false, false, false, false, false, false, false, false, false, false, false, false, false, false] rfl rfl (any_of HT_.out (by kernel_rfl)) (fun _ _ _ h => h) (Or.inl ⟨by rfl, ?_⟩) ?_ ?_
     rotate_left
     ·intro w'
      go_simp
      with_reducible rfl
     rotate_left
     ·simp only [Act.put, List.setIfInBounds_toArray, List.set_cons_zero, List.set_cons_succ, i64_w, i32_w]
      rfl
     refine pure_ (i := 6) (N := some 11) (v := ?_) (a' := ?_) #[false, true, false, false, false, false, true, false, false, false, false, false, false, false, false, false, false] rfl rfl (any_of HT_.out (by kernel_rfl)) (fun _ _ _ h => h) (Or.inl ⟨by rfl, ?_⟩) ?_ ?_
     rotate_left
     ·intro w'
      go_simp
      with_reducible rfl
     rotate_left
     ·simp only [Act.put, List.setIfInBounds_toArray, List.set_cons_zero, List.set_cons_succ, i64_w, i32_w]
      rfl
     refine pure_ (i := 12) (N := some 17) (v := ?_) (a' := ?_) #[false, true, false, false, false, false, true, false, false, false, false, false, true, false, false, false, false] rfl rfl (any_of HT_.out (by kernel_rfl)) (fun _ _ _ h => h) (Or.inl ⟨by rfl, ?_⟩) ?_ ?_
     rotate_left
     ·intro w'
      go_simp
      with_reducible rfl
     rotate_left
     ·simp only [Act.put, List.setIfInBounds_toArray, List.set_cons_zero, List.set_cons_succ, i64_w, i32_w]
      rfl
     refine take_ (i := 0) (N := some 5) (v := ?_) (a' := ?_) #[true, true, false, false, false, false, true, false, false, false, false, false, true, false, false, false, false] rfl rfl (take_ofW HT_.out HW_.out (by kernel_rfl)) (fun _ _ _ h => h) (Or.inl ⟨by rfl, ?_⟩) hHeld ?_ ?_
     rotate_left
     ·rintro w' ⟨s0, s1, s2⟩
      go_simp
      with_reducible rfl
     rotate_left
     ·simp only [Act.put, List.setIfInBounds_toArray, List.set_cons_zero, List.set_cons_succ, i64_w, i32_w]
      rfl
     refine take_ (i := 5) (N := some 10) (v := ?_) (a' := ?_) #[true, true, false, false, false, true, true, false, false, false, false, false, true, false, false, false, false] rfl rfl (take_ofW HT_.out HW_.out (by kernel_rfl)) (fun _ _ _ h => h) (Or.inl ⟨by rfl, ?_⟩) hHeld ?_ ?_
     rotate_left
     ·rintro w' ⟨s0, s1, s2⟩
      go_simp
      with_reducible rfl
     rotate_left
     ·simp only [Act.put, List.setIfInBounds_toArray, List.set_cons_zero, List.set_cons_succ, i64_w, i32_w]
      rfl
     refine take_ (i := 11) (N := some 16) (v := ?_) (a' := ?_) #[true, true, false, false, false, true, true, false, false, false, false, true, true, false, false, false, false] rfl rfl (take_ofW HT_.out HW_.out (by kernel_rfl)) (fun _ _ _ h => h) (Or.inl ⟨by rfl, ?_⟩) hHeld ?_ ?_
     rotate_left
     ·rintro w' ⟨s0, s1, s2⟩
      go_simp
      with_reducible rfl
     rotate_left
     ·simp only [Act.put, List.setIfInBounds_toArray, List.set_cons_zero, List.set_cons_succ, i64_w, i32_w]
      rfl
     refine one_ (i := 2) (N := some 7) #[true, true, true, false, false, true, true, false, false, false, false, true, true, false, false, false, false] rfl rfl (one_of HT_.out (by kernel_rfl)) (by decide) (fun K hK => ?_)
     refine goes_ Tryd.func48 (by kernel_rfl) rfl #[.agg #[.int .i64 a0_0, .int .i64 a0_1, .int .i64 a0_2], .int .i64 a1] (by rfl) rfl rfl (by (try simp only [List.map_toArray, List.map_cons, List.map_nil]); first | done | rfl | (simp only [List.length_drop, List.length_take]; rfl)) ?_
     with_reducible refine (spec_grX.calls a0_0 a0_1 a0_2 a1 t337 _ A3.out).mono ?_
     rintro e w15 ⟨rfl, hb⟩
     refine ⟨_, rfl, ?_⟩
     have n0_ := Aside0.mk (blk_below (kp_ BK336) hb)
     have n1_ := Aside0.mk (below_step (hb_ HB) hb)
     clear BK336
     clear HB
     have BK336 := n0_
     have HB := n1_
     clear n0_ n1_
     (try clear hb)
     (try clear hb2)
     (try clear hk)
     (try clear hi)
     refine hK.out _ _ ⟨(blk_cell BK336.out 0).trans rfl, (blk_cell BK336.out 1).trans rfl, (blk_cell BK336.out 2).trans rfl⟩ (fun hHeld => ?_)
     clear hK K
     refine norm_ (a' := ?_) ?_ ?_
     rotate_left
     ·show Act.put _ (some 7) _ = _
      simp only [Act.put, List.setIfInBounds_toArray, List.set_cons_zero, List.set_cons_succ, i64_w, i32_w]
      rfl
     refine one_ (i := 3) (N := some 8) #[true, true, true, true, false, true, true, false, false, false, false, true, true, false, false, false, false] rfl rfl (one_of HT_.out (by kernel_rfl)) (by decide) (fun K hK => ?_)
     refine goes_ Tryd.func58 (by kernel_rfl) rfl #[.int .i64 t337] (by rfl) rfl rfl (by (try simp only [List.map_toArray, List.map_cons, List.map_nil]); first | done | rfl | (simp only [List.length_drop, List.length_take]; rfl)) ?_
     with_reducible refine (spec_l1Num.calls k t337 t338 _ A4.out).mono ?_
     rintro e w16 ⟨rfl, hb⟩
     refine ⟨_, rfl, ?_⟩
     have n0_ := Aside0.mk (blk_below (kp_ BK336) hb)
     have n1_ := Aside0.mk (below_step (hb_ HB) hb)
     clear BK336
     clear HB
     have BK336 := n0_
     have HB := n1_
     clear n0_ n1_
     (try clear hb)
     (try clear hb2)
     (try clear hk)
     (try clear hi)
     refine hK.out _ _ ⟨(blk_cell BK336.out 0).trans rfl, (blk_cell BK336.out 1).trans rfl, (blk_cell BK336.out 2).trans rfl⟩ (fun hHeld => ?_)
     clear hK K
     refine norm_ (a' := ?_) ?_ ?_
     rotate_left
     ·show Act.put _ (some 8) _ = _
      simp only [Act.put, List.setIfInBounds_toArray, List.set_cons_zero, List.set_cons_succ, i64_w, i32_w]
      rfl
     refine pure_ (i := 4) (N := some 9) (v := ?_) (a' := ?_) #[true, true, true, true, true, true, true, false, false, false, false, true, true, false, false, false, false] rfl rfl (any_of HT_.out (by kernel_rfl)) (fun _ _ _ h => h) (Or.inl ⟨by rfl, ?_⟩) ?_ ?_
     rotate_left
     ·intro w'
      go_simp
      with_reducible rfl
     rotate_left
     ·simp only [Act.put, List.setIfInBounds_toArray, List.set_cons_zero, List.set_cons_succ, i64_w, i32_w]
      rfl
     refine one_ (i := 7) (N := some 12) #[true, true, true, true, true, true, true, true, false, false, false, true, true, false, false, false, false] rfl rfl (one_of HT_.out (by kernel_rfl)) (by decide) (fun K hK => ?_)
     refine goes_ Tryd.func49 (by kernel_rfl) rfl #[.agg #[.int .i64 a0_0, .int .i64 a0_1, .int .i64 a0_2], .int .i64 a1] (by rfl) rfl rfl (by (try simp only [List.map_toArray, List.map_cons, List.map_nil]); first | done | rfl | (simp only [List.length_drop, List.length_take]; rfl)) ?_
     with_reducible refine (spec_grY.calls a0_0 a0_1 a0_2 a1 t339 _ A6.out).mono ?_
     rintro e w17 ⟨rfl, hb⟩
     refine ⟨_, rfl, ?_⟩
     have n0_ := Aside0.mk (blk_below (kp_ BK336) hb)
     have n1_ := Aside0.mk (below_step (hb_ HB) hb)
     clear BK336
     clear HB
     have BK336 := n0_
     have HB := n1_
     clear n0_ n1_
     (try clear hb)
     (try clear hb2)
     (try clear hk)
     (try clear hi)
     refine hK.out _ _ ⟨(blk_cell BK336.out 0).trans rfl, (blk_cell BK336.out 1).trans rfl, (blk_cell BK336.out 2).trans rfl⟩ (fun hHeld => ?_)
     clear hK K
     refine norm_ (a' := ?_) ?_ ?_
     rotate_left
     ·show Act.put _ (some 12) _ = _
      simp only [Act.put, List.setIfInBounds_toArray, List.set_cons_zero, List.set_cons_succ, i64_w, i32_w]
      rfl
     refine one_ (i := 8) (N := some 13) #[true, true, true, true, true, true, true, true, true, false, false, true, true, false, false, false, false] rfl rfl (one_of HT_.out (by kernel_rfl)) (by decide) (fun K hK => ?_)
     refine goes_ Tryd.func58 (by kernel_rfl) rfl #[.int .i64 t339] (by rfl) rfl rfl (by (try simp only [List.map_toArray, List.map_cons, List.map_nil]); first | done | rfl | (simp only [List.length_drop, List.length_take]; rfl)) ?_
     with_reducible refine (spec_l1Num.calls k t339 t340 _ A7.out).mono ?_
     rintro e w18 ⟨rfl, hb⟩
     refine ⟨_, rfl, ?_⟩
     have n0_ := Aside0.mk (blk_below (kp_ BK336) hb)
     have n1_ := Aside0.mk (below_step (hb_ HB) hb)
     clear BK336
     clear HB
     have BK336 := n0_
     have HB := n1_
     clear n0_ n1_
     (try clear hb)
     (try clear hb2)
     (try clear hk)
     (try clear hi)
     refine hK.out _ _ ⟨(blk_cell BK336.out 0).trans rfl, (blk_cell BK336.out 1).trans rfl, (blk_cell BK336.out 2).trans rfl⟩ (fun hHeld => ?_)
     clear hK K
     refine norm_ (a' := ?_) ?_ ?_
     rotate_left
     ·show Act.put _ (some 13) _ = _
      simp only [Act.put, List.setIfInBounds_toArray, List.set_cons_zero, List.set_cons_succ, i64_w, i32_w]
      rfl
     refine pure_ (i := 9) (N := some 14) (v := ?_) (a' := ?_) #[true, true, true, true, true, true, true, true, true, true, false, true, true, false, false, false, false] rfl rfl (any_of HT_.out (by kernel_rfl)) (fun _ _ _ h => h) (Or.inl ⟨by rfl, ?_⟩) ?_ ?_
     rotate_left
     ·intro w'
      go_simp
      with_reducible rfl
     rotate_left
     ·simp only [Act.put, List.setIfInBounds_toArray, List.set_cons_zero, List.set_cons_succ, i64_w, i32_w]
      rfl
     refine pure_ (i := 10) (N := some 15) (v := ?_) (a' := ?_) #[true, true, true, true, true, true, true, true, true, true, true, true, true, false, false, false, false] rfl rfl (any_of HT_.out (by kernel_rfl)) (fun _ _ _ h => h) (Or.inl ⟨by rfl, ?_⟩) ?_ ?_
     rotate_left
     ·intro w'
      go_simp
      with_reducible rfl
     rotate_left
     ·simp only [Act.put, List.setIfInBounds_toArray, List.set_cons_zero, List.set_cons_succ, i64_w, i32_w]
      rfl
     refine one_ (i := 13) (N := some 18) #[true, true, true, true, true, true, true, true, true, true, true, true, true, true, false, false, false] rfl rfl (one_of HT_.out (by kernel_rfl)) (by decide) (fun K hK => ?_)
     refine goes_ Tryd.func50 (by kernel_rfl) rfl #[.agg #[.int .i64 a0_0, .int .i64 a0_1, .int .i64 a0_2], .int .i64 a1] (by rfl) rfl rfl (by (try simp only [List.map_toArray, List.map_cons, List.map_nil]); first | done | rfl | (simp only [List.length_drop, List.length_take]; rfl)) ?_
     with_reducible refine (spec_grZ.calls a0_0 a0_1 a0_2 a1 t341 _ A10.out).mono ?_
     rintro e w19 ⟨rfl, hb⟩
     refine ⟨_, rfl, ?_⟩
     have n0_ := Aside0.mk (blk_below (kp_ BK336) hb)
     have n1_ := Aside0.mk (below_step (hb_ HB) hb)
     clear BK336
     clear HB
     have BK336 := n0_
     have HB := n1_
     clear n0_ n1_
     (try clear hb)
     (try clear hb2)
     (try clear hk)
     (try clear hi)
     refine hK.out _ _ ⟨(blk_cell BK336.out 0).trans rfl, (blk_cell BK336.out 1).trans rfl, (blk_cell BK336.out 2).trans rfl⟩ (fun hHeld => ?_)
     clear hK K
     refine norm_ (a' := ?_) ?_ ?_
     rotate_left
     ·show Act.put _ (some 18) _ = _
      simp only [Act.put, List.setIfInBounds_toArray, List.set_cons_zero, List.set_cons_succ, i64_w, i32_w]
      rfl
     refine one_ (i := 14) (N := some 19) #[true, true, true, true, true, true, true, true, true, true, true, true, true, true, true, false, false] rfl rfl (one_of HT_.out (by kernel_rfl)) (by decide) (fun K hK => ?_)
     refine goes_ Tryd.func58 (by kernel_rfl) rfl #[.int .i64 t341] (by rfl) rfl rfl (by (try simp only [List.map_toArray, List.map_cons, List.map_nil]); first | done | rfl | (simp only [List.length_drop, List.length_take]; rfl)) ?_
     with_reducible refine (spec_l1Num.calls k t341 t342 _ A11.out).mono ?_
     rintro e w20 ⟨rfl, hb⟩
     refine ⟨_, rfl, ?_⟩
     have n0_ := Aside0.mk (blk_below (kp_ BK336) hb)
     have n1_ := Aside0.mk (below_step (hb_ HB) hb)
     clear BK336
     clear HB
     have BK336 := n0_
     have HB := n1_
     clear n0_ n1_
     (try clear hb)
     (try clear hb2)
     (try clear hk)
     (try clear hi)
     refine hK.out _ _ ⟨(blk_cell BK336.out 0).trans rfl, (blk_cell BK336.out 1).trans rfl, (blk_cell BK336.out 2).trans rfl⟩ (fun hHeld => ?_)
     clear hK K
     refine norm_ (a' := ?_) ?_ ?_
     rotate_left
     ·show Act.put _ (some 19) _ = _
      simp only [Act.put, List.setIfInBounds_toArray, List.set_cons_zero, List.set_cons_succ, i64_w, i32_w]
      rfl
     refine pure_ (i := 15) (N := some 20) (v := ?_) (a' := ?_) #[true, true, true, true, true, true, true, true, true, true, true, true, true, true, true, true, false] rfl rfl (any_of HT_.out (by kernel_rfl)) (fun _ _ _ h => h) (Or.inl ⟨by rfl, ?_⟩) ?_ ?_
     rotate_left
     ·intro w'
      go_simp
      with_reducible rfl
     rotate_left
     ·simp only [Act.put, List.setIfInBounds_toArray, List.set_cons_zero, List.set_cons_succ, i64_w, i32_w]
      rfl
     refine pure_ (i := 16) (N := some 4) (v := ?_) (a' := ?_) #[true, true, true, true, true, true, true, true, true, true, true, true, true, true, true, true, true] rfl rfl (any_of HT_.out (by kernel_rfl)) (fun _ _ _ h => h) (Or.inl ⟨by rfl, ?_⟩) ?_ ?_
     rotate_left
     ·intro w'
      go_simp
      with_reducible rfl
     rotate_left
     ·simp only [Act.put, List.setIfInBounds_toArray, List.set_cons_zero, List.set_cons_succ, i64_w, i32_w]
      rfl
     refine done_ (done_of HT_.out (by kernel_rfl)) ?_
     try go_wp2
     go_ret
     exact ⟨by first | rfl | (simp [errW_none, errW_some] <;> rfl) | (simp [*, errW_none, errW_some] <;> rfl), hb_ HB⟩
    ·rw [if_neg c12] at H
     exact absurd H (by simp)
   ·rw [if_neg c9] at H
    exact absurd H (by simp)
  ·rw [if_neg c8] at H
   exact absurd H (by simp)
 ·rw [if_neg c5] at H
  exact absurd H (by simp)

/-! ### spec_l1Cur_spoilt: function 55 -/
mutual
def spec_l1Cur_spoilt.l0 : Nat → ByteArray → ByteArray → Int → List Int → Int → Int → Option (ByteArray × Int × Int)
 | 0, _, _, _, _, _, _ => none
 | k + 1, x1, x2, x7, x1000, x1001, x1002 => if x7 > 0 then (spec_l1Cur_spoilt.j1 k x1 x2 x7 (decide ((x1.size : Int) > 0)) x1000 x1001 x1002) else (spec_l1Cur_spoilt.j1 k x1 x2 x7 false x1000 x1001 x1002)
def spec_l1Cur_spoilt.j1 : Nat → ByteArray → ByteArray → Int → Bool → List Int → Int → Int → Option (ByteArray × Int × Int)
 | 0, _, _, _, _, _, _, _ => none
 | k + 1, x1, x2, x7, x19, x1000, x1001, x1002 => if x19 = true then ((spec_l1Cur_pick.f x1000 x1001 x1002 (x1.size : Int)).bind fun bt346 => ((spec_l1Cur_pick.f x1000 bt346.2.1 bt346.2.2 (x2.size : Int)).bind fun bt349 => (if 0 ≤ bt349.1 then (if bt349.1 < (x2.size : Int) then ((some (([bt x2 bt349.1] : List Int) : List Int)).bind fun y352 => ((spec_l1Cur_pick.f x1000 bt349.2.1 bt349.2.2 3).bind fun bt355 => (if bt355.1 = 0 then (if 0 ≤ bt346.1 then (if bt346.1 ≤ (x1.size : Int) then (if (x1.extract 0 (bt346.1 : Int).toNat).size + (strOfNums y352).size ≤ 9223372036854775807 then (if ((x1.extract 0 (bt346.1 : Int).toNat) ++ (strOfNums y352)).size + (x1.extract (bt346.1 : Int).toNat x1.size).size ≤ 9223372036854775807 then (spec_l1Cur_spoilt.l0 k (((x1.extract 0 (bt346.1 : Int).toNat) ++ (strOfNums y352)) ++ (x1.extract (bt346.1 : Int).toNat x1.size)) x2 (wrap64 (x7 - 1)) x1000 bt355.2.1 bt355.2.2) else (none)) else (none)) else (none)) else (none)) else (if bt355.1 = 1 then (if 0 ≤ bt346.1 then (if bt346.1 ≤ (x1.size : Int) then (if (x1.extract 0 (bt346.1 : Int).toNat).size + (strOfNums y352).size ≤ 9223372036854775807 then (if 0 ≤ (wrap64 (bt346.1 + 1)) then (if (wrap64 (bt346.1 + 1)) ≤ (x1.size : Int) then (if ((x1.extract 0 (bt346.1 : Int).toNat) ++ (strOfNums y352)).size + (x1.extract ((wrap64 (bt346.1 + 1)) : Int).toNat x1.size).size ≤ 9223372036854775807 then (spec_l1Cur_spoilt.l0 k (((x1.extract 0 (bt346.1 : Int).toNat) ++ (strOfNums y352)) ++ (x1.extract ((wrap64 (bt346.1 + 1)) : Int).toNat x1.size)) x2 (wrap64 (x7 - 1)) x1000 bt355.2.1 bt355.2.2) else (none)) else (none)) else (none)) else (none)) else (none)) else (none)) else (if 0 ≤ bt346.1 then (if bt346.1 ≤ (x1.size : Int) then (if 0 ≤ (wrap64 (bt346.1 + 1)) then (if (wrap64 (bt346.1 + 1)) ≤ (x1.size : Int) then (if (x1.extract 0 (bt346.1 : Int).toNat).size + (x1.extract ((wrap64 (bt346.1 + 1)) : Int).toNat x1.size).size ≤ 9223372036854775807 then (spec_l1Cur_spoilt.l0 k ((x1.extract 0 (bt346.1 : Int).toNat) ++ (x1.extract ((wrap64 (bt346.1 + 1)) : Int).toNat x1.size)) x2 (wrap64 (x7 - 1)) x1000 bt355.2.1 bt355.2.2) else (none)) else (none)) else (none)) else (none)) else (none)))))) else (none)) else (none)))) else (some (x1, x1001, x1002))
end
def spec_l1Cur_spoilt.f (k : Nat) (s0_0 : List Int) (s0_1 : Int) (s0_2 : Int) (a1 : ByteArray) (a2 : ByteArray) : Option (ByteArray × Int × Int) := (spec_l1Cur_pick.f s0_0 s0_1 s0_2 2).bind fun bt343 => (spec_l1Cur_spoilt.l0 k a1 a2 (wrap64 (1 + bt343.1)) s0_0 bt343.2.1 bt343.2.2)
set_option maxHeartbeats 8000000 in
set_option maxRecDepth 100000 in
theorem spec_l1Cur_spoilt.calls (k : Nat) (g : Nat) (s0_0 : List Int) (s0_1 : Int) (s0_2 : Int) (a1 : ByteArray) (a2 : ByteArray) (r1 : ByteArray) (r2 : Int) (r3 : Int) (w0 w : World) (hI : IsS68 w0 w g s0_0 s0_1 s0_2) (hB : Below w0.heap.size w0 w) (h : spec_l1Cur_spoilt.f k s0_0 s0_1 s0_2 a1 a2 = some (r1, r2, r3)) :
  Calls Tryd.prog 55 #[.pointer (some ⟨g, 0, none⟩), .string a1, .string a2] w fun e w' => e = .returned (.string r1) ∧ IsS68 w0 w' g s0_0 r2 r3 ∧ Below w0.heap.size w0 w' ∧ KeepBut w w' g none := by
 have HI0 := Aside0.mk hI
 have HK := Aside0.mk (KeepBut.refl w g none)
 have HL := Aside0.mk hB.size
 clear hI
 have HW0 := Aside0.mk hB.size
 have HB := Aside0.mk hB
 clear hB
 have H : ((spec_l1Cur_pick.f s0_0 s0_1 s0_2 2).bind fun bt343 => (spec_l1Cur_spoilt.l0 k a1 a2 (wrap64 (1 + bt343.1)) s0_0 bt343.2.1 bt343.2.2)) = some (r1, r2, r3) := h
 clear h
 replace H := Option.bind_eq_some_iff.mp H
 obtain ⟨⟨t343, t344, t345⟩, A40, H⟩ := H
 replace H : (spec_l1Cur_spoilt.l0 k a1 a2 (wrap64 (1 + t343)) s0_0 t344 t345) = some (r1, r2, r3) := H
 have A4 := Aside0.mk A40
 clear A40
 have H' := Aside0.mk H
 clear H
 go_enter Tryd.func55, Tryd.ntmps55
 go_wp2_with (first | (go_at_call 52; (with_reducible refine (spec_l1Cur_pick.calls g s0_0 s0_1 s0_2 2 t343 t344 t345 w0 _ ?side1 ?side2 A4.out).mono ?_); (case side1 => exact IsS68.q HI0); (case side2 => exact hbI_ HB (IsS68.ge HI0.out)); rintro e w5 ⟨rfl, hi, hb, hk⟩; have n0_ := Aside0.mk (KeepBut.trans (hk_ HK) hk (.inl rfl)); have n1_ := Aside0.mk (hb); have n2_ := Aside0.mk (hi); clear HK; clear HB; clear HI0; have HK := n0_; have HB := n1_; have HI0 := n2_; clear n0_ n1_ n2_; (try clear hb); (try clear hb2); (try clear hk); (try clear hi)))
 repeat (go_quiet (first | (go_at_call 52; (with_reducible refine (spec_l1Cur_pick.calls g s0_0 s0_1 s0_2 2 t343 t344 t345 w0 _ ?side1 ?side2 A4.out).mono ?_); (case side1 => exact IsS68.q HI0); (case side2 => exact hbI_ HB (IsS68.ge HI0.out)); rintro e w5 ⟨rfl, hi, hb, hk⟩; have n0_ := Aside0.mk (KeepBut.trans (hk_ HK) hk (.inl rfl)); have n1_ := Aside0.mk (hb); have n2_ := Aside0.mk (hi); clear HK; clear HB; clear HI0; have HK := n0_; have HB := n1_; have HI0 := n2_; clear n0_ n1_ n2_; (try clear hb); (try clear hb2); (try clear hk); (try clear hi))); try go_wp2_with (first | (go_at_call 52; (with_reducible refine (spec_l1Cur_pick.calls g s0_0 s0_1 s0_2 2 t343 t344 t345 w0 _ ?side1 ?side2 A4.out).mono ?_); (case side1 => exact IsS68.q HI0); (case side2 => exact hbI_ HB (IsS68.ge HI0.out)); rintro e w5 ⟨rfl, hi, hb, hk⟩; have n0_ := Aside0.mk (KeepBut.trans (hk_ HK) hk (.inl rfl)); have n1_ := Aside0.mk (hb); have n2_ := Aside0.mk (hi); clear HK; clear HB; clear HI0; have HK := n0_; have HB := n1_; have HI0 := n2_; clear n0_ n1_ n2_; (try clear hb); (try clear hb2); (try clear hk); (try clear hi))))
 go_loopg [1, 7] k (fun kq v1 v7 w' => ∃ (x1_1 : ByteArray) (x7_1 : Int) (x1001_1 : Int) (x1002_1 : Int), v1 = .string x1_1 ∧ v7 = .int .i64 x7_1 ∧ Aside0 (spec_l1Cur_spoilt.l0 kq x1_1 a2 x7_1 s0_0 x1001_1 x1002_1 = some (r1, r2, r3)) ∧ Aside0 (kq ≤ k) ∧ Aside0 (IsS68 w0 w' g s0_0 x1001_1 x1002_1) ∧ Aside0 (KeepBut w w' g none) ∧ Aside0 (Below w0.heap.size w0 w'))
 case atStart => exact ⟨(a1), (wrap64 (1 + t343)), (t344), (t345), (by first | rfl | (simp; done) | (simp [*]; done)), (by first | rfl | (simp; done) | (simp [*]; done)), H', ⟨Nat.le_refl _⟩, ⟨IsS68.q HI0⟩, ⟨hk_ HK⟩, ⟨hbI_ HB (IsS68.ge HI0.out)⟩⟩
 case round =>
  clear H'
  (try clear p2); (try clear c5)
  obtain ⟨x1_1, x7_1, x1001_1, x1002_1, rfl, rfl, HA, HK1, HI0, HK, HB⟩ := hrel
  cases gk with
  | zero => exact absurd HA.out (by simp [spec_l1Cur_spoilt.l0])
  | succ k1 =>
   have H := HA.out
   clear HA
   simp only [spec_l1Cur_spoilt.l0] at H
   have HC6 := Aside0.mk H
   clear H
   go_upto_region 2 with (fail)
   repeat (go_quiet (fail); go_upto_region 2 with (fail))
   go_cut [19] (fun v19 wc => ∃ (kq : Nat) (x19_5 : Bool), v19 = .bool x19_5 ∧ Aside0 (spec_l1Cur_spoilt.j1 kq x1_1 a2 x7_1 x19_5 s0_0 x1001_1 x1002_1 = some (r1, r2, r3)) ∧ Aside0 (kq ≤ k1) ∧ Aside0 (IsS68 w0 wc g s0_0 x1001_1 x1002_1) ∧ Aside0 (KeepBut w wc g none) ∧ Aside0 (Below w0.heap.size w0 wc))
   case first =>
    have H := HC6.out
    clear HC6
    by_cases c7 : x7_1 > 0
    ·rw [if_pos c7] at H
     have c7b0 : decide (0 < x7_1) = true := decide_eq_true c7
     clear c7
     (first | rw [c7b0] | (simp only [i64_w, i32_w]; rw [c7b0]) | skip)
     have H' := Aside0.mk H
     clear H
     go_wp2
     repeat (go_quiet (fail); try go_wp2)
     go_meet
     case rel => exact ⟨_, (decide ((x1_1.size : Int) > 0)), (by first | rfl | (simp; done) | (simp [*]; done)), H', ⟨by have := HK1.out; first | omega | exact Nat.le_refl _⟩, ⟨IsS68.q HI0⟩, ⟨hk_ HK⟩, ⟨hbI_ HB (IsS68.ge HI0.out)⟩⟩
    ·rw [if_neg c7] at H
     have c7b0 : decide (0 < x7_1) = false := decide_eq_false c7
     clear c7
     (first | rw [c7b0] | (simp only [i64_w, i32_w]; rw [c7b0]) | skip)
     have H' := Aside0.mk H
     clear H
     go_wp2
     repeat (go_quiet (fail); try go_wp2)
     go_meet
     case rel => exact ⟨_, (false), (by first | rfl | (simp; done) | (simp [*]; done)), H', ⟨by have := HK1.out; first | omega | exact Nat.le_refl _⟩, ⟨IsS68.q HI0⟩, ⟨hk_ HK⟩, ⟨hbI_ HB (IsS68.ge HI0.out)⟩⟩
   case rest =>
    clear HC6
    (try clear p2); (try clear c5); (try clear p6); (try clear c7); (try clear c7b0)
    obtain ⟨kq, x19_5, rfl, HA, HJ5, HI0, HK, HB⟩ := hcut
    cases kq with
    | zero => exact absurd HA.out (by simp [spec_l1Cur_spoilt.j1])
    | succ kj5 =>
     have H := HA.out
     clear HA
     simp only [spec_l1Cur_spoilt.j1] at H
     by_cases c8 : x19_5 = true
     ·subst c8
      have H1 : ((spec_l1Cur_pick.f s0_0 x1001_1 x1002_1 (x1_1.size : Int)).bind fun bt346 => ((spec_l1Cur_pick.f s0_0 bt346.2.1 bt346.2.2 (a2.size : Int)).bind fun bt349 => (if 0 ≤ bt349.1 then (if bt349.1 < (a2.size : Int) then ((some (([bt a2 bt349.1] : List Int) : List Int)).bind fun y352 => ((spec_l1Cur_pick.f s0_0 bt349.2.1 bt349.2.2 3).bind fun bt355 => (if bt355.1 = 0 then (if 0 ≤ bt346.1 then (if bt346.1 ≤ (x1_1.size : Int) then (if (x1_1.extract 0 (bt346.1 : Int).toNat).size + (strOfNums y352).size ≤ 9223372036854775807 then (if ((x1_1.extract 0 (bt346.1 : Int).toNat) ++ (strOfNums y352)).size + (x1_1.extract (bt346.1 : Int).toNat x1_1.size).size ≤ 9223372036854775807 then (spec_l1Cur_spoilt.l0 kj5 (((x1_1.extract 0 (bt346.1 : Int).toNat) ++ (strOfNums y352)) ++ (x1_1.extract (bt346.1 : Int).toNat x1_1.size)) a2 (wrap64 (x7_1 - 1)) s0_0 bt355.2.1 bt355.2.2) else (none)) else (none)) else (none)) else (none)) else (if bt355.1 = 1 then (if 0 ≤ bt346.1 then (if bt346.1 ≤ (x1_1.size : Int) then (if (x1_1.extract 0 (bt346.1 : Int).toNat).size + (strOfNums y352).size ≤ 9223372036854775807 then (if 0 ≤ (wrap64 (bt346.1 + 1)) then (if (wrap64 (bt346.1 + 1)) ≤ (x1_1.size : Int) then (if ((x1_1.extract 0 (bt346.1 : Int).toNat) ++ (strOfNums y352)).size + (x1_1.extract ((wrap64 (bt346.1 + 1)) : Int).toNat x1_1.size).size ≤ 9223372036854775807 then (spec_l1Cur_spoilt.l0 kj5 (((x1_1.extract 0 (bt346.1 : Int).toNat) ++ (strOfNums y352)) ++ (x1_1.extract ((wrap64 (bt346.1 + 1)) : Int).toNat x1_1.size)) a2 (wrap64 (x7_1 - 1)) s0_0 bt355.2.1 bt355.2.2) else (none)) else (none)) else (none)) else (none)) else (none)) else (none)) else (if 0 ≤ bt346.1 then (if bt346.1 ≤ (x1_1.size : Int) then (if 0 ≤ (wrap64 (bt346.1 + 1)) then (if (wrap64 (bt346.1 + 1)) ≤ (x1_1.size : Int) then (if (x1_1.extract 0 (bt346.1 : Int).toNat).size + (x1_1.extract ((wrap64 (bt346.1 + 1)) : Int).toNat x1_1.size).size ≤ 9223372036854775807 then (spec_l1Cur_spoilt.l0 kj5 ((x1_1.extract 0 (bt346.1 : Int).toNat) ++ (x1_1.extract ((wrap64 (bt346.1 + 1)) : Int).toNat x1_1.size)) a2 (wrap64 (x7_1 - 1)) s0_0 bt355.2.1 bt355.2.2) else (none)) else (none)) else (none)) else (none)) else (none)))))) else (none)) else (none)))) = some (r1, r2, r3) := by rw [if_pos rfl] at H; exact H
      clear H
      have H := H1
      clear H1
      replace H := Option.bind_eq_some_iff.mp H
      obtain ⟨⟨t346, t347, t348⟩, A90, H⟩ := H
      replace H : ((spec_l1Cur_pick.f s0_0 t347 t348 (a2.size : Int)).bind fun bt349 => (if 0 ≤ bt349.1 then (if bt349.1 < (a2.size : Int) then ((some (([bt a2 bt349.1] : List Int) : List Int)).bind fun y352 => ((spec_l1Cur_pick.f s0_0 bt349.2.1 bt349.2.2 3).bind fun bt355 => (if bt355.1 = 0 then (if 0 ≤ t346 then (if t346 ≤ (x1_1.size : Int) then (if (x1_1.extract 0 (t346 : Int).toNat).size + (strOfNums y352).size ≤ 9223372036854775807 then (if ((x1_1.extract 0 (t346 : Int).toNat) ++ (strOfNums y352)).size + (x1_1.extract (t346 : Int).toNat x1_1.size).size ≤ 9223372036854775807 then (spec_l1Cur_spoilt.l0 kj5 (((x1_1.extract 0 (t346 : Int).toNat) ++ (strOfNums y352)) ++ (x1_1.extract (t346 : Int).toNat x1_1.size)) a2 (wrap64 (x7_1 - 1)) s0_0 bt355.2.1 bt355.2.2) else (none)) else (none)) else (none)) else (none)) else (if bt355.1 = 1 then (if 0 ≤ t346 then (if t346 ≤ (x1_1.size : Int) then (if (x1_1.extract 0 (t346 : Int).toNat).size + (strOfNums y352).size ≤ 9223372036854775807 then (if 0 ≤ (wrap64 (t346 + 1)) then (if (wrap64 (t346 + 1)) ≤ (x1_1.size : Int) then (if ((x1_1.extract 0 (t346 : Int).toNat) ++ (strOfNums y352)).size + (x1_1.extract ((wrap64 (t346 + 1)) : Int).toNat x1_1.size).size ≤ 9223372036854775807 then (spec_l1Cur_spoilt.l0 kj5 (((x1_1.extract 0 (t346 : Int).toNat) ++ (strOfNums y352)) ++ (x1_1.extract ((wrap64 (t346 + 1)) : Int).toNat x1_1.size)) a2 (wrap64 (x7_1 - 1)) s0_0 bt355.2.1 bt355.2.2) else (none)) else (none)) else (none)) else (none)) else (none)) else (none)) else (if 0 ≤ t346 then (if t346 ≤ (x1_1.size : Int) then (if 0 ≤ (wrap64 (t346 + 1)) then (if (wrap64 (t346 + 1)) ≤ (x1_1.size : Int) then (if (x1_1.extract 0 (t346 : Int).toNat).size + (x1_1.extract ((wrap64 (t346 + 1)) : Int).toNat x1_1.size).size ≤ 9223372036854775807 then (spec_l1Cur_spoilt.l0 kj5 ((x1_1.extract 0 (t346 : Int).toNat) ++ (x1_1.extract ((wrap64 (t346 + 1)) : Int).toNat x1_1.size)) a2 (wrap64 (x7_1 - 1)) s0_0 bt355.2.1 bt355.2.2) else (none)) else (none)) else (none)) else (none)) else (none)))))) else (none)) else (none))) = some (r1, r2, r3) := H
      have A9 := Aside0.mk A90
      clear A90
      replace H := Option.bind_eq_some_iff.mp H
      obtain ⟨⟨t349, t350, t351⟩, A100, H⟩ := H
      replace H : (if 0 ≤ t349 then (if t349 < (a2.size : Int) then ((some (([bt a2 t349] : List Int) : List Int)).bind fun y352 => ((spec_l1Cur_pick.f s0_0 t350 t351 3).bind fun bt355 => (if bt355.1 = 0 then (if 0 ≤ t346 then (if t346 ≤ (x1_1.size : Int) then (if (x1_1.extract 0 (t346 : Int).toNat).size + (strOfNums y352).size ≤ 9223372036854775807 then (if ((x1_1.extract 0 (t346 : Int).toNat) ++ (strOfNums y352)).size + (x1_1.extract (t346 : Int).toNat x1_1.size).size ≤ 9223372036854775807 then (spec_l1Cur_spoilt.l0 kj5 (((x1_1.extract 0 (t346 : Int).toNat) ++ (strOfNums y352)) ++ (x1_1.extract (t346 : Int).toNat x1_1.size)) a2 (wrap64 (x7_1 - 1)) s0_0 bt355.2.1 bt355.2.2) else (none)) else (none)) else (none)) else (none)) else (if bt355.1 = 1 then (if 0 ≤ t346 then (if t346 ≤ (x1_1.size : Int) then (if (x1_1.extract 0 (t346 : Int).toNat).size + (strOfNums y352).size ≤ 9223372036854775807 then (if 0 ≤ (wrap64 (t346 + 1)) then (if (wrap64 (t346 + 1)) ≤ (x1_1.size : Int) then (if ((x1_1.extract 0 (t346 : Int).toNat) ++ (strOfNums y352)).size + (x1_1.extract ((wrap64 (t346 + 1)) : Int).toNat x1_1.size).size ≤ 9223372036854775807 then (spec_l1Cur_spoilt.l0 kj5 (((x1_1.extract 0 (t346 : Int).toNat) ++ (strOfNums y352)) ++ (x1_1.extract ((wrap64 (t346 + 1)) : Int).toNat x1_1.size)) a2 (wrap64 (x7_1 - 1)) s0_0 bt355.2.1 bt355.2.2) else (none)) else (none)) else (none)) else (none)) else (none)) else (none)) else (if 0 ≤ t346 then (if t346 ≤ (x1_1.size : Int) then (if 0 ≤ (wrap64 (t346 + 1)) then (if (wrap64 (t346 + 1)) ≤ (x1_1.size : Int) then (if (x1_1.extract 0 (t346 : Int).toNat).size + (x1_1.extract ((wrap64 (t346 + 1)) : Int).toNat x1_1.size).size ≤ 9223372036854775807 then (spec_l1Cur_spoilt.l0 kj5 ((x1_1.extract 0 (t346 : Int).toNat) ++ (x1_1.extract ((wrap64 (t346 + 1)) : Int).toNat x1_1.size)) a2 (wrap64 (x7_1 - 1)) s0_0 bt355.2.1 bt355.2.2) else (none)) else (none)) else (none)) else (none)) else (none)))))) else (none)) else (none)) = some (r1, r2, r3) := H
      have A10 := Aside0.mk A100
      clear A100
      by_cases c11 : 0 ≤ t349
      ·rw [if_pos c11] at H
       have c11b0 : decide (0 ≤ t349) = true := decide_eq_true c11
       clear c11
       by_cases c12 : t349 < (a2.size : Int)
       ·rw [if_pos c12] at H
        have c12b0 : decide (t349 < (a2.size : Int)) = true := decide_eq_true c12
        clear c12
        obtain ⟨y352, hy352⟩ : ∃ y_ : List Int, y_ = (([bt a2 t349] : List Int)) := ⟨_, rfl⟩
        replace H : ((spec_l1Cur_pick.f s0_0 t350 t351 3).bind fun bt355 => (if bt355.1 = 0 then (if 0 ≤ t346 then (if t346 ≤ (x1_1.size : Int) then (if (x1_1.extract 0 (t346 : Int).toNat).size + (strOfNums y352).size ≤ 9223372036854775807 then (if ((x1_1.extract 0 (t346 : Int).toNat) ++ (strOfNums y352)).size + (x1_1.extract (t346 : Int).toNat x1_1.size).size ≤ 9223372036854775807 then (spec_l1Cur_spoilt.l0 kj5 (((x1_1.extract 0 (t346 : Int).toNat) ++ (strOfNums y352)) ++ (x1_1.extract (t346 : Int).toNat x1_1.size)) a2 (wrap64 (x7_1 - 1)) s0_0 bt355.2.1 bt355.2.2) else (none)) else (none)) else (none)) else (none)) else (if bt355.1 = 1 then (if 0 ≤ t346 then (if t346 ≤ (x1_1.size : Int) then (if (x1_1.extract 0 (t346 : Int).toNat).size + (strOfNums y352).size ≤ 9223372036854775807 then (if 0 ≤ (wrap64 (t346 + 1)) then (if (wrap64 (t346 + 1)) ≤ (x1_1.size : Int) then (if ((x1_1.extract 0 (t346 : Int).toNat) ++ (strOfNums y352)).size + (x1_1.extract ((wrap64 (t346 + 1)) : Int).toNat x1_1.size).size ≤ 9223372036854775807 then (spec_l1Cur_spoilt.l0 kj5 (((x1_1.extract 0 (t346 : Int).toNat) ++ (strOfNums y352)) ++ (x1_1.extract ((wrap64 (t346 + 1)) : Int).toNat x1_1.size)) a2 (wrap64 (x7_1 - 1)) s0_0 bt355.2.1 bt355.2.2) else (none)) else (none)) else (none)) else (none)) else (none)) else (none)) else (if 0 ≤ t346 then (if t346 ≤ (x1_1.size : Int) then (if 0 ≤ (wrap64 (t346 + 1)) then (if (wrap64 (t346 + 1)) ≤ (x1_1.size : Int) then (if (x1_1.extract 0 (t346 : Int).toNat).size + (x1_1.extract ((wrap64 (t346 + 1)) : Int).toNat x1_1.size).size ≤ 9223372036854775807 then (spec_l1Cur_spoilt.l0 kj5 ((x1_1.extract 0 (t346 : Int).toNat) ++ (x1_1.extract ((wrap64 (t346 + 1)) : Int).toNat x1_1.size)) a2 (wrap64 (x7_1 - 1)) s0_0 bt355.2.1 bt355.2.2) else (none)) else (none)) else (none)) else (none)) else (none))))) = some (r1, r2, r3) := by first | (rw [hy352]; with_reducible exact H) | (have H2_ := (Option.bind_some _ _).symm.trans H; rw [hy352]; with_reducible exact H2_) | (have H2_ := (Option.bind_some _ _).symm.trans H; with_reducible exact H2_) | with_reducible exact H | (rw [hy352]; exact H) | exact H
        have Ny352 := Aside0.mk hy352
        clear hy352
        replace H := Option.bind_eq_some_iff.mp H
        obtain ⟨⟨t355, t356, t357⟩, A140, H⟩ := H
        replace H : (if t355 = 0 then (if 0 ≤ t346 then (if t346 ≤ (x1_1.size : Int) then (if (x1_1.extract 0 (t346 : Int).toNat).size + (strOfNums y352).size ≤ 9223372036854775807 then (if ((x1_1.extract 0 (t346 : Int).toNat) ++ (strOfNums y352)).size + (x1_1.extract (t346 : Int).toNat x1_1.size).size ≤ 9223372036854775807 then (spec_l1Cur_spoilt.l0 kj5 (((x1_1.extract 0 (t346 : Int).toNat) ++ (strOfNums y352)) ++ (x1_1.extract (t346 : Int).toNat x1_1.size)) a2 (wrap64 (x7_1 - 1)) s0_0 t356 t357) else (none)) else (none)) else (none)) else (none)) else (if t355 = 1 then (if 0 ≤ t346 then (if t346 ≤ (x1_1.size : Int) then (if (x1_1.extract 0 (t346 : Int).toNat).size + (strOfNums y352).size ≤ 9223372036854775807 then (if 0 ≤ (wrap64 (t346 + 1)) then (if (wrap64 (t346 + 1)) ≤ (x1_1.size : Int) then (if ((x1_1.extract 0 (t346 : Int).toNat) ++ (strOfNums y352)).size + (x1_1.extract ((wrap64 (t346 + 1)) : Int).toNat x1_1.size).size ≤ 9223372036854775807 then (spec_l1Cur_spoilt.l0 kj5 (((x1_1.extract 0 (t346 : Int).toNat) ++ (strOfNums y352)) ++ (x1_1.extract ((wrap64 (t346 + 1)) : Int).toNat x1_1.size)) a2 (wrap64 (x7_1 - 1)) s0_0 t356 t357) else (none)) else (none)) else (none)) else (none)) else (none)) else (none)) else (if 0 ≤ t346 then (if t346 ≤ (x1_1.size : Int) then (if 0 ≤ (wrap64 (t346 + 1)) then (if (wrap64 (t346 + 1)) ≤ (x1_1.size : Int) then (if (x1_1.extract 0 (t346 : Int).toNat).size + (x1_1.extract ((wrap64 (t346 + 1)) : Int).toNat x1_1.size).size ≤ 9223372036854775807 then (spec_l1Cur_spoilt.l0 kj5 ((x1_1.extract 0 (t346 : Int).toNat) ++ (x1_1.extract ((wrap64 (t346 + 1)) : Int).toNat x1_1.size)) a2 (wrap64 (x7_1 - 1)) s0_0 t356 t357) else (none)) else (none)) else (none)) else (none)) else (none)))) = some (r1, r2, r3) := H
        have A14 := Aside0.mk A140
        clear A140
        by_cases c15 : t355 = 0
        ·rw [if_pos c15] at H
         have c15b0 : (t355 == 0) = true := beq_iff_eq.mpr c15
         have c15b1 : (t355 != 0) = false := bne_eq_false_iff_eq.mpr c15
         clear c15
         by_cases c16 : 0 ≤ t346
         ·rw [if_pos c16] at H
          have c16b0 := eq_true c16
          have c16b1 : decide (0 ≤ t346) = true := decide_eq_true c16
          clear c16
          by_cases c17 : t346 ≤ (x1_1.size : Int)
          ·rw [if_pos c17] at H
           have c17b0 := eq_true c17
           have c17b1 : decide (t346 ≤ (x1_1.size : Int)) = true := decide_eq_true c17
           clear c17
           by_cases c18 : (x1_1.extract 0 (t346 : Int).toNat).size + (strOfNums y352).size ≤ 9223372036854775807
           ·rw [if_pos c18] at H
            have c18b0 := eq_true c18
            have c18b1 : decide ((x1_1.extract 0 (t346 : Int).toNat).size + (strOfNums y352).size ≤ 9223372036854775807) = true := decide_eq_true c18
            try have c18b2 : (9223372036854775807 < (x1_1.extract 0 (t346 : Int).toNat).size + (strOfNums y352).size) = False := eq_false (Nat.not_lt.2 c18)
            have c19b0 := eq_true (of_decide_eq_true (by first | (with_reducible assumption) | assumption) : 0 ≤ t346)
            have c20b0 := eq_true (of_decide_eq_true (by first | (with_reducible assumption) | assumption) : t346 ≤ (x1_1.size : Int))
            by_cases c21 : ((x1_1.extract 0 (t346 : Int).toNat) ++ (strOfNums y352)).size + (x1_1.extract (t346 : Int).toNat x1_1.size).size ≤ 9223372036854775807
            ·rw [if_pos c21] at H
             have c21b0 := eq_true c21
             have c21b1 : decide (((x1_1.extract 0 (t346 : Int).toNat) ++ (strOfNums y352)).size + (x1_1.extract (t346 : Int).toNat x1_1.size).size ≤ 9223372036854775807) = true := decide_eq_true c21
             try have c21b2 : (9223372036854775807 < ((x1_1.extract 0 (t346 : Int).toNat) ++ (strOfNums y352)).size + (x1_1.extract (t346 : Int).toNat x1_1.size).size) = False := eq_false (Nat.not_lt.2 c21)
             have c21b3 : (9223372036854775807 < (x1_1.extract 0 (t346 : Int).toNat).size + (strOfNums y352).size + (x1_1.extract (t346 : Int).toNat x1_1.size).size) = False := eq_false (Nat.not_lt.2 (by have h_ := c21; simp only [ByteArray.size_append] at h_; exact h_))
             have H' := Aside0.mk H
             clear H
             go_wp2_with (first | (go_at_call 52; (with_reducible refine (spec_l1Cur_pick.calls g s0_0 x1001_1 x1002_1 (x1_1.size : Int) t346 t347 t348 w0 _ ?side1 ?side2 A9.out).mono ?_); (case side1 => exact IsS68.q HI0); (case side2 => exact hbI_ HB (IsS68.ge HI0.out)); rintro e w22 ⟨rfl, hi, hb, hk⟩; have n0_ := Aside0.mk (KeepBut.trans (hk_ HK) hk (.inl rfl)); have n1_ := Aside0.mk (hb); have n2_ := Aside0.mk (hi); clear HK; clear HB; clear HI0; have HK := n0_; have HB := n1_; have HI0 := n2_; clear n0_ n1_ n2_; (try clear hb); (try clear hb2); (try clear hk); (try clear hi)) | (go_at_call 52; (with_reducible refine (spec_l1Cur_pick.calls g s0_0 t347 t348 (a2.size : Int) t349 t350 t351 w0 _ ?side1 ?side2 A10.out).mono ?_); (case side1 => exact IsS68.q HI0); (case side2 => exact hbI_ HB (IsS68.ge HI0.out)); rintro e w23 ⟨rfl, hi, hb, hk⟩; have n0_ := Aside0.mk (KeepBut.trans (hk_ HK) hk (.inl rfl)); have n1_ := Aside0.mk (hb); have n2_ := Aside0.mk (hi); clear HK; clear HB; clear HI0; have HK := n0_; have HB := n1_; have HI0 := n2_; clear n0_ n1_ n2_; (try clear hb); (try clear hb2); (try clear hk); (try clear hi); have p13 : 0 ≤ (t349 : Int) := of_decide_eq_true (by first | (with_reducible assumption) | assumption); have q13 : t349 < (a2.size : Int) := of_decide_eq_true (by first | (with_reducible assumption) | assumption); have hx13 := bt_at a2 t349; replace p13 := eq_true p13; replace q13 := eq_true q13) | ((with_reducible refine gate_dst (N := 32) rfl ?_); (try (refine gate_guard (by rfl) ?_; dsimp only)); refine Kd.R_lit (Kd.int .u8) _ 5 ?hg (N := 32) ?hd (xs := ([bt a2 t349] : List Int)) (inner := [.int .u8 (bt a2 t349)]) (ok := fun _ => True) (okp := fun _ => True) ?hr ?hp (fun _ hk => hk) trivial (Below.refl _ _) (Nat.le_refl _) (by simp) ?_; (case hd => rfl); (case hg => rfl); (case hr => first | (go_simp; done) | (go_simp; rfl)); (case hp => exact (Reps.one (show Kd.M (Kd.int .u8) _ _ _ (bt a2 t349) [.int .u8 (bt a2 t349)] from rfl) (Reps.none _ _))); intro v353 w24 ho25 hb hg_ hnew_; clear hg_ hnew_; (first | rw [← Ny352.out] at ho25 | (simp only [Int.reduceToNat] at ho25; rw [← Ny352.out] at ho25)); have HO354 := Aside0.mk (Kd.R_lower ho25 (keep_size (hk_ HK))); replace HK := hkb_ HK hb; replace HB := Aside0.mk (below_step (hbI_ HB (IsS68.ge HI0.out)) hb); replace HI0 := IsS68.b HI0 hb; clear hb ho25; have hcv26 := own_string (P := Tryd.prog) Tryd.underlying34 Tryd.underlying5 Tryd.underlying9 (Kd.own_of_R HO354.out); try clear HO354) | (go_at_call 52; (with_reducible refine (spec_l1Cur_pick.calls g s0_0 t350 t351 3 t355 t356 t357 w0 _ ?side1 ?side2 A14.out).mono ?_); (case side1 => exact IsS68.q HI0); (case side2 => exact hbI_ HB (IsS68.ge HI0.out)); rintro e w27 ⟨rfl, hi, hb, hk⟩; have n0_ := Aside0.mk (KeepBut.trans (hk_ HK) hk (.inl rfl)); have n1_ := Aside0.mk (hb); have n2_ := Aside0.mk (hi); clear HK; clear HB; clear HI0; have HK := n0_; have HB := n1_; have HI0 := n2_; clear n0_ n1_ n2_; (try clear hb); (try clear hb2); (try clear hk); (try clear hi)))
             repeat (go_quiet (first | (go_at_call 52; (with_reducible refine (spec_l1Cur_pick.calls g s0_0 x1001_1 x1002_1 (x1_1.size : Int) t346 t347 t348 w0 _ ?side1 ?side2 A9.out).mono ?_); (case side1 => exact IsS68.q HI0); (case side2 => exact hbI_ HB (IsS68.ge HI0.out)); rintro e w22 ⟨rfl, hi, hb, hk⟩; have n0_ := Aside0.mk (KeepBut.trans (hk_ HK) hk (.inl rfl)); have n1_ := Aside0.mk (hb); have n2_ := Aside0.mk (hi); clear HK; clear HB; clear HI0; have HK := n0_; have HB := n1_; have HI0 := n2_; clear n0_ n1_ n2_; (try clear hb); (try clear hb2); (try clear hk); (try clear hi)) | (go_at_call 52; (with_reducible refine (spec_l1Cur_pick.calls g s0_0 t347 t348 (a2.size : Int) t349 t350 t351 w0 _ ?side1 ?side2 A10.out).mono ?_); (case side1 => exact IsS68.q HI0); (case side2 => exact hbI_ HB (IsS68.ge HI0.out)); rintro e w23 ⟨rfl, hi, hb, hk⟩; have n0_ := Aside0.mk (KeepBut.trans (hk_ HK) hk (.inl rfl)); have n1_ := Aside0.mk (hb); have n2_ := Aside0.mk (hi); clear HK; clear HB; clear HI0; have HK := n0_; have HB := n1_; have HI0 := n2_; clear n0_ n1_ n2_; (try clear hb); (try clear hb2); (try clear hk); (try clear hi); have p13 : 0 ≤ (t349 : Int) := of_decide_eq_true (by first | (with_reducible assumption) | assumption); have q13 : t349 < (a2.size : Int) := of_decide_eq_true (by first | (with_reducible assumption) | assumption); have hx13 := bt_at a2 t349; replace p13 := eq_true p13; replace q13 := eq_true q13) | ((with_reducible refine gate_dst (N := 32) rfl ?_); (try (refine gate_guard (by rfl) ?_; dsimp only)); refine Kd.R_lit (Kd.int .u8) _ 5 ?hg (N := 32) ?hd (xs := ([bt a2 t349] : List Int)) (inner := [.int .u8 (bt a2 t349)]) (ok := fun _ => True) (okp := fun _ => True) ?hr ?hp (fun _ hk => hk) trivial (Below.refl _ _) (Nat.le_refl _) (by simp) ?_; (case hd => rfl); (case hg => rfl); (case hr => first | (go_simp; done) | (go_simp; rfl)); (case hp => exact (Reps.one (show Kd.M (Kd.int .u8) _ _ _ (bt a2 t349) [.int .u8 (bt a2 t349)] from rfl) (Reps.none _ _))); intro v353 w24 ho25 hb hg_ hnew_; clear hg_ hnew_; (first | rw [← Ny352.out] at ho25 | (simp only [Int.reduceToNat] at ho25; rw [← Ny352.out] at ho25)); have HO354 := Aside0.mk (Kd.R_lower ho25 (keep_size (hk_ HK))); replace HK := hkb_ HK hb; replace HB := Aside0.mk (below_step (hbI_ HB (IsS68.ge HI0.out)) hb); replace HI0 := IsS68.b HI0 hb; clear hb ho25; have hcv26 := own_string (P := Tryd.prog) Tryd.underlying34 Tryd.underlying5 Tryd.underlying9 (Kd.own_of_R HO354.out); try clear HO354) | (go_at_call 52; (with_reducible refine (spec_l1Cur_pick.calls g s0_0 t350 t351 3 t355 t356 t357 w0 _ ?side1 ?side2 A14.out).mono ?_); (case side1 => exact IsS68.q HI0); (case side2 => exact hbI_ HB (IsS68.ge HI0.out)); rintro e w27 ⟨rfl, hi, hb, hk⟩; have n0_ := Aside0.mk (KeepBut.trans (hk_ HK) hk (.inl rfl)); have n1_ := Aside0.mk (hb); have n2_ := Aside0.mk (hi); clear HK; clear HB; clear HI0; have HK := n0_; have HB := n1_; have HI0 := n2_; clear n0_ n1_ n2_; (try clear hb); (try clear hb2); (try clear hk); (try clear hi))); try go_wp2_with (first | (go_at_call 52; (with_reducible refine (spec_l1Cur_pick.calls g s0_0 x1001_1 x1002_1 (x1_1.size : Int) t346 t347 t348 w0 _ ?side1 ?side2 A9.out).mono ?_); (case side1 => exact IsS68.q HI0); (case side2 => exact hbI_ HB (IsS68.ge HI0.out)); rintro e w22 ⟨rfl, hi, hb, hk⟩; have n0_ := Aside0.mk (KeepBut.trans (hk_ HK) hk (.inl rfl)); have n1_ := Aside0.mk (hb); have n2_ := Aside0.mk (hi); clear HK; clear HB; clear HI0; have HK := n0_; have HB := n1_; have HI0 := n2_; clear n0_ n1_ n2_; (try clear hb); (try clear hb2); (try clear hk); (try clear hi)) | (go_at_call 52; (with_reducible refine (spec_l1Cur_pick.calls g s0_0 t347 t348 (a2.size : Int) t349 t350 t351 w0 _ ?side1 ?side2 A10.out).mono ?_); (case side1 => exact IsS68.q HI0); (case side2 => exact hbI_ HB (IsS68.ge HI0.out)); rintro e w23 ⟨rfl, hi, hb, hk⟩; have n0_ := Aside0.mk (KeepBut.trans (hk_ HK) hk (.inl rfl)); have n1_ := Aside0.mk (hb); have n2_ := Aside0.mk (hi); clear HK; clear HB; clear HI0; have HK := n0_; have HB := n1_; have HI0 := n2_; clear n0_ n1_ n2_; (try clear hb); (try clear hb2); (try clear hk); (try clear hi); have p13 : 0 ≤ (t349 : Int) := of_decide_eq_true (by first | (with_reducible assumption) | assumption); have q13 : t349 < (a2.size : Int) := of_decide_eq_true (by first | (with_reducible assumption) | assumption); have hx13 := bt_at a2 t349; replace p13 := eq_true p13; replace q13 := eq_true q13) | ((with_reducible refine gate_dst (N := 32) rfl ?_); (try (refine gate_guard (by rfl) ?_; dsimp only)); refine Kd.R_lit (Kd.int .u8) _ 5 ?hg (N := 32) ?hd (xs := ([bt a2 t349] : List Int)) (inner := [.int .u8 (bt a2 t349)]) (ok := fun _ => True) (okp := fun _ => True) ?hr ?hp (fun _ hk => hk) trivial (Below.refl _ _) (Nat.le_refl _) (by simp) ?_; (case hd => rfl); (case hg => rfl); (case hr => first | (go_simp; done) | (go_simp; rfl)); (case hp => exact (Reps.one (show Kd.M (Kd.int .u8) _ _ _ (bt a2 t349) [.int .u8 (bt a2 t349)] from rfl) (Reps.none _ _))); intro v353 w24 ho25 hb hg_ hnew_; clear hg_ hnew_; (first | rw [← Ny352.out] at ho25 | (simp only [Int.reduceToNat] at ho25; rw [← Ny352.out] at ho25)); have HO354 := Aside0.mk (Kd.R_lower ho25 (keep_size (hk_ HK))); replace HK := hkb_ HK hb; replace HB := Aside0.mk (below_step (hbI_ HB (IsS68.ge HI0.out)) hb); replace HI0 := IsS68.b HI0 hb; clear hb ho25; have hcv26 := own_string (P := Tryd.prog) Tryd.underlying34 Tryd.underlying5 Tryd.underlying9 (Kd.own_of_R HO354.out); try clear HO354) | (go_at_call 52; (with_reducible refine (spec_l1Cur_pick.calls g s0_0 t350 t351 3 t355 t356 t357 w0 _ ?side1 ?side2 A14.out).mono ?_); (case side1 => exact IsS68.q HI0); (case side2 => exact hbI_ HB (IsS68.ge HI0.out)); rintro e w27 ⟨rfl, hi, hb, hk⟩; have n0_ := Aside0.mk (KeepBut.trans (hk_ HK) hk (.inl rfl)); have n1_ := Aside0.mk (hb); have n2_ := Aside0.mk (hi); clear HK; clear HB; clear HI0; have HK := n0_; have HB := n1_; have HI0 := n2_; clear n0_ n1_ n2_; (try clear hb); (try clear hb2); (try clear hk); (try clear hi))))
             go_roundg kj5
             case measure => have := HK1.out; have := HJ5.out; omega
             case rel => exact ⟨(((x1_1.extract 0 (t346 : Int).toNat) ++ (strOfNums y352)) ++ (x1_1.extract (t346 : Int).toNat x1_1.size)), (wrap64 (x7_1 - 1)), (t356), (t357), (by first | rfl | (simp; done) | (simp [*]; done)), (by first | rfl | (simp; done) | (simp [*]; done)), H', ⟨by have := HK1.out; have := HJ5.out; omega⟩, ⟨IsS68.q HI0⟩, ⟨hk_ HK⟩, ⟨hbI_ HB (IsS68.ge HI0.out)⟩⟩
            ·rw [if_neg c21] at H
             exact absurd H (by simp)
           ·rw [if_neg c18] at H
            exact absurd H (by simp)
          ·rw [if_neg c17] at H
           exact absurd H (by simp)
         ·rw [if_neg c16] at H
          exact absurd H (by simp)
        ·rw [if_neg c15] at H
         have c15b0 : (t355 == 0) = false := beq_eq_false_iff_ne.mpr c15
         have c15b1 : (t355 != 0) = true := bne_iff_ne.mpr c15
         by_cases c28 : t355 = 1
         ·rw [if_pos c28] at H
          have c28b0 : (t355 == 1) = true := beq_iff_eq.mpr c28
          have c28b1 : (t355 != 1) = false := bne_eq_false_iff_eq.mpr c28
          clear c28
          by_cases c29 : 0 ≤ t346
          ·rw [if_pos c29] at H
           have c29b0 := eq_true c29
           have c29b1 : decide (0 ≤ t346) = true := decide_eq_true c29
           clear c29
           by_cases c30 : t346 ≤ (x1_1.size : Int)
           ·rw [if_pos c30] at H
            have c30b0 := eq_true c30
            have c30b1 : decide (t346 ≤ (x1_1.size : Int)) = true := decide_eq_true c30
            clear c30
            by_cases c31 : (x1_1.extract 0 (t346 : Int).toNat).size + (strOfNums y352).size ≤ 9223372036854775807
            ·rw [if_pos c31] at H
             have c31b0 := eq_true c31
             have c31b1 : decide ((x1_1.extract 0 (t346 : Int).toNat).size + (strOfNums y352).size ≤ 9223372036854775807) = true := decide_eq_true c31
             try have c31b2 : (9223372036854775807 < (x1_1.extract 0 (t346 : Int).toNat).size + (strOfNums y352).size) = False := eq_false (Nat.not_lt.2 c31)
             obtain ⟨ji32, hji32⟩ : ∃ j_ : Int, (wrap64 (t346 + 1)) = j_ := ⟨_, rfl⟩
             replace H : (if 0 ≤ (ji32) then (if (ji32) ≤ (x1_1.size : Int) then (if ((x1_1.extract 0 (t346 : Int).toNat) ++ (strOfNums y352)).size + (x1_1.extract ((ji32) : Int).toNat x1_1.size).size ≤ 9223372036854775807 then (spec_l1Cur_spoilt.l0 kj5 (((x1_1.extract 0 (t346 : Int).toNat) ++ (strOfNums y352)) ++ (x1_1.extract ((ji32) : Int).toNat x1_1.size)) a2 (wrap64 (x7_1 - 1)) s0_0 t356 t357) else (none)) else (none)) else (none)) = some (r1, r2, r3) := by first | (rw [hji32] at H; exact H) | (simp only [hji32] at H ⊢; exact H)
             (try rw [hji32] at A9)
             (try rw [hji32] at A10)
             (try rw [hji32] at A14)
             have hji32w : (IntKind.i64.wrap (t346 + 1)) = ji32 := (i64_w _).trans hji32
             by_cases c33 : 0 ≤ (ji32)
             ·rw [if_pos c33] at H
              have c33b0 := eq_true c33
              have c33b1 : decide (0 ≤ (ji32)) = true := decide_eq_true c33
              clear c33
              by_cases c34 : (ji32) ≤ (x1_1.size : Int)
              ·rw [if_pos c34] at H
               have c34b0 := eq_true c34
               have c34b1 : decide ((ji32) ≤ (x1_1.size : Int)) = true := decide_eq_true c34
               clear c34
               by_cases c35 : ((x1_1.extract 0 (t346 : Int).toNat) ++ (strOfNums y352)).size + (x1_1.extract ((ji32) : Int).toNat x1_1.size).size ≤ 9223372036854775807
               ·rw [if_pos c35] at H
                have c35b0 := eq_true c35
                have c35b1 : decide (((x1_1.extract 0 (t346 : Int).toNat) ++ (strOfNums y352)).size + (x1_1.extract ((ji32) : Int).toNat x1_1.size).size ≤ 9223372036854775807) = true := decide_eq_true c35
                try have c35b2 : (9223372036854775807 < ((x1_1.extract 0 (t346 : Int).toNat) ++ (strOfNums y352)).size + (x1_1.extract ((ji32) : Int).toNat x1_1.size).size) = False := eq_false (Nat.not_lt.2 c35)
                have c35b3 : (9223372036854775807 < (x1_1.extract 0 (t346 : Int).toNat).size + (strOfNums y352).size + (x1_1.extract ((ji32) : Int).toNat x1_1.size).size) = False := eq_false (Nat.not_lt.2 (by have h_ := c35; simp only [ByteArray.size_append] at h_; exact h_))
                have H' := Aside0.mk H
                clear H
                go_wp2_with (first | (go_at_call 52; (with_reducible refine (spec_l1Cur_pick.calls g s0_0 x1001_1 x1002_1 (x1_1.size : Int) t346 t347 t348 w0 _ ?side1 ?side2 A9.out).mono ?_); (case side1 => exact IsS68.q HI0); (case side2 => exact hbI_ HB (IsS68.ge HI0.out)); rintro e w36 ⟨rfl, hi, hb, hk⟩; have n0_ := Aside0.mk (KeepBut.trans (hk_ HK) hk (.inl rfl)); have n1_ := Aside0.mk (hb); have n2_ := Aside0.mk (hi); clear HK; clear HB; clear HI0; have HK := n0_; have HB := n1_; have HI0 := n2_; clear n0_ n1_ n2_; (try clear hb); (try clear hb2); (try clear hk); (try clear hi)) | (go_at_call 52; (with_reducible refine (spec_l1Cur_pick.calls g s0_0 t347 t348 (a2.size : Int) t349 t350 t351 w0 _ ?side1 ?side2 A10.out).mono ?_); (case side1 => exact IsS68.q HI0); (case side2 => exact hbI_ HB (IsS68.ge HI0.out)); rintro e w37 ⟨rfl, hi, hb, hk⟩; have n0_ := Aside0.mk (KeepBut.trans (hk_ HK) hk (.inl rfl)); have n1_ := Aside0.mk (hb); have n2_ := Aside0.mk (hi); clear HK; clear HB; clear HI0; have HK := n0_; have HB := n1_; have HI0 := n2_; clear n0_ n1_ n2_; (try clear hb); (try clear hb2); (try clear hk); (try clear hi); have p13 : 0 ≤ (t349 : Int) := of_decide_eq_true (by first | (with_reducible assumption) | assumption); have q13 : t349 < (a2.size : Int) := of_decide_eq_true (by first | (with_reducible assumption) | assumption); have hx13 := bt_at a2 t349; replace p13 := eq_true p13; replace q13 := eq_true q13) | ((with_reducible refine gate_dst (N := 32) rfl ?_); (try (refine gate_guard (by rfl) ?_; dsimp only)); refine Kd.R_lit (Kd.int .u8) _ 5 ?hg (N := 32) ?hd (xs := ([bt a2 t349] : List Int)) (inner := [.int .u8 (bt a2 t349)]) (ok := fun _ => True) (okp := fun _ => True) ?hr ?hp (fun _ hk => hk) trivial (Below.refl _ _) (Nat.le_refl _) (by simp) ?_; (case hd => rfl); (case hg => rfl); (case hr => first | (go_simp; done) | (go_simp; rfl)); (case hp => exact (Reps.one (show Kd.M (Kd.int .u8) _ _ _ (bt a2 t349) [.int .u8 (bt a2 t349)] from rfl) (Reps.none _ _))); intro v353 w38 ho39 hb hg_ hnew_; clear hg_ hnew_; (first | rw [← Ny352.out] at ho39 | (simp only [Int.reduceToNat] at ho39; rw [← Ny352.out] at ho39)); have HO354 := Aside0.mk (Kd.R_lower ho39 (keep_size (hk_ HK))); replace HK := hkb_ HK hb; replace HB := Aside0.mk (below_step (hbI_ HB (IsS68.ge HI0.out)) hb); replace HI0 := IsS68.b HI0 hb; clear hb ho39; have hcv40 := own_string (P := Tryd.prog) Tryd.underlying34 Tryd.underlying5 Tryd.underlying9 (Kd.own_of_R HO354.out); try clear HO354) | (go_at_call 52; (with_reducible refine (spec_l1Cur_pick.calls g s0_0 t350 t351 3 t355 t356 t357 w0 _ ?side1 ?side2 A14.out).mono ?_); (case side1 => exact IsS68.q HI0); (case side2 => exact hbI_ HB (IsS68.ge HI0.out)); rintro e w41 ⟨rfl, hi, hb, hk⟩; have n0_ := Aside0.mk (KeepBut.trans (hk_ HK) hk (.inl rfl)); have n1_ := Aside0.mk (hb); have n2_ := Aside0.mk (hi); clear HK; clear HB; clear HI0; have HK := n0_; have HB := n1_; have HI0 := n2_; clear n0_ n1_ n2_; (try clear hb); (try clear hb2); (try clear hk); (try clear hi)))
                repeat (go_quiet (first | (go_at_call 52; (with_reducible refine (spec_l1Cur_pick.calls g s0_0 x1001_1 x1002_1 (x1_1.size : Int) t346 t347 t348 w0 _ ?side1 ?side2 A9.out).mono ?_); (case side1 => exact IsS68.q HI0); (case side2 => exact hbI_ HB (IsS68.ge HI0.out)); rintro e w36 ⟨rfl, hi, hb, hk⟩; have n0_ := Aside0.mk (KeepBut.trans (hk_ HK) hk (.inl rfl)); have n1_ := Aside0.mk (hb); have n2_ := Aside0.mk (hi); clear HK; clear HB; clear HI0; have HK := n0_; have HB := n1_; have HI0 := n2_; clear n0_ n1_ n2_; (try clear hb); (try clear hb2); (try clear hk); (try clear hi)) | (go_at_call 52; (with_reducible refine (spec_l1Cur_pick.calls g s0_0 t347 t348 (a2.size : Int) t349 t350 t351 w0 _ ?side1 ?side2 A10.out).mono ?_); (case side1 => exact IsS68.q HI0); (case side2 => exact hbI_ HB (IsS68.ge HI0.out)); rintro e w37 ⟨rfl, hi, hb, hk⟩; have n0_ := Aside0.mk (KeepBut.trans (hk_ HK) hk (.inl rfl)); have n1_ := Aside0.mk (hb); have n2_ := Aside0.mk (hi); clear HK; clear HB; clear HI0; have HK := n0_; have HB := n1_; have HI0 := n2_; clear n0_ n1_ n2_; (try clear hb); (try clear hb2); (try clear hk); (try clear hi); have p13 : 0 ≤ (t349 : Int) := of_decide_eq_true (by first | (with_reducible assumption) | assumption); have q13 : t349 < (a2.size : Int) := of_decide_eq_true (by first | (with_reducible assumption) | assumption); have hx13 := bt_at a2 t349; replace p13 := eq_true p13; replace q13 := eq_true q13) | ((with_reducible refine gate_dst (N := 32) rfl ?_); (try (refine gate_guard (by rfl) ?_; dsimp only)); refine Kd.R_lit (Kd.int .u8) _ 5 ?hg (N := 32) ?hd (xs := ([bt a2 t349] : List Int)) (inner := [.int .u8 (bt a2 t349)]) (ok := fun _ => True) (okp := fun _ => True) ?hr ?hp (fun _ hk => hk) trivial (Below.refl _ _) (Nat.le_refl _) (by simp) ?_; (case hd => rfl); (case hg => rfl); (case hr => first | (go_simp; done) | (go_simp; rfl)); (case hp => exact (Reps.one (show Kd.M (Kd.int .u8) _ _ _ (bt a2 t349) [.int .u8 (bt a2 t349)] from rfl) (Reps.none _ _))); intro v353 w38 ho39 hb hg_ hnew_; clear hg_ hnew_; (first | rw [← Ny352.out] at ho39 | (simp only [Int.reduceToNat] at ho39; rw [← Ny352.out] at ho39)); have HO354 := Aside0.mk (Kd.R_lower ho39 (keep_size (hk_ HK))); replace HK := hkb_ HK hb; replace HB := Aside0.mk (below_step (hbI_ HB (IsS68.ge HI0.out)) hb); replace HI0 := IsS68.b HI0 hb; clear hb ho39; have hcv40 := own_string (P := Tryd.prog) Tryd.underlying34 Tryd.underlying5 Tryd.underlying9 (Kd.own_of_R HO354.out); try clear HO354) | (go_at_call 52; (with_reducible refine (spec_l1Cur_pick.calls g s0_0 t350 t351 3 t355 t356 t357 w0 _ ?side1 ?side2 A14.out).mono ?_); (case side1 => exact IsS68.q HI0); (case side2 => exact hbI_ HB (IsS68.ge HI0.out)); rintro e w41 ⟨rfl, hi, hb, hk⟩; have n0_ := Aside0.mk (KeepBut.trans (hk_ HK) hk (.inl rfl)); have n1_ := Aside0.mk (hb); have n2_ := Aside0.mk (hi); clear HK; clear HB; clear HI0; have HK := n0_; have HB := n1_; have HI0 := n2_; clear n0_ n1_ n2_; (try clear hb); (try clear hb2); (try clear hk); (try clear hi))); try go_wp2_with (first | (go_at_call 52; (with_reducible refine (spec_l1Cur_pick.calls g s0_0 x1001_1 x1002_1 (x1_1.size : Int) t346 t347 t348 w0 _ ?side1 ?side2 A9.out).mono ?_); (case side1 => exact IsS68.q HI0); (case side2 => exact hbI_ HB (IsS68.ge HI0.out)); rintro e w36 ⟨rfl, hi, hb, hk⟩; have n0_ := Aside0.mk (KeepBut.trans (hk_ HK) hk (.inl rfl)); have n1_ := Aside0.mk (hb); have n2_ := Aside0.mk (hi); clear HK; clear HB; clear HI0; have HK := n0_; have HB := n1_; have HI0 := n2_; clear n0_ n1_ n2_; (try clear hb); (try clear hb2); (try clear hk); (try clear hi)) | (go_at_call 52; (with_reducible refine (spec_l1Cur_pick.calls g s0_0 t347 t348 (a2.size : Int) t349 t350 t351 w0 _ ?side1 ?side2 A10.out).mono ?_); (case side1 => exact IsS68.q HI0); (case side2 => exact hbI_ HB (IsS68.ge HI0.out)); rintro e w37 ⟨rfl, hi, hb, hk⟩; have n0_ := Aside0.mk (KeepBut.trans (hk_ HK) hk (.inl rfl)); have n1_ := Aside0.mk (hb); have n2_ := Aside0.mk (hi); clear HK; clear HB; clear HI0; have HK := n0_; have HB := n1_; have HI0 := n2_; clear n0_ n1_ n2_; (try clear hb); (try clear hb2); (try clear hk); (try clear hi); have p13 : 0 ≤ (t349 : Int) := of_decide_eq_true (by first | (with_reducible assumption) | assumption); have q13 : t349 < (a2.size : Int) := of_decide_eq_true (by first | (with_reducible assumption) | assumption); have hx13 := bt_at a2 t349; replace p13 := eq_true p13; replace q13 := eq_true q13) | ((with_reducible refine gate_dst (N := 32) rfl ?_); (try (refine gate_guard (by rfl) ?_; dsimp only)); refine Kd.R_lit (Kd.int .u8) _ 5 ?hg (N := 32) ?hd (xs := ([bt a2 t349] : List Int)) (inner := [.int .u8 (bt a2 t349)]) (ok := fun _ => True) (okp := fun _ => True) ?hr ?hp (fun _ hk => hk) trivial (Below.refl _ _) (Nat.le_refl _) (by simp) ?_; (case hd => rfl); (case hg => rfl); (case hr => first | (go_simp; done) | (go_simp; rfl)); (case hp => exact (Reps.one (show Kd.M (Kd.int .u8) _ _ _ (bt a2 t349) [.int .u8 (bt a2 t349)] from rfl) (Reps.none _ _))); intro v353 w38 ho39 hb hg_ hnew_; clear hg_ hnew_; (first | rw [← Ny352.out] at ho39 | (simp only [Int.reduceToNat] at ho39; rw [← Ny352.out] at ho39)); have HO354 := Aside0.mk (Kd.R_lower ho39 (keep_size (hk_ HK))); replace HK := hkb_ HK hb; replace HB := Aside0.mk (below_step (hbI_ HB (IsS68.ge HI0.out)) hb); replace HI0 := IsS68.b HI0 hb; clear hb ho39; have hcv40 := own_string (P := Tryd.prog) Tryd.underlying34 Tryd.underlying5 Tryd.underlying9 (Kd.own_of_R HO354.out); try clear HO354) | (go_at_call 52; (with_reducible refine (spec_l1Cur_pick.calls g s0_0 t350 t351 3 t355 t356 t357 w0 _ ?side1 ?side2 A14.out).mono ?_); (case side1 => exact IsS68.q HI0); (case side2 => exact hbI_ HB (IsS68.ge HI0.out)); rintro e w41 ⟨rfl, hi, hb, hk⟩; have n0_ := Aside0.mk (KeepBut.trans (hk_ HK) hk (.inl rfl)); have n1_ := Aside0.mk (hb); have n2_ := Aside0.mk (hi); clear HK; clear HB; clear HI0; have HK := n0_; have HB := n1_; have HI0 := n2_; clear n0_ n1_ n2_; (try clear hb); (try clear hb2); (try clear hk); (try clear hi))))
                go_roundg kj5
                case measure => have := HK1.out; have := HJ5.out; omega
                case rel => exact ⟨(((x1_1.extract 0 (t346 : Int).toNat) ++ (strOfNums y352)) ++ (x1_1.extract ((ji32) : Int).toNat x1_1.size)), (wrap64 (x7_1 - 1)), (t356), (t357), (by first | rfl | (simp; done) | (simp only [← hji32] <;> (first | rfl | simp)) | (simp [*]; done)), (by first | rfl | (simp; done) | (simp [*]; done)), H', ⟨by have := HK1.out; have := HJ5.out; omega⟩, ⟨IsS68.q HI0⟩, ⟨hk_ HK⟩, ⟨hbI_ HB (IsS68.ge HI0.out)⟩⟩
               ·rw [if_neg c35] at H
                exact absurd H (by simp)
              ·rw [if_neg c34] at H
               exact absurd H (by simp)
             ·rw [if_neg c33] at H
              exact absurd H (by simp)
            ·rw [if_neg c31] at H
             exact absurd H (by simp)
           ·rw [if_neg c30] at H
            exact absurd H (by simp)
          ·rw [if_neg c29] at H
           exact absurd H (by simp)
         ·rw [if_neg c28] at H
          have c28b0 : (t355 == 1) = false := beq_eq_false_iff_ne.mpr c28
          have c28b1 : (t355 != 1) = true := bne_iff_ne.mpr c28
          by_cases c42 : 0 ≤ t346
          ·rw [if_pos c42] at H
           have c42b0 := eq_true c42
           have c42b1 : decide (0 ≤ t346) = true := decide_eq_true c42
           clear c42
           by_cases c43 : t346 ≤ (x1_1.size : Int)
           ·rw [if_pos c43] at H
            have c43b0 := eq_true c43
            have c43b1 : decide (t346 ≤ (x1_1.size : Int)) = true := decide_eq_true c43
            clear c43
            obtain ⟨ji44, hji44⟩ : ∃ j_ : Int, (wrap64 (t346 + 1)) = j_ := ⟨_, rfl⟩
            replace H : (if 0 ≤ (ji44) then (if (ji44) ≤ (x1_1.size : Int) then (if (x1_1.extract 0 (t346 : Int).toNat).size + (x1_1.extract ((ji44) : Int).toNat x1_1.size).size ≤ 9223372036854775807 then (spec_l1Cur_spoilt.l0 kj5 ((x1_1.extract 0 (t346 : Int).toNat) ++ (x1_1.extract ((ji44) : Int).toNat x1_1.size)) a2 (wrap64 (x7_1 - 1)) s0_0 t356 t357) else (none)) else (none)) else (none)) = some (r1, r2, r3) := by first | (rw [hji44] at H; exact H) | (simp only [hji44] at H ⊢; exact H)
            (try rw [hji44] at A9)
            (try rw [hji44] at A10)
            (try rw [hji44] at A14)
            have hji44w : (IntKind.i64.wrap (t346 + 1)) = ji44 := (i64_w _).trans hji44
            by_cases c45 : 0 ≤ (ji44)
            ·rw [if_pos c45] at H
             have c45b0 := eq_true c45
             have c45b1 : decide (0 ≤ (ji44)) = true := decide_eq_true c45
             clear c45
             by_cases c46 : (ji44) ≤ (x1_1.size : Int)
             ·rw [if_pos c46] at H
              have c46b0 := eq_true c46
              have c46b1 : decide ((ji44) ≤ (x1_1.size : Int)) = true := decide_eq_true c46
              clear c46
              by_cases c47 : (x1_1.extract 0 (t346 : Int).toNat).size + (x1_1.extract ((ji44) : Int).toNat x1_1.size).size ≤ 9223372036854775807
              ·rw [if_pos c47] at H
               have c47b0 := eq_true c47
               have c47b1 : decide ((x1_1.extract 0 (t346 : Int).toNat).size + (x1_1.extract ((ji44) : Int).toNat x1_1.size).size ≤ 9223372036854775807) = true := decide_eq_true c47
               try have c47b2 : (9223372036854775807 < (x1_1.extract 0 (t346 : Int).toNat).size + (x1_1.extract ((ji44) : Int).toNat x1_1.size).size) = False := eq_false (Nat.not_lt.2 c47)
               have H' := Aside0.mk H
               clear H
               go_wp2_with (first | (go_at_call 52; (with_reducible refine (spec_l1Cur_pick.calls g s0_0 x1001_1 x1002_1 (x1_1.size : Int) t346 t347 t348 w0 _ ?side1 ?side2 A9.out).mono ?_); (case side1 => exact IsS68.q HI0); (case side2 => exact hbI_ HB (IsS68.ge HI0.out)); rintro e w48 ⟨rfl, hi, hb, hk⟩; have n0_ := Aside0.mk (KeepBut.trans (hk_ HK) hk (.inl rfl)); have n1_ := Aside0.mk (hb); have n2_ := Aside0.mk (hi); clear HK; clear HB; clear HI0; have HK := n0_; have HB := n1_; have HI0 := n2_; clear n0_ n1_ n2_; (try clear hb); (try clear hb2); (try clear hk); (try clear hi)) | (go_at_call 52; (with_reducible refine (spec_l1Cur_pick.calls g s0_0 t347 t348 (a2.size : Int) t349 t350 t351 w0 _ ?side1 ?side2 A10.out).mono ?_); (case side1 => exact IsS68.q HI0); (case side2 => exact hbI_ HB (IsS68.ge HI0.out)); rintro e w49 ⟨rfl, hi, hb, hk⟩; have n0_ := Aside0.mk (KeepBut.trans (hk_ HK) hk (.inl rfl)); have n1_ := Aside0.mk (hb); have n2_ := Aside0.mk (hi); clear HK; clear HB; clear HI0; have HK := n0_; have HB := n1_; have HI0 := n2_; clear n0_ n1_ n2_; (try clear hb); (try clear hb2); (try clear hk); (try clear hi); have p13 : 0 ≤ (t349 : Int) := of_decide_eq_true (by first | (with_reducible assumption) | assumption); have q13 : t349 < (a2.size : Int) := of_decide_eq_true (by first | (with_reducible assumption) | assumption); have hx13 := bt_at a2 t349; replace p13 := eq_true p13; replace q13 := eq_true q13) | ((with_reducible refine gate_dst (N := 32) rfl ?_); (try (refine gate_guard (by rfl) ?_; dsimp only)); refine Kd.R_lit (Kd.int .u8) _ 5 ?hg (N := 32) ?hd (xs := ([bt a2 t349] : List Int)) (inner := [.int .u8 (bt a2 t349)]) (ok := fun _ => True) (okp := fun _ => True) ?hr ?hp (fun _ hk => hk) trivial (Below.refl _ _) (Nat.le_refl _) (by simp) ?_; (case hd => rfl); (case hg => rfl); (case hr => first | (go_simp; done) | (go_simp; rfl)); (case hp => exact (Reps.one (show Kd.M (Kd.int .u8) _ _ _ (bt a2 t349) [.int .u8 (bt a2 t349)] from rfl) (Reps.none _ _))); intro v353 w50 ho51 hb hg_ hnew_; clear hg_ hnew_; (first | rw [← Ny352.out] at ho51 | (simp only [Int.reduceToNat] at ho51; rw [← Ny352.out] at ho51)); have HO354 := Aside0.mk (Kd.R_lower ho51 (keep_size (hk_ HK))); replace HK := hkb_ HK hb; replace HB := Aside0.mk (below_step (hbI_ HB (IsS68.ge HI0.out)) hb); replace HI0 := IsS68.b HI0 hb; clear hb ho51; have hcv52 := own_string (P := Tryd.prog) Tryd.underlying34 Tryd.underlying5 Tryd.underlying9 (Kd.own_of_R HO354.out); try clear HO354) | (go_at_call 52; (with_reducible refine (spec_l1Cur_pick.calls g s0_0 t350 t351 3 t355 t356 t357 w0 _ ?side1 ?side2 A14.out).mono ?_); (case side1 => exact IsS68.q HI0); (case side2 => exact hbI_ HB (IsS68.ge HI0.out)); rintro e w53 ⟨rfl, hi, hb, hk⟩; have n0_ := Aside0.mk (KeepBut.trans (hk_ HK) hk (.inl rfl)); have n1_ := Aside0.mk (hb); have n2_ := Aside0.mk (hi); clear HK; clear HB; clear HI0; have HK := n0_; have HB := n1_; have HI0 := n2_; clear n0_ n1_ n2_; (try clear hb); (try clear hb2); (try clear hk); (try clear hi)))
               repeat (go_quiet (first | (go_at_call 52; (with_reducible refine (spec_l1Cur_pick.calls g s0_0 x1001_1 x1002_1 (x1_1.size : Int) t346 t347 t348 w0 _ ?side1 ?side2 A9.out).mono ?_); (case side1 => exact IsS68.q HI0); (case side2 => exact hbI_ HB (IsS68.ge HI0.out)); rintro e w48 ⟨rfl, hi, hb, hk⟩; have n0_ := Aside0.mk (KeepBut.trans (hk_ HK) hk (.inl rfl)); have n1_ := Aside0.mk (hb); have n2_ := Aside0.mk (hi); clear HK; clear HB; clear HI0; have HK := n0_; have HB := n1_; have HI0 := n2_; clear n0_ n1_ n2_; (try clear hb); (try clear hb2); (try clear hk); (try clear hi)) | (go_at_call 52; (with_reducible refine (spec_l1Cur_pick.calls g s0_0 t347 t348 (a2.size : Int) t349 t350 t351 w0 _ ?side1 ?side2 A10.out).mono ?_); (case side1 => exact IsS68.q HI0); (case side2 => exact hbI_ HB (IsS68.ge HI0.out)); rintro e w49 ⟨rfl, hi, hb, hk⟩; have n0_ := Aside0.mk (KeepBut.trans (hk_ HK) hk (.inl rfl)); have n1_ := Aside0.mk (hb); have n2_ := Aside0.mk (hi); clear HK; clear HB; clear HI0; have HK := n0_; have HB := n1_; have HI0 := n2_; clear n0_ n1_ n2_; (try clear hb); (try clear hb2); (try clear hk); (try clear hi); have p13 : 0 ≤ (t349 : Int) := of_decide_eq_true (by first | (with_reducible assumption) | assumption); have q13 : t349 < (a2.size : Int) := of_decide_eq_true (by first | (with_reducible assumption) | assumption); have hx13 := bt_at a2 t349; replace p13 := eq_true p13; replace q13 := eq_true q13) | ((with_reducible refine gate_dst (N := 32) rfl ?_); (try (refine gate_guard (by rfl) ?_; dsimp only)); refine Kd.R_lit (Kd.int .u8) _ 5 ?hg (N := 32) ?hd (xs := ([bt a2 t349] : List Int)) (inner := [.int .u8 (bt a2 t349)]) (ok := fun _ => True) (okp := fun _ => True) ?hr ?hp (fun _ hk => hk) trivial (Below.refl _ _) (Nat.le_refl _) (by simp) ?_; (case hd => rfl); (case hg => rfl); (case hr => first | (go_simp; done) | (go_simp; rfl)); (case hp => exact (Reps.one (show Kd.M (Kd.int .u8) _ _ _ (bt a2 t349) [.int .u8 (bt a2 t349)] from rfl) (Reps.none _ _))); intro v353 w50 ho51 hb hg_ hnew_; clear hg_ hnew_; (first | rw [← Ny352.out] at ho51 | (simp only [Int.reduceToNat] at ho51; rw [← Ny352.out] at ho51)); have HO354 := Aside0.mk (Kd.R_lower ho51 (keep_size (hk_ HK))); replace HK := hkb_ HK hb; replace HB := Aside0.mk (below_step (hbI_ HB (IsS68.ge HI0.out)) hb); replace HI0 := IsS68.b HI0 hb; clear hb ho51; have hcv52 := own_string (P := Tryd.prog) Tryd.underlying34 Tryd.underlying5 Tryd.underlying9 (Kd.own_of_R HO354.out); try clear HO354) | (go_at_call 52; (with_reducible refine (spec_l1Cur_pick.calls g s0_0 t350 t351 3 t355 t356 t357 w0 _ ?side1 ?side2 A14.out).mono ?_); (case side1 => exact IsS68.q HI0); (case side2 => exact hbI_ HB (IsS68.ge HI0.out)); rintro e w53 ⟨rfl, hi, hb, hk⟩; have n0_ := Aside0.mk (KeepBut.trans (hk_ HK) hk (.inl rfl)); have n1_ := Aside0.mk (hb); have n2_ := Aside0.mk (hi); clear HK; clear HB; clear HI0; have HK := n0_; have HB := n1_; have HI0 := n2_; clear n0_ n1_ n2_; (try clear hb); (try clear hb2); (try clear hk); (try clear hi))); try go_wp2_with (first | (go_at_call 52; (with_reducible refine (spec_l1Cur_pick.calls g s0_0 x1001_1 x1002_1 (x1_1.size : Int) t346 t347 t348 w0 _ ?side1 ?side2 A9.out).mono ?_); (case side1 => exact IsS68.q HI0); (case side2 => exact hbI_ HB (IsS68.ge HI0.out)); rintro e w48 ⟨rfl, hi, hb, hk⟩; have n0_ := Aside0.mk (KeepBut.trans (hk_ HK) hk (.inl rfl)); have n1_ := Aside0.mk (hb); have n2_ := Aside0.mk (hi); clear HK; clear HB; clear HI0; have HK := n0_; have HB := n1_; have HI0 := n2_; clear n0_ n1_ n2_; (try clear hb); (try clear hb2); (try clear hk); (try clear hi)) | (go_at_call 52; (with_reducible refine (spec_l1Cur_pick.calls g s0_0 t347 t348 (a2.size : Int) t349 t350 t351 w0 _ ?side1 ?side2 A10.out).mono ?_); (case side1 => exact IsS68.q HI0); (case side2 => exact hbI_ HB (IsS68.ge HI0.out)); rintro e w49 ⟨rfl, hi, hb, hk⟩; have n0_ := Aside0.mk (KeepBut.trans (hk_ HK) hk (.inl rfl)); have n1_ := Aside0.mk (hb); have n2_ := Aside0.mk (hi); clear HK; clear HB; clear HI0; have HK := n0_; have HB := n1_; have HI0 := n2_; clear n0_ n1_ n2_; (try clear hb); (try clear hb2); (try clear hk); (try clear hi); have p13 : 0 ≤ (t349 : Int) := of_decide_eq_true (by first | (with_reducible assumption) | assumption); have q13 : t349 < (a2.size : Int) := of_decide_eq_true (by first | (with_reducible assumption) | assumption); have hx13 := bt_at a2 t349; replace p13 := eq_true p13; replace q13 := eq_true q13) | ((with_reducible refine gate_dst (N := 32) rfl ?_); (try (refine gate_guard (by rfl) ?_; dsimp only)); refine Kd.R_lit (Kd.int .u8) _ 5 ?hg (N := 32) ?hd (xs := ([bt a2 t349] : List Int)) (inner := [.int .u8 (bt a2 t349)]) (ok := fun _ => True) (okp := fun _ => True) ?hr ?hp (fun _ hk => hk) trivial (Below.refl _ _) (Nat.le_refl _) (by simp) ?_; (case hd => rfl); (case hg => rfl); (case hr => first | (go_simp; done) | (go_simp; rfl)); (case hp => exact (Reps.one (show Kd.M (Kd.int .u8) _ _ _ (bt a2 t349) [.int .u8 (bt a2 t349)] from rfl) (Reps.none _ _))); intro v353 w50 ho51 hb hg_ hnew_; clear hg_ hnew_; (first | rw [← Ny352.out] at ho51 | (simp only [Int.reduceToNat] at ho51; rw [← Ny352.out] at ho51)); have HO354 := Aside0.mk (Kd.R_lower ho51 (keep_size (hk_ HK))); replace HK := hkb_ HK hb; replace HB := Aside0.mk (below_step (hbI_ HB (IsS68.ge HI0.out)) hb); replace HI0 := IsS68.b HI0 hb; clear hb ho51; have hcv52 := own_string (P := Tryd.prog) Tryd.underlying34 Tryd.underlying5 Tryd.underlying9 (Kd.own_of_R HO354.out); try clear HO354) | (go_at_call 52; (with_reducible refine (spec_l1Cur_pick.calls g s0_0 t350 t351 3 t355 t356 t357 w0 _ ?side1 ?side2 A14.out).mono ?_); (case side1 => exact IsS68.q HI0); (case side2 => exact hbI_ HB (IsS68.ge HI0.out)); rintro e w53 ⟨rfl, hi, hb, hk⟩; have n0_ := Aside0.mk (KeepBut.trans (hk_ HK) hk (.inl rfl)); have n1_ := Aside0.mk (hb); have n2_ := Aside0.mk (hi); clear HK; clear HB; clear HI0; have HK := n0_; have HB := n1_; have HI0 := n2_; clear n0_ n1_ n2_; (try clear hb); (try clear hb2); (try clear hk); (try clear hi))))
               go_roundg kj5
               case measure => have := HK1.out; have := HJ5.out; omega
               case rel => exact ⟨((x1_1.extract 0 (t346 : Int).toNat) ++ (x1_1.extract ((ji44) : Int).toNat x1_1.size)), (wrap64 (x7_1 - 1)), (t356), (t357), (by first | rfl | (simp; done) | (simp only [← hji44] <;> (first | rfl | simp)) | (simp [*]; done)), (by first | rfl | (simp; done) | (simp [*]; done)), H', ⟨by have := HK1.out; have := HJ5.out; omega⟩, ⟨IsS68.q HI0⟩, ⟨hk_ HK⟩, ⟨hbI_ HB (IsS68.ge HI0.out)⟩⟩
              ·rw [if_neg c47] at H
               exact absurd H (by simp)
             ·rw [if_neg c46] at H
              exact absurd H (by simp)
            ·rw [if_neg c45] at H
             exact absurd H (by simp)
           ·rw [if_neg c43] at H
            exact absurd H (by simp)
          ·rw [if_neg c42] at H
           exact absurd H (by simp)
       ·rw [if_neg c12] at H
        exact absurd H (by simp)
      ·rw [if_neg c11] at H
       exact absurd H (by simp)
     ·replace c8 := Bool.eq_false_iff.mpr c8
      subst c8
      have H1 : (some (x1_1, x1001_1, x1002_1)) = some (r1, r2, r3) := by rw [if_neg (show ¬ (false = true) by decide)] at H; exact H
      clear H
      have H := H1
      clear H1
      simp only [Option.some.injEq, Prod.mk.injEq] at H
      obtain ⟨rfl, rfl, rfl⟩ := H
      go_wp2
      repeat (go_quiet (fail); try go_wp2)
      go_ret
      exact ⟨by first | rfl | (simp [errW_none, errW_some] <;> rfl) | (simp [*, errW_none, errW_some] <;> rfl), IsS68.q HI0, hbI_ HB (IsS68.ge HI0.out), hk_ HK⟩

end Go.Proofs.YtgeoecfphklcmaaDoor.PFnGrids
