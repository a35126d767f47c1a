-- Laid for this claim by wip/tools/print2.sh, a changed copy of the kit's print (wip/tools/patch_print.py): not by print.sh.
import Derived.Test.YtmhalgeoaccchaaPFnFoldedx0
import Derived.Test.YtmhalgeoaccchaaPFnFoldedx11
namespace Go.Proofs.Ytmhalgeoaccchaa.PFnFolded
open Go.RowKit Go.Proofs.YtmhalgeoaccchaaW.PrintWords Go.Proofs.YtmhalgeoaccchaaW.PrintLast Go.Proofs.YtmhalgeoaccchaaW.PrintMore
attribute [local go_sem] max2_int min2_int max_two min_two max_three min_three max_four min_four   -- for this text's walks alone
set_option linter.unusedVariables false
set_option linter.unusedSimpArgs false

/-! ### spec_ruValue: function 33 -/
mutual
def spec_ruValue.j0 : Nat → List (S52) → List (List Int) → List Int → List Int → Int → Int → Bool → Int → Int → Option (Int × Bool)
 | 0, _, _, _, _, _, _, _, _, _ => none
 | k + 1, x0, x1, x3, x11, x12, x14, x64, x434000, x434001 => if x64 = true then (some (0, false)) else (if x434000 = 2 then ((spec_l1Abs.f (wrap64 (x12 + x14))).bind fun t441 => (some (wrap64 (x12 + x14), decide (t441 ≤ 1000000000)))) else (if x434000 = 3 then ((spec_l1Abs.f (wrap64 (x12 - x14))).bind fun t442 => (some (wrap64 (x12 - x14), decide (t442 ≤ 1000000000)))) else (if x434000 = 4 then ((spec_l1Abs.f (wrap64 (x12 * x14))).bind fun t443 => (some (wrap64 (x12 * x14), decide (t443 ≤ 1000000000)))) else (if x434000 = 5 then (if x14 = 0 then (some (0, false)) else ((spec_ruDown.f x12 x14).bind fun t444 => ((spec_l1Abs.f t444).bind fun t445 => (some (t444, decide (t445 ≤ 1000000000)))))) else (if 3 < (x11.length : Int) then ((spec_l1Sign.f (wrap64 (x12 - x14))).bind fun t447 => (if t447 = (wrap64 (x434000 - 7)) then (if 2 < (x11.length : Int) then ((spec_ruValue.f k x0 x1 (rd x11 2) x3).bind fun bt449 => (some (bt449.1, bt449.2))) else (none)) else ((spec_ruValue.f k x0 x1 (rd x11 3) x3).bind fun bt451 => (some (bt451.1, bt451.2))))) else (none))))))
def spec_ruValue.f : Nat → List (S52) → List (List Int) → Int → List Int → Option (Int × Bool)
 | 0, _, _, _, _ => none
 | k + 1, l0, l1, a2, l3 => if 0 ≤ a2 then (if a2 < (l0.length : Int) then (if a2 < (l1.length : Int) then (if ((rd_T52 l0 a2).f0) = 0 then (some ((rd_T52 l0 a2).f1, true)) else (if ((rd_T52 l0 a2).f0) = 1 then (if 0 ≤ ((rd_T52 l0 a2).f1) then (if ((rd_T52 l0 a2).f1) < (l3.length : Int) then (some (rd l3 ((rd_T52 l0 a2).f1), true)) else (none)) else (none)) else (if 0 < ((rd_L3 l1 a2).length : Int) then ((spec_ruValue.f k l0 l1 (rd (rd_L3 l1 a2) 0) l3).bind fun bt436 => (if 1 < ((rd_L3 l1 a2).length : Int) then ((spec_ruValue.f k l0 l1 (rd (rd_L3 l1 a2) 1) l3).bind fun bt439 => (if bt436.2 = true then (spec_ruValue.j0 k l0 l1 l3 (rd_L3 l1 a2) bt436.1 bt439.1 (!bt439.2) ((rd_T52 l0 a2).f0) ((rd_T52 l0 a2).f1)) else (spec_ruValue.j0 k l0 l1 l3 (rd_L3 l1 a2) bt436.1 bt439.1 true ((rd_T52 l0 a2).f0) ((rd_T52 l0 a2).f1)))) else (none))) else (none)))) else (none)) else (none)) else (none)
end
def spec_ruValue.T1 : Bool × List (List Nat × List Nat) := (true, [([], []), ([], []), ([0, 1], [0, 1]), ([2], [2]), ([], []), ([], []), ([4, 5], [4, 5]), ([6], [6]), ([], []), ([8, 3, 0, 1, 2, 3, 8], [3, 8]), ([7, 9, 0, 1, 2, 3, 4, 5, 6, 7, 8, 9], [7])])
def spec_ruValue.B1 : List Nat := [0, 0, 3, 7, 0, 0, 48, 112, 0, 271, 1023]
theorem spec_ruValue.tab1 : rtab .any (opsOf Try.f33 1) = spec_ruValue.T1 := by kernel_rfl
theorem spec_ruValue.bits1 : waitsOk spec_ruValue.T1.2 spec_ruValue.B1 = true := by kernel_rfl
def spec_ruValue.T14 : Bool × List (List Nat × List Nat) := (true, [([], []), ([], []), ([0, 1], [0, 1]), ([2], [2]), ([], []), ([4], [4]), ([5], [5]), ([3, 6], [3, 6])])
def spec_ruValue.B14 : List Nat := [0, 0, 3, 7, 0, 16, 48, 127]
theorem spec_ruValue.tab14 : rtab .any (opsOf Try.f33 14) = spec_ruValue.T14 := by kernel_rfl
theorem spec_ruValue.bits14 : waitsOk spec_ruValue.T14.2 spec_ruValue.B14 = true := by kernel_rfl
set_option maxHeartbeats 8000000 in
set_option maxRecDepth 100000 in
theorem spec_ruValue.calls (k : Nat) : ∀ (A0 : Option Addr) (c0 : Nat) (l0 : List (S52)) (A1 : Option Addr) (c1 : Nat) (l1 : List (List Int)) (a2 : Int) (A3 : Option Addr) (c3 : Nat) (l3 : List Int) (r1 : Int) (r2 : Bool) (w : World) (hr0 : Kd.C k52 w A0 l0.length l0) (hc0 : l0.length ≤ c0) (hr1 : Kd.C (Kd.slice 3 (Kd.int .i64)) w A1 l1.length l1) (hc1 : l1.length ≤ c1) (hr3 : Kd.C (Kd.int .i64) w A3 l3.length l3) (hc3 : l3.length ≤ c3) (h : spec_ruValue.f k l0 l1 a2 l3 = some (r1, r2)),
  Calls Try.prog 33 #[.slice A0 l0.length c0, .slice A1 l1.length c1, .int .i64 a2, .slice A3 l3.length c3] w fun e w' => e = .returned (.tuple #[.int .i64 r1, .bool r2]) ∧ Below w.heap.size w w' := by
 induction k using Nat.strongRecOn with
 | _ k ih =>
 intro A0 c0 l0 A1 c1 l1 a2 A3 c3 l3 r1 r2 w hr0 hc0 hr1 hc1 hr3 hc3 h
 cases k with
 | zero => exact absurd h (by simp [spec_ruValue.f])
 | succ k =>
 simp only [spec_ruValue.f] at h
 have hu52 := Try.underlying52
 have HR0 := Aside0.mk hr0
 have HC0 := Aside0.mk hc0
 clear hr0 hc0
 have HR1 := Aside0.mk hr1
 have HC1 := Aside0.mk hc1
 clear hr1 hc1
 have HR3 := Aside0.mk hr3
 have HC3 := Aside0.mk hc3
 clear hr3 hc3
 have HB := Aside0.mk (Below.refl w.heap.size w)
 have H : (if 0 ≤ a2 then (if a2 < (l0.length : Int) then (if a2 < (l1.length : Int) then (if ((rd_T52 l0 a2).f0) = 0 then (some ((rd_T52 l0 a2).f1, true)) else (if ((rd_T52 l0 a2).f0) = 1 then (if 0 ≤ ((rd_T52 l0 a2).f1) then (if ((rd_T52 l0 a2).f1) < (l3.length : Int) then (some (rd l3 ((rd_T52 l0 a2).f1), true)) else (none)) else (none)) else (if 0 < ((rd_L3 l1 a2).length : Int) then ((spec_ruValue.f k l0 l1 (rd (rd_L3 l1 a2) 0) l3).bind fun bt436 => (if 1 < ((rd_L3 l1 a2).length : Int) then ((spec_ruValue.f k l0 l1 (rd (rd_L3 l1 a2) 1) l3).bind fun bt439 => (if bt436.2 = true then (spec_ruValue.j0 k l0 l1 l3 (rd_L3 l1 a2) bt436.1 bt439.1 (!bt439.2) ((rd_T52 l0 a2).f0) ((rd_T52 l0 a2).f1)) else (spec_ruValue.j0 k l0 l1 l3 (rd_L3 l1 a2) bt436.1 bt439.1 true ((rd_T52 l0 a2).f0) ((rd_T52 l0 a2).f1)))) else (none))) else (none)))) else (none)) else (none)) else (none)) = some (r1, r2) := h
 clear h
 by_cases c5 : 0 ≤ a2
 ·rw [if_pos c5] at H
  have c5b0 : decide (0 ≤ a2) = true := decide_eq_true c5
  clear c5
  by_cases c6 : a2 < (l0.length : Int)
  ·rw [if_pos c6] at H
   have c6b0 : decide (a2 < (l0.length : Int)) = true := decide_eq_true c6
   clear c6
   by_cases c7 : a2 < (l1.length : Int)
   ·rw [if_pos c7] at H
    have c7b0 : decide (a2 < (l1.length : Int)) = true := decide_eq_true c7
    clear c7
    by_cases c8 : ((rd_T52 l0 a2).f0) = 0
    ·rw [if_pos c8] at H
     have c8b0 : (((rd_T52 l0 a2).f0) == 0) = true := beq_iff_eq.mpr c8
     have c8b1 : (((rd_T52 l0 a2).f0) != 0) = false := bne_eq_false_iff_eq.mpr c8
     clear c8
     simp only [Option.some.injEq, Prod.mk.injEq] at H
     obtain ⟨rfl, rfl⟩ := H
     go_enter Try.func33, Try.ntmps33
     try go_wp2
     have n0_ := Aside0.mk (below_drew1 HB.out)
     clear HB
     have HB := n0_
     clear n0_
     have p431 : 0 ≤ (a2 : Int) := of_decide_eq_true (by first | (with_reducible assumption) | assumption)
     have q431 : a2 < (l0.length : Int) := of_decide_eq_true (by first | (with_reducible assumption) | assumption)
     obtain ⟨ad431, e431, hx431_0, hx431_1⟩ := at_T52 HR0.out a2 p431 q431
     have hw431_1 := hx431_1
     have hw431_0 := hx431_0
     cases e431
     replace hx431_0 := (HB.out.cell (World.block_lt_of_cell? w _ hx431_0)).trans hx431_0
     replace hx431_1 := (HB.out.cell (World.block_lt_of_cell? w _ hx431_1)).trans hx431_1
     replace p431 := eq_true p431
     replace q431 := eq_true q431
     have p432 : 0 ≤ (a2 : Int) := of_decide_eq_true (by first | (with_reducible assumption) | assumption)
     have q432 : a2 < (l1.length : Int) := of_decide_eq_true (by first | (with_reducible assumption) | assumption)
     obtain ⟨ad432, A432_0, c432_0, e432, hx432_0, hl432_0, hi432_0⟩ := at_L3 HR1.out a2 p432 q432
     have hw432_0 := hx432_0
     cases e432
     replace hx432_0 := (HB.out.cell (World.block_lt_of_cell? w _ hx432_0)).trans hx432_0
     have HR432_0 := Aside0.mk hi432_0
     have HC432_0 := Aside0.mk hl432_0
     clear hi432_0 hl432_0
     replace p432 := eq_true p432
     replace q432 := eq_true q432
     refine start_ (n := 11) (S := fun w' => w'.cell? (ad431.add ((a2).toNat * 2)) = some (.int .i64 ((rd_T52 l0 a2).f0)) ∧ w'.cell? ⟨(ad431.add ((a2).toNat * 2)).block, (ad431.add ((a2).toNat * 2)).off + 1, none⟩ = some (.int .i64 ((rd_T52 l0 a2).f1)) ∧ w'.cell? (ad432.add (a2).toNat) = some (.slice A432_0 (rd_L3 l1 a2).length c432_0)) (ds := []) #[false, false, false, false, false, false, false, false, false, false, false] (by kernel_rfl) rfl rfl ⟨((HB.out.cell (World.block_lt_of_cell? w _ hw431_0)).trans hw431_0), ((HB.out.cell (World.block_lt_of_cell? w _ hw431_1)).trans hw431_1), ((HB.out.cell (World.block_lt_of_cell? w _ hw432_0)).trans hw432_0)⟩ (fun hHeld => ?_); refine with_tabW spec_ruValue.tab1 spec_ruValue.bits1 (fun HT_ HW_ => ?_)
     generalize w.drew = w9 at HB HR432_0 hx431_0 hx431_1 hx432_0 hHeld ⊢
     refine pure_ (i := 0) (N := some 18) (v := ?_) (a' := ?_) #[true, false, false, false, false, false, false, false, false, false, false] rfl rfl (any_of HT_.out (by kernel_rfl)) (fun _ _ _ h => h) (Or.inl ⟨by rfl, ?_⟩) ?_ ?_
     rotate_left
     ·intro w'
      go_simp
      with_reducible rfl
     rotate_left
     ·simp only [Act.put, List.setIfInBounds_toArray, List.set_cons_zero, List.set_cons_succ, i64_w, i32_w]
      rfl
     refine pure_ (i := 1) (N := some 19) (v := ?_) (a' := ?_) #[true, true, false, false, false, false, false, false, false, false, false] rfl rfl (any_of HT_.out (by kernel_rfl)) (fun _ _ _ h => h) (Or.inl ⟨by rfl, ?_⟩) ?_ ?_
     rotate_left
     ·intro w'
      go_simp
      with_reducible rfl
     rotate_left
     ·simp only [Act.put, List.setIfInBounds_toArray, List.set_cons_zero, List.set_cons_succ, i64_w, i32_w]
      rfl
     refine pure_ (i := 2) (N := some 20) (v := ?_) (a' := ?_) #[true, true, true, false, false, false, false, false, false, false, false] rfl rfl (any_of HT_.out (by kernel_rfl)) (fun _ _ _ h => h) (Or.inl ⟨by rfl, ?_⟩) ?_ ?_
     rotate_left
     ·intro w'
      go_simp
      with_reducible rfl
     rotate_left
     ·simp only [Act.put, List.setIfInBounds_toArray, List.set_cons_zero, List.set_cons_succ, i64_w, i32_w]
      rfl
     refine pure_ (i := 4) (N := some 22) (v := ?_) (a' := ?_) #[true, true, true, false, true, false, false, false, false, false, false] rfl rfl (any_of HT_.out (by kernel_rfl)) (fun _ _ _ h => h) (Or.inl ⟨by rfl, ?_⟩) ?_ ?_
     rotate_left
     ·intro w'
      go_simp
      with_reducible rfl
     rotate_left
     ·simp only [Act.put, List.setIfInBounds_toArray, List.set_cons_zero, List.set_cons_succ, i64_w, i32_w]
      rfl
     refine pure_ (i := 5) (N := some 23) (v := ?_) (a' := ?_) #[true, true, true, false, true, true, false, false, false, false, false] rfl rfl (any_of HT_.out (by kernel_rfl)) (fun _ _ _ h => h) (Or.inl ⟨by rfl, ?_⟩) ?_ ?_
     rotate_left
     ·intro w'
      go_simp
      with_reducible rfl
     rotate_left
     ·simp only [Act.put, List.setIfInBounds_toArray, List.set_cons_zero, List.set_cons_succ, i64_w, i32_w]
      rfl
     refine pure_ (i := 6) (N := some 24) (v := ?_) (a' := ?_) #[true, true, true, false, true, true, true, false, false, false, false] rfl rfl (any_of HT_.out (by kernel_rfl)) (fun _ _ _ h => h) (Or.inl ⟨by rfl, ?_⟩) ?_ ?_
     rotate_left
     ·intro w'
      go_simp
      with_reducible rfl
     rotate_left
     ·simp only [Act.put, List.setIfInBounds_toArray, List.set_cons_zero, List.set_cons_succ, i64_w, i32_w]
      rfl
     refine take_ (i := 3) (N := some 21) (v := ?_) (a' := ?_) #[true, true, true, true, true, true, true, false, false, false, false] rfl rfl (take_ofW HT_.out HW_.out (by kernel_rfl)) (fun _ _ _ h => h) (Or.inl ⟨by rfl, ?_⟩) hHeld ?_ ?_
     rotate_left
     ·rintro w' ⟨s0, s1, s2⟩
      go_simp
      with_reducible rfl
     rotate_left
     ·simp only [Act.put, List.setIfInBounds_toArray, List.set_cons_zero, List.set_cons_succ, i64_w, i32_w]
      rfl
     refine take_ (i := 7) (N := some 25) (v := ?_) (a' := ?_) #[true, true, true, true, true, true, true, true, false, false, false] rfl rfl (take_ofW HT_.out HW_.out (by kernel_rfl)) (fun _ _ _ h => h) (Or.inl ⟨by rfl, ?_⟩) hHeld ?_ ?_
     rotate_left
     ·rintro w' ⟨s0, s1, s2⟩
      go_simp
      with_reducible rfl
     rotate_left
     ·simp only [Act.put, List.setIfInBounds_toArray, List.set_cons_zero, List.set_cons_succ, i64_w, i32_w]
      rfl
     refine one_ (i := 8) (N := some 10) #[true, true, true, true, true, true, true, true, true, false, false] rfl rfl (one_of HT_.out (by kernel_rfl)) (by decide) (fun K hK => ?_)
     refine box_step ?hg (N := 10) ?hd (cs := #[.int .i64 0, .int .i64 0]) (t := 52) ?hr ?_; (case hd => rfl); (case hg => rfl); (case hr => first | (go_simp; done) | (go_simp; rfl))
     intro gb433 hg w10 hbox hb
     have n0_ := Aside0.mk (below_step (hb_ HB) hb)
     have n1_ := Aside0.mk (hbox)
     have n2_ := Aside0.mk ((by rw [hg]; exact (below_size (hb_ HB)) : w.heap.size ≤ gb433))
     have n3_ := Aside0.mk ((by rw [hg]; exact (below_size (hb_ HB)) : w.heap.size ≤ gb433))
     clear HB
     have HB := n0_
     have BK433 := n1_
     have GW433 := n2_
     have GE433 := n3_
     clear n0_ n1_ n2_ n3_
     clear hb hbox hg
     refine hK.out _ _ ⟨((HB.out.cell (World.block_lt_of_cell? w _ hw431_0)).trans hw431_0), ((HB.out.cell (World.block_lt_of_cell? w _ hw431_1)).trans hw431_1), ((HB.out.cell (World.block_lt_of_cell? w _ hw432_0)).trans hw432_0)⟩ (fun hHeld => ?_)
     clear hK K
     refine norm_ (a' := ?_) ?_ ?_
     rotate_left
     ·show Act.put _ (some 10) _ = _
      simp only [Act.put, List.setIfInBounds_toArray, List.set_cons_zero, List.set_cons_succ, i64_w, i32_w]
      rfl
     refine one_ (i := 9) (N := none) #[true, true, true, true, true, true, true, true, true, true, false] rfl rfl (one_of HT_.out (by kernel_rfl)) (by decide) (fun K hK => ?_)
     have hs11 : w10.cell? ⟨gb433, 0, none⟩ = some (.int .i64 0) := (blk_cell BK433.out 0).trans rfl
     have hfs11 := blk_frozen BK433.out 0
     have hs12 : w10.cell? ⟨gb433, 1, none⟩ = some (.int .i64 0) := (blk_cell BK433.out 1).trans rfl
     have hfs12 := blk_frozen BK433.out 1
     refine skip_ (w1 := ?_) (by rfl) rfl ?_ ?_
     rotate_left
     ·go_simp
      rfl
     refine hK.out _ _ ⟨((cell_far (p := ⟨gb433, _, none⟩) (by first | exact Nat.ne_of_lt (Nat.lt_of_lt_of_le (by have := World.block_lt_of_cell? _ _ hw431_0; first | rwa [add_block] at this | exact this) GW433.out) | (rw [add_block]; exact Nat.ne_of_lt (Nat.lt_of_lt_of_le (by have := World.block_lt_of_cell? _ _ hw431_0; first | rwa [add_block] at this | exact this) GW433.out)) | (show (Addr.add _ _).block ≠ _; rw [add_block]; exact Nat.ne_of_lt (Nat.lt_of_lt_of_le (by have := World.block_lt_of_cell? _ _ hw431_0; first | rwa [add_block] at this | exact this) GW433.out)) | (dsimp only; exact Nat.ne_of_lt (Nat.lt_of_lt_of_le (by have := World.block_lt_of_cell? _ _ hw431_0; first | rwa [add_block] at this | exact this) GW433.out))) _).trans (((cell_far (p := ⟨gb433, _, none⟩) (by first | exact Nat.ne_of_lt (Nat.lt_of_lt_of_le (by have := World.block_lt_of_cell? _ _ hw431_0; first | rwa [add_block] at this | exact this) GW433.out) | (rw [add_block]; exact Nat.ne_of_lt (Nat.lt_of_lt_of_le (by have := World.block_lt_of_cell? _ _ hw431_0; first | rwa [add_block] at this | exact this) GW433.out)) | (show (Addr.add _ _).block ≠ _; rw [add_block]; exact Nat.ne_of_lt (Nat.lt_of_lt_of_le (by have := World.block_lt_of_cell? _ _ hw431_0; first | rwa [add_block] at this | exact this) GW433.out)) | (dsimp only; exact Nat.ne_of_lt (Nat.lt_of_lt_of_le (by have := World.block_lt_of_cell? _ _ hw431_0; first | rwa [add_block] at this | exact this) GW433.out))) _).trans (hHeld.1)))), ((cell_far (p := ⟨gb433, _, none⟩) (by first | exact Nat.ne_of_lt (Nat.lt_of_lt_of_le (by have := World.block_lt_of_cell? _ _ hw431_1; first | rwa [add_block] at this | exact this) GW433.out) | (rw [add_block]; exact Nat.ne_of_lt (Nat.lt_of_lt_of_le (by have := World.block_lt_of_cell? _ _ hw431_1; first | rwa [add_block] at this | exact this) GW433.out)) | (show (Addr.add _ _).block ≠ _; rw [add_block]; exact Nat.ne_of_lt (Nat.lt_of_lt_of_le (by have := World.block_lt_of_cell? _ _ hw431_1; first | rwa [add_block] at this | exact this) GW433.out)) | (dsimp only; exact Nat.ne_of_lt (Nat.lt_of_lt_of_le (by have := World.block_lt_of_cell? _ _ hw431_1; first | rwa [add_block] at this | exact this) GW433.out))) _).trans (((cell_far (p := ⟨gb433, _, none⟩) (by first | exact Nat.ne_of_lt (Nat.lt_of_lt_of_le (by have := World.block_lt_of_cell? _ _ hw431_1; first | rwa [add_block] at this | exact this) GW433.out) | (rw [add_block]; exact Nat.ne_of_lt (Nat.lt_of_lt_of_le (by have := World.block_lt_of_cell? _ _ hw431_1; first | rwa [add_block] at this | exact this) GW433.out)) | (show (Addr.add _ _).block ≠ _; rw [add_block]; exact Nat.ne_of_lt (Nat.lt_of_lt_of_le (by have := World.block_lt_of_cell? _ _ hw431_1; first | rwa [add_block] at this | exact this) GW433.out)) | (dsimp only; exact Nat.ne_of_lt (Nat.lt_of_lt_of_le (by have := World.block_lt_of_cell? _ _ hw431_1; first | rwa [add_block] at this | exact this) GW433.out))) _).trans (hHeld.2.1)))), ((cell_far (p := ⟨gb433, _, none⟩) (by first | exact Nat.ne_of_lt (Nat.lt_of_lt_of_le (by have := World.block_lt_of_cell? _ _ hw432_0; first | rwa [add_block] at this | exact this) GW433.out) | (rw [add_block]; exact Nat.ne_of_lt (Nat.lt_of_lt_of_le (by have := World.block_lt_of_cell? _ _ hw432_0; first | rwa [add_block] at this | exact this) GW433.out)) | (show (Addr.add _ _).block ≠ _; rw [add_block]; exact Nat.ne_of_lt (Nat.lt_of_lt_of_le (by have := World.block_lt_of_cell? _ _ hw432_0; first | rwa [add_block] at this | exact this) GW433.out)) | (dsimp only; exact Nat.ne_of_lt (Nat.lt_of_lt_of_le (by have := World.block_lt_of_cell? _ _ hw432_0; first | rwa [add_block] at this | exact this) GW433.out))) _).trans (((cell_far (p := ⟨gb433, _, none⟩) (by first | exact Nat.ne_of_lt (Nat.lt_of_lt_of_le (by have := World.block_lt_of_cell? _ _ hw432_0; first | rwa [add_block] at this | exact this) GW433.out) | (rw [add_block]; exact Nat.ne_of_lt (Nat.lt_of_lt_of_le (by have := World.block_lt_of_cell? _ _ hw432_0; first | rwa [add_block] at this | exact this) GW433.out)) | (show (Addr.add _ _).block ≠ _; rw [add_block]; exact Nat.ne_of_lt (Nat.lt_of_lt_of_le (by have := World.block_lt_of_cell? _ _ hw432_0; first | rwa [add_block] at this | exact this) GW433.out)) | (dsimp only; exact Nat.ne_of_lt (Nat.lt_of_lt_of_le (by have := World.block_lt_of_cell? _ _ hw432_0; first | rwa [add_block] at this | exact this) GW433.out))) _).trans (hHeld.2.2))))⟩ (fun hHeld => ?_)
     clear hK K
     refine pure_ (i := 10) (N := some 11) (v := ?_) (a' := ?_) #[true, true, true, true, true, true, true, true, true, true, true] rfl rfl (any_of HT_.out (by kernel_rfl)) (fun _ _ _ h => h) (Or.inl ⟨by rfl, ?_⟩) ?_ ?_
     rotate_left
     ·intro w'
      go_simp
      with_reducible rfl
     rotate_left
     ·simp only [Act.put, List.setIfInBounds_toArray, List.set_cons_zero, List.set_cons_succ, i64_w, i32_w]
      rfl
     refine done_ (done_of HT_.out (by kernel_rfl)) ?_
     have hcz13_0 : w10.cell? ⟨gb433, 0, none⟩ = some (.int .i64 0) := (blk_cell BK433.out 0).trans rfl
     have hcz13_1 : w10.cell? ⟨gb433, 1, none⟩ = some (.int .i64 0) := (blk_cell BK433.out 1).trans rfl
     have hfz13_0 := blk_frozen BK433.out 0
     have hfz13_1 := blk_frozen BK433.out 1
     try go_wp2
     go_ret2
     exact ⟨by first | rfl | (simp [errW_none, errW_some] <;> rfl) | (simp [*, errW_none, errW_some] <;> rfl), hb_ HB⟩
    ·rw [if_neg c8] at H
     have c8b0 : (((rd_T52 l0 a2).f0) == 0) = false := beq_eq_false_iff_ne.mpr c8
     have c8b1 : (((rd_T52 l0 a2).f0) != 0) = true := bne_iff_ne.mpr c8
     by_cases c14 : ((rd_T52 l0 a2).f0) = 1
     ·rw [if_pos c14] at H
      have c14b0 : (((rd_T52 l0 a2).f0) == 1) = true := beq_iff_eq.mpr c14
      have c14b1 : (((rd_T52 l0 a2).f0) != 1) = false := bne_eq_false_iff_eq.mpr c14
      clear c14
      by_cases c15 : 0 ≤ ((rd_T52 l0 a2).f1)
      ·rw [if_pos c15] at H
       have c15b0 : decide (0 ≤ ((rd_T52 l0 a2).f1)) = true := decide_eq_true c15
       clear c15
       by_cases c16 : ((rd_T52 l0 a2).f1) < (l3.length : Int)
       ·rw [if_pos c16] at H
        have c16b0 : decide (((rd_T52 l0 a2).f1) < (l3.length : Int)) = true := decide_eq_true c16
        clear c16
        simp only [Option.some.injEq, Prod.mk.injEq] at H
        obtain ⟨rfl, rfl⟩ := H
        go_enter Try.func33, Try.ntmps33
        try go_wp2
        have n0_ := Aside0.mk (below_drew1 HB.out)
        clear HB
        have HB := n0_
        clear n0_
        have p431 : 0 ≤ (a2 : Int) := of_decide_eq_true (by first | (with_reducible assumption) | assumption)
        have q431 : a2 < (l0.length : Int) := of_decide_eq_true (by first | (with_reducible assumption) | assumption)
        obtain ⟨ad431, e431, hx431_0, hx431_1⟩ := at_T52 HR0.out a2 p431 q431
        have hw431_1 := hx431_1
        have hw431_0 := hx431_0
        cases e431
        replace hx431_0 := (HB.out.cell (World.block_lt_of_cell? w _ hx431_0)).trans hx431_0
        replace hx431_1 := (HB.out.cell (World.block_lt_of_cell? w _ hx431_1)).trans hx431_1
        replace p431 := eq_true p431
        replace q431 := eq_true q431
        have p432 : 0 ≤ (a2 : Int) := of_decide_eq_true (by first | (with_reducible assumption) | assumption)
        have q432 : a2 < (l1.length : Int) := of_decide_eq_true (by first | (with_reducible assumption) | assumption)
        obtain ⟨ad432, A432_0, c432_0, e432, hx432_0, hl432_0, hi432_0⟩ := at_L3 HR1.out a2 p432 q432
        have hw432_0 := hx432_0
        cases e432
        replace hx432_0 := (HB.out.cell (World.block_lt_of_cell? w _ hx432_0)).trans hx432_0
        have HR432_0 := Aside0.mk hi432_0
        have HC432_0 := Aside0.mk hl432_0
        clear hi432_0 hl432_0
        replace p432 := eq_true p432
        replace q432 := eq_true q432
        refine start_ (n := 11) (S := fun w' => w'.cell? (ad431.add ((a2).toNat * 2)) = some (.int .i64 ((rd_T52 l0 a2).f0)) ∧ w'.cell? ⟨(ad431.add ((a2).toNat * 2)).block, (ad431.add ((a2).toNat * 2)).off + 1, none⟩ = some (.int .i64 ((rd_T52 l0 a2).f1)) ∧ w'.cell? (ad432.add (a2).toNat) = some (.slice A432_0 (rd_L3 l1 a2).length c432_0)) (ds := []) #[false, false, false, false, false, false, false, false, false, false, false] (by kernel_rfl) rfl rfl ⟨((HB.out.cell (World.block_lt_of_cell? w _ hw431_0)).trans hw431_0), ((HB.out.cell (World.block_lt_of_cell? w _ hw431_1)).trans hw431_1), ((HB.out.cell (World.block_lt_of_cell? w _ hw432_0)).trans hw432_0)⟩ (fun hHeld => ?_); refine with_tabW spec_ruValue.tab1 spec_ruValue.bits1 (fun HT_ HW_ => ?_)
        generalize w.drew = w17 at HB HR432_0 hx431_0 hx431_1 hx432_0 hHeld ⊢
        refine pure_ (i := 0) (N := some 18) (v := ?_) (a' := ?_) #[true, false, false, false, false, false, false, false, false, false, false] rfl rfl (any_of HT_.out (by kernel_rfl)) (fun _ _ _ h => h) (Or.inl ⟨by rfl, ?_⟩) ?_ ?_
        rotate_left
        ·intro w'
         go_simp
         with_reducible rfl
        rotate_left
        ·simp only [Act.put, List.setIfInBounds_toArray, List.set_cons_zero, List.set_cons_succ, i64_w, i32_w]
         rfl
        refine pure_ (i := 1) (N := some 19) (v := ?_) (a' := ?_) #[true, true, false, false, false, false, false, false, false, false, false] rfl rfl (any_of HT_.out (by kernel_rfl)) (fun _ _ _ h => h) (Or.inl ⟨by rfl, ?_⟩) ?_ ?_
        rotate_left
        ·intro w'
         go_simp
         with_reducible rfl
        rotate_left
        ·simp only [Act.put, List.setIfInBounds_toArray, List.set_cons_zero, List.set_cons_succ, i64_w, i32_w]
         rfl
        refine pure_ (i := 2) (N := some 20) (v := ?_) (a' := ?_) #[true, true, true, false, false, false, false, false, false, false, false] rfl rfl (any_of HT_.out (by kernel_rfl)) (fun _ _ _ h => h) (Or.inl ⟨by rfl, ?_⟩) ?_ ?_
        rotate_left
        ·intro w'
         go_simp
         with_reducible rfl
        rotate_left
        ·simp only [Act.put, List.setIfInBounds_toArray, List.set_cons_zero, List.set_cons_succ, i64_w, i32_w]
         rfl
        refine pure_ (i := 4) (N := some 22) (v := ?_) (a' := ?_) #[true, true, true, false, true, false, false, false, false, false, false] rfl rfl (any_of HT_.out (by kernel_rfl)) (fun _ _ _ h => h) (Or.inl ⟨by rfl, ?_⟩) ?_ ?_
        rotate_left
        ·intro w'
         go_simp
         with_reducible rfl
        rotate_left
        ·simp only [Act.put, List.setIfInBounds_toArray, List.set_cons_zero, List.set_cons_succ, i64_w, i32_w]
         rfl
        refine pure_ (i := 5) (N := some 23) (v := ?_) (a' := ?_) #[true, true, true, false, true, true, false, false, false, false, false] rfl rfl (any_of HT_.out (by kernel_rfl)) (fun _ _ _ h => h) (Or.inl ⟨by rfl, ?_⟩) ?_ ?_
        rotate_left
        ·intro w'
         go_simp
         with_reducible rfl
        rotate_left
        ·simp only [Act.put, List.setIfInBounds_toArray, List.set_cons_zero, List.set_cons_succ, i64_w, i32_w]
         rfl
        refine pure_ (i := 6) (N := some 24) (v := ?_) (a' := ?_) #[true, true, true, false, true, true, true, false, false, false, false] rfl rfl (any_of HT_.out (by kernel_rfl)) (fun _ _ _ h => h) (Or.inl ⟨by rfl, ?_⟩) ?_ ?_
        rotate_left
        ·intro w'
         go_simp
         with_reducible rfl
        rotate_left
        ·simp only [Act.put, List.setIfInBounds_toArray, List.set_cons_zero, List.set_cons_succ, i64_w, i32_w]
         rfl
        refine take_ (i := 3) (N := some 21) (v := ?_) (a' := ?_) #[true, true, true, true, true, true, true, false, false, false, false] rfl rfl (take_ofW HT_.out HW_.out (by kernel_rfl)) (fun _ _ _ h => h) (Or.inl ⟨by rfl, ?_⟩) hHeld ?_ ?_
        rotate_left
        ·rintro w' ⟨s0, s1, s2⟩
         go_simp
         with_reducible rfl
        rotate_left
        ·simp only [Act.put, List.setIfInBounds_toArray, List.set_cons_zero, List.set_cons_succ, i64_w, i32_w]
         rfl
        refine take_ (i := 7) (N := some 25) (v := ?_) (a' := ?_) #[true, true, true, true, true, true, true, true, false, false, false] rfl rfl (take_ofW HT_.out HW_.out (by kernel_rfl)) (fun _ _ _ h => h) (Or.inl ⟨by rfl, ?_⟩) hHeld ?_ ?_
        rotate_left
        ·rintro w' ⟨s0, s1, s2⟩
         go_simp
         with_reducible rfl
        rotate_left
        ·simp only [Act.put, List.setIfInBounds_toArray, List.set_cons_zero, List.set_cons_succ, i64_w, i32_w]
         rfl
        refine one_ (i := 8) (N := some 10) #[true, true, true, true, true, true, true, true, true, false, false] rfl rfl (one_of HT_.out (by kernel_rfl)) (by decide) (fun K hK => ?_)
        refine box_step ?hg (N := 10) ?hd (cs := #[.int .i64 0, .int .i64 0]) (t := 52) ?hr ?_; (case hd => rfl); (case hg => rfl); (case hr => first | (go_simp; done) | (go_simp; rfl))
        intro gb433 hg w18 hbox hb
        have n0_ := Aside0.mk (below_step (hb_ HB) hb)
        have n1_ := Aside0.mk (hbox)
        have n2_ := Aside0.mk ((by rw [hg]; exact (below_size (hb_ HB)) : w.heap.size ≤ gb433))
        have n3_ := Aside0.mk ((by rw [hg]; exact (below_size (hb_ HB)) : w.heap.size ≤ gb433))
        clear HB
        have HB := n0_
        have BK433 := n1_
        have GW433 := n2_
        have GE433 := n3_
        clear n0_ n1_ n2_ n3_
        clear hb hbox hg
        refine hK.out _ _ ⟨((HB.out.cell (World.block_lt_of_cell? w _ hw431_0)).trans hw431_0), ((HB.out.cell (World.block_lt_of_cell? w _ hw431_1)).trans hw431_1), ((HB.out.cell (World.block_lt_of_cell? w _ hw432_0)).trans hw432_0)⟩ (fun hHeld => ?_)
        clear hK K
        refine norm_ (a' := ?_) ?_ ?_
        rotate_left
        ·show Act.put _ (some 10) _ = _
         simp only [Act.put, List.setIfInBounds_toArray, List.set_cons_zero, List.set_cons_succ, i64_w, i32_w]
         rfl
        refine one_ (i := 9) (N := none) #[true, true, true, true, true, true, true, true, true, true, false] rfl rfl (one_of HT_.out (by kernel_rfl)) (by decide) (fun K hK => ?_)
        have hs19 : w18.cell? ⟨gb433, 0, none⟩ = some (.int .i64 0) := (blk_cell BK433.out 0).trans rfl
        have hfs19 := blk_frozen BK433.out 0
        have hs20 : w18.cell? ⟨gb433, 1, none⟩ = some (.int .i64 0) := (blk_cell BK433.out 1).trans rfl
        have hfs20 := blk_frozen BK433.out 1
        refine skip_ (w1 := ?_) (by rfl) rfl ?_ ?_
        rotate_left
        ·go_simp
         rfl
        refine hK.out _ _ ⟨((cell_far (p := ⟨gb433, _, none⟩) (by first | exact Nat.ne_of_lt (Nat.lt_of_lt_of_le (by have := World.block_lt_of_cell? _ _ hw431_0; first | rwa [add_block] at this | exact this) GW433.out) | (rw [add_block]; exact Nat.ne_of_lt (Nat.lt_of_lt_of_le (by have := World.block_lt_of_cell? _ _ hw431_0; first | rwa [add_block] at this | exact this) GW433.out)) | (show (Addr.add _ _).block ≠ _; rw [add_block]; exact Nat.ne_of_lt (Nat.lt_of_lt_of_le (by have := World.block_lt_of_cell? _ _ hw431_0; first | rwa [add_block] at this | exact this) GW433.out)) | (dsimp only; exact Nat.ne_of_lt (Nat.lt_of_lt_of_le (by have := World.block_lt_of_cell? _ _ hw431_0; first | rwa [add_block] at this | exact this) GW433.out))) _).trans (((cell_far (p := ⟨gb433, _, none⟩) (by first | exact Nat.ne_of_lt (Nat.lt_of_lt_of_le (by have := World.block_lt_of_cell? _ _ hw431_0; first | rwa [add_block] at this | exact this) GW433.out) | (rw [add_block]; exact Nat.ne_of_lt (Nat.lt_of_lt_of_le (by have := World.block_lt_of_cell? _ _ hw431_0; first | rwa [add_block] at this | exact this) GW433.out)) | (show (Addr.add _ _).block ≠ _; rw [add_block]; exact Nat.ne_of_lt (Nat.lt_of_lt_of_le (by have := World.block_lt_of_cell? _ _ hw431_0; first | rwa [add_block] at this | exact this) GW433.out)) | (dsimp only; exact Nat.ne_of_lt (Nat.lt_of_lt_of_le (by have := World.block_lt_of_cell? _ _ hw431_0; first | rwa [add_block] at this | exact this) GW433.out))) _).trans (hHeld.1)))), ((cell_far (p := ⟨gb433, _, none⟩) (by first | exact Nat.ne_of_lt (Nat.lt_of_lt_of_le (by have := World.block_lt_of_cell? _ _ hw431_1; first | rwa [add_block] at this | exact this) GW433.out) | (rw [add_block]; exact Nat.ne_of_lt (Nat.lt_of_lt_of_le (by have := World.block_lt_of_cell? _ _ hw431_1; first | rwa [add_block] at this | exact this) GW433.out)) | (show (Addr.add _ _).block ≠ _; rw [add_block]; exact Nat.ne_of_lt (Nat.lt_of_lt_of_le (by have := World.block_lt_of_cell? _ _ hw431_1; first | rwa [add_block] at this | exact this) GW433.out)) | (dsimp only; exact Nat.ne_of_lt (Nat.lt_of_lt_of_le (by have := World.block_lt_of_cell? _ _ hw431_1; first | rwa [add_block] at this | exact this) GW433.out))) _).trans (((cell_far (p := ⟨gb433, _, none⟩) (by first | exact Nat.ne_of_lt (Nat.lt_of_lt_of_le (by have := World.block_lt_of_cell? _ _ hw431_1; first | rwa [add_block] at this | exact this) GW433.out) | (rw [add_block]; exact Nat.ne_of_lt (Nat.lt_of_lt_of_le (by have := World.block_lt_of_cell? _ _ hw431_1; first | rwa [add_block] at this | exact this) GW433.out)) | (show (Addr.add _ _).block ≠ _; rw [add_block]; exact Nat.ne_of_lt (Nat.lt_of_lt_of_le (by have := World.block_lt_of_cell? _ _ hw431_1; first | rwa [add_block] at this | exact this) GW433.out)) | (dsimp only; exact Nat.ne_of_lt (Nat.lt_of_lt_of_le (by have := World.block_lt_of_cell? _ _ hw431_1; first | rwa [add_block] at this | exact this) GW433.out))) _).trans (hHeld.2.1)))), ((cell_far (p := ⟨gb433, _, none⟩) (by first | exact Nat.ne_of_lt (Nat.lt_of_lt_of_le (by have := World.block_lt_of_cell? _ _ hw432_0; first | rwa [add_block] at this | exact this) GW433.out) | (rw [add_block]; exact Nat.ne_of_lt (Nat.lt_of_lt_of_le (by have := World.block_lt_of_cell? _ _ hw432_0; first | rwa [add_block] at this | exact this) GW433.out)) | (show (Addr.add _ _).block ≠ _; rw [add_block]; exact Nat.ne_of_lt (Nat.lt_of_lt_of_le (by have := World.block_lt_of_cell? _ _ hw432_0; first | rwa [add_block] at this | exact this) GW433.out)) | (dsimp only; exact Nat.ne_of_lt (Nat.lt_of_lt_of_le (by have := World.block_lt_of_cell? _ _ hw432_0; first | rwa [add_block] at this | exact this) GW433.out))) _).trans (((cell_far (p := ⟨gb433, _, none⟩) (by first | exact Nat.ne_of_lt (Nat.lt_of_lt_of_le (by have := World.block_lt_of_cell? _ _ hw432_0; first | rwa [add_block] at this | exact this) GW433.out) | (rw [add_block]; exact Nat.ne_of_lt (Nat.lt_of_lt_of_le (by have := World.block_lt_of_cell? _ _ hw432_0; first | rwa [add_block] at this | exact this) GW433.out)) | (show (Addr.add _ _).block ≠ _; rw [add_block]; exact Nat.ne_of_lt (Nat.lt_of_lt_of_le (by have := World.block_lt_of_cell? _ _ hw432_0; first | rwa [add_block] at this | exact this) GW433.out)) | (dsimp only; exact Nat.ne_of_lt (Nat.lt_of_lt_of_le (by have := World.block_lt_of_cell? _ _ hw432_0; first | rwa [add_block] at this | exact this) GW433.out))) _).trans (hHeld.2.2))))⟩ (fun hHeld => ?_)
        clear hK K
        refine pure_ (i := 10) (N := some 11) (v := ?_) (a' := ?_) #[true, true, true, true, true, true, true, true, true, true, true] rfl rfl (any_of HT_.out (by kernel_rfl)) (fun _ _ _ h => h) (Or.inl ⟨by rfl, ?_⟩) ?_ ?_
        rotate_left
        ·intro w'
         go_simp
         with_reducible rfl
        rotate_left
        ·simp only [Act.put, List.setIfInBounds_toArray, List.set_cons_zero, List.set_cons_succ, i64_w, i32_w]
         rfl
        refine done_ (done_of HT_.out (by kernel_rfl)) ?_
        have hcz21_0 : w18.cell? ⟨gb433, 0, none⟩ = some (.int .i64 0) := (blk_cell BK433.out 0).trans rfl
        have hcz21_1 : w18.cell? ⟨gb433, 1, none⟩ = some (.int .i64 0) := (blk_cell BK433.out 1).trans rfl
        have hfz21_0 := blk_frozen BK433.out 0
        have hfz21_1 := blk_frozen BK433.out 1
        have p434 : 0 ≤ (((rd_T52 l0 a2).f1) : Int) := of_decide_eq_true (by first | (with_reducible assumption) | assumption)
        have q434 : ((rd_T52 l0 a2).f1) < (l3.length : Int) := of_decide_eq_true (by first | (with_reducible assumption) | assumption)
        obtain ⟨ad434, e434, hx434_0⟩ := Kd.at_int HR3.out ((rd_T52 l0 a2).f1) p434 q434
        cases e434
        have hn434_0 : ad434.block ≠ gb433 := Nat.ne_of_lt (Nat.lt_of_lt_of_le (by have := World.block_lt_of_cell? _ _ hx434_0; first | rwa [add_block] at this | exact this) GW433.out)
        have hn434_1 : ad434.block ≠ gb433 := Nat.ne_of_lt (Nat.lt_of_lt_of_le (by have := World.block_lt_of_cell? _ _ hx434_0; first | rwa [add_block] at this | exact this) GW433.out)
        replace hx434_0 := (HB.out.cell (World.block_lt_of_cell? w _ hx434_0)).trans hx434_0
        replace hx434_0 := (cell_far (p := ⟨gb433, 0, none⟩) (by first | (rw [add_block]; exact hn434_0) | (show (Addr.add _ _).block ≠ _; rw [add_block]; exact hn434_0) | exact hn434_0) (.int .i64 ((rd_T52 l0 a2).f0))).trans hx434_0
        replace hx434_0 := (cell_far (p := ⟨gb433, 1, none⟩) (by first | (rw [add_block]; exact hn434_1) | (show (Addr.add _ _).block ≠ _; rw [add_block]; exact hn434_1) | exact hn434_1) (.int .i64 ((rd_T52 l0 a2).f1))).trans hx434_0
        clear hn434_0
        clear hn434_1
        replace p434 := eq_true p434
        replace q434 := eq_true q434
        try go_wp2
        go_ret2
        exact ⟨by first | rfl | (simp [errW_none, errW_some] <;> rfl) | (simp [*, errW_none, errW_some] <;> rfl), hb_ HB⟩
       ·rw [if_neg c16] at H
        exact absurd H (by simp)
      ·rw [if_neg c15] at H
       exact absurd H (by simp)
     ·rw [if_neg c14] at H
      have c14b0 : (((rd_T52 l0 a2).f0) == 1) = false := beq_eq_false_iff_ne.mpr c14
      have c14b1 : (((rd_T52 l0 a2).f0) != 1) = true := bne_iff_ne.mpr c14
      by_cases c22 : 0 < ((rd_L3 l1 a2).length : Int)
      ·rw [if_pos c22] at H
       have c22b0 : decide (0 < ((rd_L3 l1 a2).length : Int)) = true := decide_eq_true c22
       have c22b1 : decide (0 < (rd_L3 l1 a2).length) = true := decide_eq_true (by omega)
       clear c22
       replace H := Option.bind_eq_some_iff.mp H
       obtain ⟨⟨t436, t437⟩, A230, H⟩ := H
       replace H : (if 1 < ((rd_L3 l1 a2).length : Int) then ((spec_ruValue.f k l0 l1 (rd (rd_L3 l1 a2) 1) l3).bind fun bt439 => (if t437 = true then (spec_ruValue.j0 k l0 l1 l3 (rd_L3 l1 a2) t436 bt439.1 (!bt439.2) ((rd_T52 l0 a2).f0) ((rd_T52 l0 a2).f1)) else (spec_ruValue.j0 k l0 l1 l3 (rd_L3 l1 a2) t436 bt439.1 true ((rd_T52 l0 a2).f0) ((rd_T52 l0 a2).f1)))) else (none)) = some (r1, r2) := H
       have A23 := Aside0.mk A230
       clear A230
       by_cases c24 : 1 < ((rd_L3 l1 a2).length : Int)
       ·rw [if_pos c24] at H
        have c24b0 : decide (1 < ((rd_L3 l1 a2).length : Int)) = true := decide_eq_true c24
        have c24b1 : decide (1 < (rd_L3 l1 a2).length) = true := decide_eq_true (by omega)
        clear c24
        replace H := Option.bind_eq_some_iff.mp H
        obtain ⟨⟨t439, t440⟩, A250, H⟩ := H
        replace H : (if t437 = true then (spec_ruValue.j0 k l0 l1 l3 (rd_L3 l1 a2) t436 t439 (!t440) ((rd_T52 l0 a2).f0) ((rd_T52 l0 a2).f1)) else (spec_ruValue.j0 k l0 l1 l3 (rd_L3 l1 a2) t436 t439 true ((rd_T52 l0 a2).f0) ((rd_T52 l0 a2).f1))) = some (r1, r2) := H
        have A25 := Aside0.mk A250
        clear A250
        have HC26 := Aside0.mk H
        clear H
        go_enter Try.func33, Try.ntmps33
        try go_wp2
        have n0_ := Aside0.mk (below_drew1 HB.out)
        clear HB
        have HB := n0_
        clear n0_
        have p431 : 0 ≤ (a2 : Int) := of_decide_eq_true (by first | (with_reducible assumption) | assumption)
        have q431 : a2 < (l0.length : Int) := of_decide_eq_true (by first | (with_reducible assumption) | assumption)
        obtain ⟨ad431, e431, hx431_0, hx431_1⟩ := at_T52 HR0.out a2 p431 q431
        have hw431_1 := hx431_1
        have hw431_0 := hx431_0
        cases e431
        replace hx431_0 := (HB.out.cell (World.block_lt_of_cell? w _ hx431_0)).trans hx431_0
        replace hx431_1 := (HB.out.cell (World.block_lt_of_cell? w _ hx431_1)).trans hx431_1
        replace p431 := eq_true p431
        replace q431 := eq_true q431
        have p432 : 0 ≤ (a2 : Int) := of_decide_eq_true (by first | (with_reducible assumption) | assumption)
        have q432 : a2 < (l1.length : Int) := of_decide_eq_true (by first | (with_reducible assumption) | assumption)
        obtain ⟨ad432, A432_0, c432_0, e432, hx432_0, hl432_0, hi432_0⟩ := at_L3 HR1.out a2 p432 q432
        have hw432_0 := hx432_0
        cases e432
        replace hx432_0 := (HB.out.cell (World.block_lt_of_cell? w _ hx432_0)).trans hx432_0
        have HR432_0 := Aside0.mk hi432_0
        have HC432_0 := Aside0.mk hl432_0
        clear hi432_0 hl432_0
        replace p432 := eq_true p432
        replace q432 := eq_true q432
        refine start_ (n := 11) (S := fun w' => w'.cell? (ad431.add ((a2).toNat * 2)) = some (.int .i64 ((rd_T52 l0 a2).f0)) ∧ w'.cell? ⟨(ad431.add ((a2).toNat * 2)).block, (ad431.add ((a2).toNat * 2)).off + 1, none⟩ = some (.int .i64 ((rd_T52 l0 a2).f1)) ∧ w'.cell? (ad432.add (a2).toNat) = some (.slice A432_0 (rd_L3 l1 a2).length c432_0)) (ds := []) #[false, false, false, false, false, false, false, false, false, false, false] (by kernel_rfl) rfl rfl ⟨((HB.out.cell (World.block_lt_of_cell? w _ hw431_0)).trans hw431_0), ((HB.out.cell (World.block_lt_of_cell? w _ hw431_1)).trans hw431_1), ((HB.out.cell (World.block_lt_of_cell? w _ hw432_0)).trans hw432_0)⟩ (fun hHeld => ?_); refine with_tabW spec_ruValue.tab1 spec_ruValue.bits1 (fun HT_ HW_ => ?_)
        generalize w.drew = w27 at HB HR432_0 hx431_0 hx431_1 hx432_0 hHeld ⊢
        refine pure_ (i := 0) (N := some 18) (v := ?_) (a' := ?_) #[true, false, false, false, false, false, false, false, false, false, false] rfl rfl (any_of HT_.out (by kernel_rfl)) (fun _ _ _ h => h) (Or.inl ⟨by rfl, ?_⟩) ?_ ?_
        rotate_left
        ·intro w'
         go_simp
         with_reducible rfl
        rotate_left
        ·simp only [Act.put, List.setIfInBounds_toArray, List.set_cons_zero, List.set_cons_succ, i64_w, i32_w]
         rfl
        refine pure_ (i := 1) (N := some 19) (v := ?_) (a' := ?_) #[true, true, false, false, false, false, false, false, false, false, false] rfl rfl (any_of HT_.out (by kernel_rfl)) (fun _ _ _ h => h) (Or.inl ⟨by rfl, ?_⟩) ?_ ?_
        rotate_left
        ·intro w'
         go_simp
         with_reducible rfl
        rotate_left
        ·simp only [Act.put, List.setIfInBounds_toArray, List.set_cons_zero, List.set_cons_succ, i64_w, i32_w]
         rfl
        refine pure_ (i := 2) (N := some 20) (v := ?_) (a' := ?_) #[true, true, true, false, false, false, false, false, false, false, false] rfl rfl (any_of HT_.out (by kernel_rfl)) (fun _ _ _ h => h) (Or.inl ⟨by rfl, ?_⟩) ?_ ?_
        rotate_left
        ·intro w'
         go_simp
         with_reducible rfl
        rotate_left
        ·simp only [Act.put, List.setIfInBounds_toArray, List.set_cons_zero, List.set_cons_succ, i64_w, i32_w]
         rfl
        refine pure_ (i := 4) (N := some 22) (v := ?_) (a' := ?_) #[true, true, true, false, true, false, false, false, false, false, false] rfl rfl (any_of HT_.out (by kernel_rfl)) (fun _ _ _ h => h) (Or.inl ⟨by rfl, ?_⟩) ?_ ?_
        rotate_left
        ·intro w'
         go_simp
         with_reducible rfl
        rotate_left
        ·simp only [Act.put, List.setIfInBounds_toArray, List.set_cons_zero, List.set_cons_succ, i64_w, i32_w]
         rfl
        refine pure_ (i := 5) (N := some 23) (v := ?_) (a' := ?_) #[true, true, true, false, true, true, false, false, false, false, false] rfl rfl (any_of HT_.out (by kernel_rfl)) (fun _ _ _ h => h) (Or.inl ⟨by rfl, ?_⟩) ?_ ?_
        rotate_left
        ·intro w'
         go_simp
         with_reducible rfl
        rotate_left
        ·simp only [Act.put, List.setIfInBounds_toArray, List.set_cons_zero, List.set_cons_succ, i64_w, i32_w]
         rfl
        refine pure_ (i := 6) (N := some 24) (v := ?_) (a' := ?_) #[true, true, true, false, true, true, true, false, false, false, false] rfl rfl (any_of HT_.out (by kernel_rfl)) (fun _ _ _ h => h) (Or.inl ⟨by rfl, ?_⟩) ?_ ?_
        rotate_left
        ·intro w'
         go_simp
         with_reducible rfl
        rotate_left
        ·simp only [Act.put, List.setIfInBounds_toArray, List.set_cons_zero, List.set_cons_succ, i64_w, i32_w]
         rfl
        refine take_ (i := 3) (N := some 21) (v := ?_) (a' := ?_) #[true, true, true, true, true, true, true, false, false, false, false] rfl rfl (take_ofW HT_.out HW_.out (by kernel_rfl)) (fun _ _ _ h => h) (Or.inl ⟨by rfl, ?_⟩) hHeld ?_ ?_
        rotate_left
        ·rintro w' ⟨s0, s1, s2⟩
         go_simp
         with_reducible rfl
        rotate_left
        ·simp only [Act.put, List.setIfInBounds_toArray, List.set_cons_zero, List.set_cons_succ, i64_w, i32_w]
         rfl
        refine take_ (i := 7) (N := some 25) (v := ?_) (a' := ?_) #[true, true, true, true, true, true, true, true, false, false, false] rfl rfl (take_ofW HT_.out HW_.out (by kernel_rfl)) (fun _ _ _ h => h) (Or.inl ⟨by rfl, ?_⟩) hHeld ?_ ?_
        rotate_left
        ·rintro w' ⟨s0, s1, s2⟩
         go_simp
         with_reducible rfl
        rotate_left
        ·simp only [Act.put, List.setIfInBounds_toArray, List.set_cons_zero, List.set_cons_succ, i64_w, i32_w]
         rfl
        refine one_ (i := 8) (N := some 10) #[true, true, true, true, true, true, true, true, true, false, false] rfl rfl (one_of HT_.out (by kernel_rfl)) (by decide) (fun K hK => ?_)
        refine box_step ?hg (N := 10) ?hd (cs := #[.int .i64 0, .int .i64 0]) (t := 52) ?hr ?_; (case hd => rfl); (case hg => rfl); (case hr => first | (go_simp; done) | (go_simp; rfl))
        intro gb433 hg w28 hbox hb
        have n0_ := Aside0.mk (below_step (hb_ HB) hb)
        have n1_ := Aside0.mk (hbox)
        have n2_ := Aside0.mk ((by rw [hg]; exact (below_size (hb_ HB)) : w.heap.size ≤ gb433))
        have n3_ := Aside0.mk ((by rw [hg]; exact (below_size (hb_ HB)) : w.heap.size ≤ gb433))
        clear HB
        have HB := n0_
        have BK433 := n1_
        have GW433 := n2_
        have GE433 := n3_
        clear n0_ n1_ n2_ n3_
        clear hb hbox hg
        refine hK.out _ _ ⟨((HB.out.cell (World.block_lt_of_cell? w _ hw431_0)).trans hw431_0), ((HB.out.cell (World.block_lt_of_cell? w _ hw431_1)).trans hw431_1), ((HB.out.cell (World.block_lt_of_cell? w _ hw432_0)).trans hw432_0)⟩ (fun hHeld => ?_)
        clear hK K
        refine norm_ (a' := ?_) ?_ ?_
        rotate_left
        ·show Act.put _ (some 10) _ = _
         simp only [Act.put, List.setIfInBounds_toArray, List.set_cons_zero, List.set_cons_succ, i64_w, i32_w]
         rfl
        refine one_ (i := 9) (N := none) #[true, true, true, true, true, true, true, true, true, true, false] rfl rfl (one_of HT_.out (by kernel_rfl)) (by decide) (fun K hK => ?_)
        have hs29 : w28.cell? ⟨gb433, 0, none⟩ = some (.int .i64 0) := (blk_cell BK433.out 0).trans rfl
        have hfs29 := blk_frozen BK433.out 0
        have hs30 : w28.cell? ⟨gb433, 1, none⟩ = some (.int .i64 0) := (blk_cell BK433.out 1).trans rfl
        have hfs30 := blk_frozen BK433.out 1
        refine skip_ (w1 := ?_) (by rfl) rfl ?_ ?_
        rotate_left
        ·go_simp
         rfl
        refine hK.out _ _ ⟨((cell_far (p := ⟨gb433, _, none⟩) (by first | exact Nat.ne_of_lt (Nat.lt_of_lt_of_le (by have := World.block_lt_of_cell? _ _ hw431_0; first | rwa [add_block] at this | exact this) GW433.out) | (rw [add_block]; exact Nat.ne_of_lt (Nat.lt_of_lt_of_le (by have := World.block_lt_of_cell? _ _ hw431_0; first | rwa [add_block] at this | exact this) GW433.out)) | (show (Addr.add _ _).block ≠ _; rw [add_block]; exact Nat.ne_of_lt (Nat.lt_of_lt_of_le (by have := World.block_lt_of_cell? _ _ hw431_0; first | rwa [add_block] at this | exact this) GW433.out)) | (dsimp only; exact Nat.ne_of_lt (Nat.lt_of_lt_of_le (by have := World.block_lt_of_cell? _ _ hw431_0; first | rwa [add_block] at this | exact this) GW433.out))) _).trans (((cell_far (p := ⟨gb433, _, none⟩) (by first | exact Nat.ne_of_lt (Nat.lt_of_lt_of_le (by have := World.block_lt_of_cell? _ _ hw431_0; first | rwa [add_block] at this | exact this) GW433.out) | (rw [add_block]; exact Nat.ne_of_lt (Nat.lt_of_lt_of_le (by have := World.block_lt_of_cell? _ _ hw431_0; first | rwa [add_block] at this | exact this) GW433.out)) | (show (Addr.add _ _).block ≠ _; rw [add_block]; exact Nat.ne_of_lt (Nat.lt_of_lt_of_le (by have := World.block_lt_of_cell? _ _ hw431_0; first | rwa [add_block] at this | exact this) GW433.out)) | (dsimp only; exact Nat.ne_of_lt (Nat.lt_of_lt_of_le (by have := World.block_lt_of_cell? _ _ hw431_0; first | rwa [add_block] at this | exact this) GW433.out))) _).trans (hHeld.1)))), ((cell_far (p := ⟨gb433, _, none⟩) (by first | exact Nat.ne_of_lt (Nat.lt_of_lt_of_le (by have := World.block_lt_of_cell? _ _ hw431_1; first | rwa [add_block] at this | exact this) GW433.out) | (rw [add_block]; exact Nat.ne_of_lt (Nat.lt_of_lt_of_le (by have := World.block_lt_of_cell? _ _ hw431_1; first | rwa [add_block] at this | exact this) GW433.out)) | (show (Addr.add _ _).block ≠ _; rw [add_block]; exact Nat.ne_of_lt (Nat.lt_of_lt_of_le (by have := World.block_lt_of_cell? _ _ hw431_1; first | rwa [add_block] at this | exact this) GW433.out)) | (dsimp only; exact Nat.ne_of_lt (Nat.lt_of_lt_of_le (by have := World.block_lt_of_cell? _ _ hw431_1; first | rwa [add_block] at this | exact this) GW433.out))) _).trans (((cell_far (p := ⟨gb433, _, none⟩) (by first | exact Nat.ne_of_lt (Nat.lt_of_lt_of_le (by have := World.block_lt_of_cell? _ _ hw431_1; first | rwa [add_block] at this | exact this) GW433.out) | (rw [add_block]; exact Nat.ne_of_lt (Nat.lt_of_lt_of_le (by have := World.block_lt_of_cell? _ _ hw431_1; first | rwa [add_block] at this | exact this) GW433.out)) | (show (Addr.add _ _).block ≠ _; rw [add_block]; exact Nat.ne_of_lt (Nat.lt_of_lt_of_le (by have := World.block_lt_of_cell? _ _ hw431_1; first | rwa [add_block] at this | exact this) GW433.out)) | (dsimp only; exact Nat.ne_of_lt (Nat.lt_of_lt_of_le (by have := World.block_lt_of_cell? _ _ hw431_1; first | rwa [add_block] at this | exact this) GW433.out))) _).trans (hHeld.2.1)))), ((cell_far (p := ⟨gb433, _, none⟩) (by first | exact Nat.ne_of_lt (Nat.lt_of_lt_of_le (by have := World.block_lt_of_cell? _ _ hw432_0; first | rwa [add_block] at this | exact this) GW433.out) | (rw [add_block]; exact Nat.ne_of_lt (Nat.lt_of_lt_of_le (by have := World.block_lt_of_cell? _ _ hw432_0; first | rwa [add_block] at this | exact this) GW433.out)) | (show (Addr.add _ _).block ≠ _; rw [add_block]; exact Nat.ne_of_lt (Nat.lt_of_lt_of_le (by have := World.block_lt_of_cell? _ _ hw432_0; first | rwa [add_block] at this | exact this) GW433.out)) | (dsimp only; exact Nat.ne_of_lt (Nat.lt_of_lt_of_le (by have := World.block_lt_of_cell? _ _ hw432_0; first | rwa [add_block] at this | exact this) GW433.out))) _).trans (((cell_far (p := ⟨gb433, _, none⟩) (by first | exact Nat.ne_of_lt (Nat.lt_of_lt_of_le (by have := World.block_lt_of_cell? _ _ hw432_0; first | rwa [add_block] at this | exact this) GW433.out) | (rw [add_block]; exact Nat.ne_of_lt (Nat.lt_of_lt_of_le (by have := World.block_lt_of_cell? _ _ hw432_0; first | rwa [add_block] at this | exact this) GW433.out)) | (show (Addr.add _ _).block ≠ _; rw [add_block]; exact Nat.ne_of_lt (Nat.lt_of_lt_of_le (by have := World.block_lt_of_cell? _ _ hw432_0; first | rwa [add_block] at this | exact this) GW433.out)) | (dsimp only; exact Nat.ne_of_lt (Nat.lt_of_lt_of_le (by have := World.block_lt_of_cell? _ _ hw432_0; first | rwa [add_block] at this | exact this) GW433.out))) _).trans (hHeld.2.2))))⟩ (fun hHeld => ?_)
        clear hK K
        refine pure_ (i := 10) (N := some 11) (v := ?_) (a' := ?_) #[true, true, true, true, true, true, true, true, true, true, true] rfl rfl (any_of HT_.out (by kernel_rfl)) (fun _ _ _ h => h) (Or.inl ⟨by rfl, ?_⟩) ?_ ?_
        rotate_left
        ·intro w'
         go_simp
         with_reducible rfl
        rotate_left
        ·simp only [Act.put, List.setIfInBounds_toArray, List.set_cons_zero, List.set_cons_succ, i64_w, i32_w]
         rfl
        refine done_ (done_of HT_.out (by kernel_rfl)) ?_
        have hcz31_0 : w28.cell? ⟨gb433, 0, none⟩ = some (.int .i64 0) := (blk_cell BK433.out 0).trans rfl
        have hcz31_1 : w28.cell? ⟨gb433, 1, none⟩ = some (.int .i64 0) := (blk_cell BK433.out 1).trans rfl
        have hfz31_0 := blk_frozen BK433.out 0
        have hfz31_1 := blk_frozen BK433.out 1
        have p435 : 0 ≤ (0 : Int) := (by omega)
        have q435 : 0 < ((rd_L3 l1 a2).length : Int) := of_decide_eq_true (by first | (with_reducible assumption) | assumption)
        obtain ⟨ad435, e435, hx435_0⟩ := Kd.at_int HR432_0.out 0 p435 q435
        cases e435
        have qi435 : (0 < (rd_L3 l1 a2).length) = True := eq_true (by omega)
        (try rw [show ((0 : Int)).toNat = 0 from rfl] at hx435_0)
        (try rw [Addr.add_zero'] at hx435_0)
        have hn435_0 : ad435.block ≠ gb433 := Nat.ne_of_lt (Nat.lt_of_lt_of_le (by have := World.block_lt_of_cell? _ _ hx435_0; first | rwa [add_block] at this | exact this) GW433.out)
        have hn435_1 : ad435.block ≠ gb433 := Nat.ne_of_lt (Nat.lt_of_lt_of_le (by have := World.block_lt_of_cell? _ _ hx435_0; first | rwa [add_block] at this | exact this) GW433.out)
        replace hx435_0 := (HB.out.cell (World.block_lt_of_cell? w _ hx435_0)).trans hx435_0
        replace hx435_0 := (cell_far (p := ⟨gb433, 0, none⟩) (by first | (rw [add_block]; exact hn435_0) | (show (Addr.add _ _).block ≠ _; rw [add_block]; exact hn435_0) | exact hn435_0) (.int .i64 ((rd_T52 l0 a2).f0))).trans hx435_0
        replace hx435_0 := (cell_far (p := ⟨gb433, 1, none⟩) (by first | (rw [add_block]; exact hn435_1) | (show (Addr.add _ _).block ≠ _; rw [add_block]; exact hn435_1) | exact hn435_1) (.int .i64 ((rd_T52 l0 a2).f1))).trans hx435_0
        clear hn435_0
        clear hn435_1
        replace p435 := eq_true p435
        replace q435 := eq_true q435
        go_upto_region 9 with (first | ((with_reducible refine gate_callee (f := 33) rfl ?_); refine gl_ (some 46) Try.func33 #[.slice (some ad431) l0.length c0, .slice (some ad432) l1.length c1, .int .i64 (rd (rd_L3 l1 a2) 0), .slice A3 l3.length c3] rfl rfl rfl ?_; (with_reducible refine (ih k (by omega) _ _ l0 _ _ l1 (rd (rd_L3 l1 a2) 0) _ _ l3 t436 t437 _ ?side1 ?side2 ?side3 ?side4 ?side5 ?side6 A23.out).mono ?_); (case side1 => exact Kd.C_below HR0.out (hb_ HB)); (case side2 => exact HC0.out); (case side3 => exact Kd.C_below HR1.out (hb_ HB)); (case side4 => exact HC1.out); (case side5 => exact Kd.C_below HR3.out (hb_ HB)); (case side6 => exact HC3.out); rintro e w32 ⟨rfl, hb⟩; refine ⟨_, rfl, ?_⟩; replace BK433 := Aside0.mk (blk_below (g := gb433) (o := .cells #[.int .i64 ((rd_T52 l0 a2).f0), .int .i64 ((rd_T52 l0 a2).f1)] 52 (0, 0)) (kpq_ (kputs BK433 [(0, _), (1, _)])) hb); replace HB := hbs_ HB hb; (try clear hb); (try clear hb2); (try clear hk); (try clear hi); have p438 : 0 ≤ (1 : Int) := (by omega); have q438 : 1 < ((rd_L3 l1 a2).length : Int) := of_decide_eq_true (by first | (with_reducible assumption) | assumption); obtain ⟨ad438, e438, hx438_0⟩ := Kd.at_int HR432_0.out 1 p438 q438; obtain rfl : ad435 = ad438 := (by injection e438); (try simp only [show (1 : Int).toNat = 1 from rfl, Nat.reduceMul, Nat.reduceEqDiff, Go.Addr.add, ↓reduceIte] at hx438_0); have qi438 : (1 < (rd_L3 l1 a2).length) = True := eq_true (by omega); (try rw [show ((1 : Int)).toNat = 1 from rfl] at hx438_0); replace hx438_0 := (HB.out.cell (World.block_lt_of_cell? w _ hx438_0)).trans hx438_0; replace p438 := eq_true p438; replace q438 := eq_true q438) | ((with_reducible refine gate_callee (f := 33) rfl ?_); refine gl_ (some 56) Try.func33 #[.slice (some ad431) l0.length c0, .slice (some ad432) l1.length c1, .int .i64 (rd (rd_L3 l1 a2) 1), .slice A3 l3.length c3] rfl rfl rfl ?_; (with_reducible refine (ih k (by omega) _ _ l0 _ _ l1 (rd (rd_L3 l1 a2) 1) _ _ l3 t439 t440 _ ?side1 ?side2 ?side3 ?side4 ?side5 ?side6 A25.out).mono ?_); (case side1 => exact Kd.C_w HR0 HB); (case side2 => exact HC0.out); (case side3 => exact Kd.C_w HR1 HB); (case side4 => exact HC1.out); (case side5 => exact Kd.C_w HR3 HB); (case side6 => exact HC3.out); rintro e w33 ⟨rfl, hb⟩; refine ⟨_, rfl, ?_⟩; replace BK433 := kb_ BK433 hb; replace HB := hbs_ HB hb; (try clear hb); (try clear hb2); (try clear hk); (try clear hi)))
        (try simp only [Act.put, List.setIfInBounds_toArray, List.set_cons_zero, List.set_cons_succ])
        go_cut [64] (fun v64 wc => ∃ (kq : Nat) (x64_25 : Bool), v64 = .bool x64_25 ∧ Aside0 (spec_ruValue.j0 kq l0 l1 l3 (rd_L3 l1 a2) t436 t439 x64_25 ((rd_T52 l0 a2).f0) ((rd_T52 l0 a2).f1) = some (r1, r2)) ∧ Aside0 (kq ≤ k) ∧ Aside0 (wc.heap[gb433]? = some (.cells #[.int .i64 ((rd_T52 l0 a2).f0), .int .i64 ((rd_T52 l0 a2).f1)] 52 (0, 0))) ∧ Aside0 (Below w.heap.size w wc))
        case first =>
         have H := HC26.out
         clear HC26
         by_cases c34 : t437 = true
         ·subst c34
          have H1 : (spec_ruValue.j0 k l0 l1 l3 (rd_L3 l1 a2) t436 t439 (!t440) ((rd_T52 l0 a2).f0) ((rd_T52 l0 a2).f1)) = some (r1, r2) := by rw [if_pos rfl] at H; exact H
          clear H
          have H := H1
          clear H1
          have H' := Aside0.mk H
          clear H
          go_wp2
          go_meet
          case rel => exact ⟨_, (!t440), (by first | rfl | (simp; done) | (simp [*]; done)), H', ⟨by first | omega | exact Nat.le_refl _⟩, ⟨kp_ BK433⟩, ⟨hb_ HB⟩⟩
         ·replace c34 := Bool.eq_false_iff.mpr c34
          subst c34
          have H1 : (spec_ruValue.j0 k l0 l1 l3 (rd_L3 l1 a2) t436 t439 true ((rd_T52 l0 a2).f0) ((rd_T52 l0 a2).f1)) = some (r1, r2) := by rw [if_neg (show ¬ (false = true) by decide)] at H; exact H
          clear H
          have H := H1
          clear H1
          have H' := Aside0.mk H
          clear H
          go_wp2
          go_meet
          case rel => exact ⟨_, (true), (by first | rfl | (simp; done) | (simp [*]; done)), H', ⟨by first | omega | exact Nat.le_refl _⟩, ⟨kp_ BK433⟩, ⟨hb_ HB⟩⟩
        case rest =>
         clear HC26
         (try clear c1); (try clear c2); (try clear p2); (try clear c3); (try clear c4); (try clear p4); (try clear q4); (try clear hx4); (try clear qi4); (try clear c5); (try clear c5b0); (try clear c6); (try clear c6b0); (try clear c7); (try clear c7b0); (try clear c8); (try clear c8b0); (try clear c8b1); (try clear c14); (try clear c14b0); (try clear c14b1); (try clear c15); (try clear c15b0); (try clear c16); (try clear c16b0); (try clear c22); (try clear c22b0); (try clear c22b1); (try clear c24); (try clear c24b0); (try clear c24b1); (try clear c33); (try clear c34); (try clear hcz31_0); (try clear hcz31_1); (try clear hfz31_0); (try clear hfz31_1); (try clear hx431_0); (try clear hx431_1); (try clear hx432_0); (try clear hx435_0); (try clear hx438_0); (try clear p431); (try clear p432); (try clear p435); (try clear p438); (try clear q431); (try clear q432); (try clear q435); (try clear q438)
         obtain ⟨kq, x64_25, rfl, HA, HJ25, BK433, HB⟩ := hcut
         cases kq with
         | zero => exact absurd HA.out (by simp [spec_ruValue.j0])
         | succ kj25 =>
          have H := HA.out
          clear HA
          simp only [spec_ruValue.j0] at H
          by_cases c35 : x64_25 = true
          ·subst c35
           have H1 : (some (0, false)) = some (r1, r2) := by rw [if_pos rfl] at H; exact H
           clear H
           have H := H1
           clear H1
           simp only [Option.some.injEq, Prod.mk.injEq] at H
           obtain ⟨rfl, rfl⟩ := H
           go_wp2
           go_ret2
           exact ⟨by first | rfl | (simp [errW_none, errW_some] <;> rfl) | (simp [*, errW_none, errW_some] <;> rfl), hb_ HB⟩
          ·replace c35 := Bool.eq_false_iff.mpr c35
           subst c35
           have H1 : (if ((rd_T52 l0 a2).f0) = 2 then ((spec_l1Abs.f (wrap64 (t436 + t439))).bind fun t441 => (some (wrap64 (t436 + t439), decide (t441 ≤ 1000000000)))) else (if ((rd_T52 l0 a2).f0) = 3 then ((spec_l1Abs.f (wrap64 (t436 - t439))).bind fun t442 => (some (wrap64 (t436 - t439), decide (t442 ≤ 1000000000)))) else (if ((rd_T52 l0 a2).f0) = 4 then ((spec_l1Abs.f (wrap64 (t436 * t439))).bind fun t443 => (some (wrap64 (t436 * t439), decide (t443 ≤ 1000000000)))) else (if ((rd_T52 l0 a2).f0) = 5 then (if t439 = 0 then (some (0, false)) else ((spec_ruDown.f t436 t439).bind fun t444 => ((spec_l1Abs.f t444).bind fun t445 => (some (t444, decide (t445 ≤ 1000000000)))))) else (if 3 < ((rd_L3 l1 a2).length : Int) then ((spec_l1Sign.f (wrap64 (t436 - t439))).bind fun t447 => (if t447 = (wrap64 (((rd_T52 l0 a2).f0) - 7)) then (if 2 < ((rd_L3 l1 a2).length : Int) then ((spec_ruValue.f kj25 l0 l1 (rd (rd_L3 l1 a2) 2) l3).bind fun bt449 => (some (bt449.1, bt449.2))) else (none)) else ((spec_ruValue.f kj25 l0 l1 (rd (rd_L3 l1 a2) 3) l3).bind fun bt451 => (some (bt451.1, bt451.2))))) else (none)))))) = some (r1, r2) := by rw [if_neg (show ¬ (false = true) by decide)] at H; exact H
           clear H
           have H := H1
           clear H1
           by_cases c36 : ((rd_T52 l0 a2).f0) = 2
           ·rw [if_pos c36] at H
            have c36b0 : (((rd_T52 l0 a2).f0) == 2) = true := beq_iff_eq.mpr c36
            have c36b1 : (((rd_T52 l0 a2).f0) != 2) = false := bne_eq_false_iff_eq.mpr c36
            clear c36
            replace H := Option.bind_eq_some_iff.mp H
            obtain ⟨t441, A370, H⟩ := H
            replace H : (some (wrap64 (t436 + t439), decide (t441 ≤ 1000000000))) = some (r1, r2) := H
            have A37 := Aside0.mk A370
            clear A370
            simp only [Option.some.injEq, Prod.mk.injEq] at H
            obtain ⟨rfl, rfl⟩ := H
            have hcz38_0 : wc.cell? ⟨gb433, 0, none⟩ = some (.int .i64 ((rd_T52 l0 a2).f0)) := (blk_cell BK433.out 0).trans rfl
            have hcz38_1 : wc.cell? ⟨gb433, 1, none⟩ = some (.int .i64 ((rd_T52 l0 a2).f1)) := (blk_cell BK433.out 1).trans rfl
            have hfz38_0 := blk_frozen BK433.out 0
            have hfz38_1 := blk_frozen BK433.out 1
            go_wp2_with (first | ((with_reducible refine gate_callee (f := 47) rfl ?_); refine gl_ (some 112) Try.func47 #[.int .i64 (wrap64 (t436 + t439))] rfl rfl rfl ?_; (with_reducible refine (spec_l1Abs.calls (wrap64 (t436 + t439)) t441 _ A37.out).mono ?_); rintro e w' ⟨rfl, ⟨nd, rfl⟩⟩; refine ⟨_, rfl, ?_⟩))
            go_ret2
            exact ⟨by first | rfl | (simp [errW_none, errW_some] <;> rfl) | (simp [*, errW_none, errW_some] <;> rfl), hb_ HB⟩
           ·rw [if_neg c36] at H
            have c36b0 : (((rd_T52 l0 a2).f0) == 2) = false := beq_eq_false_iff_ne.mpr c36
            have c36b1 : (((rd_T52 l0 a2).f0) != 2) = true := bne_iff_ne.mpr c36
            by_cases c39 : ((rd_T52 l0 a2).f0) = 3
            ·rw [if_pos c39] at H
             have c39b0 : (((rd_T52 l0 a2).f0) == 3) = true := beq_iff_eq.mpr c39
             have c39b1 : (((rd_T52 l0 a2).f0) != 3) = false := bne_eq_false_iff_eq.mpr c39
             clear c39
             replace H := Option.bind_eq_some_iff.mp H
             obtain ⟨t442, A400, H⟩ := H
             replace H : (some (wrap64 (t436 - t439), decide (t442 ≤ 1000000000))) = some (r1, r2) := H
             have A40 := Aside0.mk A400
             clear A400
             simp only [Option.some.injEq, Prod.mk.injEq] at H
             obtain ⟨rfl, rfl⟩ := H
             have hcz41_0 : wc.cell? ⟨gb433, 0, none⟩ = some (.int .i64 ((rd_T52 l0 a2).f0)) := (blk_cell BK433.out 0).trans rfl
             have hcz41_1 : wc.cell? ⟨gb433, 1, none⟩ = some (.int .i64 ((rd_T52 l0 a2).f1)) := (blk_cell BK433.out 1).trans rfl
             have hfz41_0 := blk_frozen BK433.out 0
             have hfz41_1 := blk_frozen BK433.out 1
             go_wp2_with (first | ((with_reducible refine gate_callee (f := 47) rfl ?_); refine gl_ (some 112) Try.func47 #[.int .i64 (wrap64 (t436 - t439))] rfl rfl rfl ?_; (with_reducible refine (spec_l1Abs.calls (wrap64 (t436 - t439)) t442 _ A40.out).mono ?_); rintro e w' ⟨rfl, ⟨nd, rfl⟩⟩; refine ⟨_, rfl, ?_⟩))
             go_ret2
             exact ⟨by first | rfl | (simp [errW_none, errW_some] <;> rfl) | (simp [*, errW_none, errW_some] <;> rfl), hb_ HB⟩
            ·rw [if_neg c39] at H
             have c39b0 : (((rd_T52 l0 a2).f0) == 3) = false := beq_eq_false_iff_ne.mpr c39
             have c39b1 : (((rd_T52 l0 a2).f0) != 3) = true := bne_iff_ne.mpr c39
             by_cases c42 : ((rd_T52 l0 a2).f0) = 4
             ·rw [if_pos c42] at H
              have c42b0 : (((rd_T52 l0 a2).f0) == 4) = true := beq_iff_eq.mpr c42
              have c42b1 : (((rd_T52 l0 a2).f0) != 4) = false := bne_eq_false_iff_eq.mpr c42
              clear c42
              replace H := Option.bind_eq_some_iff.mp H
              obtain ⟨t443, A430, H⟩ := H
              replace H : (some (wrap64 (t436 * t439), decide (t443 ≤ 1000000000))) = some (r1, r2) := H
              have A43 := Aside0.mk A430
              clear A430
              simp only [Option.some.injEq, Prod.mk.injEq] at H
              obtain ⟨rfl, rfl⟩ := H
              have hcz44_0 : wc.cell? ⟨gb433, 0, none⟩ = some (.int .i64 ((rd_T52 l0 a2).f0)) := (blk_cell BK433.out 0).trans rfl
              have hcz44_1 : wc.cell? ⟨gb433, 1, none⟩ = some (.int .i64 ((rd_T52 l0 a2).f1)) := (blk_cell BK433.out 1).trans rfl
              have hfz44_0 := blk_frozen BK433.out 0
              have hfz44_1 := blk_frozen BK433.out 1
              go_wp2_with (first | ((with_reducible refine gate_callee (f := 47) rfl ?_); refine gl_ (some 112) Try.func47 #[.int .i64 (wrap64 (t436 * t439))] rfl rfl rfl ?_; (with_reducible refine (spec_l1Abs.calls (wrap64 (t436 * t439)) t443 _ A43.out).mono ?_); rintro e w' ⟨rfl, ⟨nd, rfl⟩⟩; refine ⟨_, rfl, ?_⟩))
              go_ret2
              exact ⟨by first | rfl | (simp [errW_none, errW_some] <;> rfl) | (simp [*, errW_none, errW_some] <;> rfl), hb_ HB⟩
             ·rw [if_neg c42] at H
              have c42b0 : (((rd_T52 l0 a2).f0) == 4) = false := beq_eq_false_iff_ne.mpr c42
              have c42b1 : (((rd_T52 l0 a2).f0) != 4) = true := bne_iff_ne.mpr c42
              by_cases c45 : ((rd_T52 l0 a2).f0) = 5
              ·rw [if_pos c45] at H
               have c45b0 : (((rd_T52 l0 a2).f0) == 5) = true := beq_iff_eq.mpr c45
               have c45b1 : (((rd_T52 l0 a2).f0) != 5) = false := bne_eq_false_iff_eq.mpr c45
               clear c45
               by_cases c46 : t439 = 0
               ·rw [if_pos c46] at H
                have c46b0 : (t439 == 0) = true := beq_iff_eq.mpr c46
                have c46b1 : (t439 != 0) = false := bne_eq_false_iff_eq.mpr c46
                clear c46
                simp only [Option.some.injEq, Prod.mk.injEq] at H
                obtain ⟨rfl, rfl⟩ := H
                have hcz47_0 : wc.cell? ⟨gb433, 0, none⟩ = some (.int .i64 ((rd_T52 l0 a2).f0)) := (blk_cell BK433.out 0).trans rfl
                have hcz47_1 : wc.cell? ⟨gb433, 1, none⟩ = some (.int .i64 ((rd_T52 l0 a2).f1)) := (blk_cell BK433.out 1).trans rfl
                have hfz47_0 := blk_frozen BK433.out 0
                have hfz47_1 := blk_frozen BK433.out 1
                go_wp2
                go_ret2
                exact ⟨by first | rfl | (simp [errW_none, errW_some] <;> rfl) | (simp [*, errW_none, errW_some] <;> rfl), hb_ HB⟩
               ·rw [if_neg c46] at H
                have c46b0 : (t439 == 0) = false := beq_eq_false_iff_ne.mpr c46
                have c46b1 : (t439 != 0) = true := bne_iff_ne.mpr c46
                replace H := Option.bind_eq_some_iff.mp H
                obtain ⟨t444, A480, H⟩ := H
                replace H : ((spec_l1Abs.f t444).bind fun t445 => (some (t444, decide (t445 ≤ 1000000000)))) = some (r1, r2) := H
                have A48 := Aside0.mk A480
                clear A480
                replace H := Option.bind_eq_some_iff.mp H
                obtain ⟨t445, A490, H⟩ := H
                replace H : (some (t444, decide (t445 ≤ 1000000000))) = some (r1, r2) := H
                have A49 := Aside0.mk A490
                clear A490
                simp only [Option.some.injEq, Prod.mk.injEq] at H
                obtain ⟨rfl, rfl⟩ := H
                have hcz50_0 : wc.cell? ⟨gb433, 0, none⟩ = some (.int .i64 ((rd_T52 l0 a2).f0)) := (blk_cell BK433.out 0).trans rfl
                have hcz50_1 : wc.cell? ⟨gb433, 1, none⟩ = some (.int .i64 ((rd_T52 l0 a2).f1)) := (blk_cell BK433.out 1).trans rfl
                have hfz50_0 := blk_frozen BK433.out 0
                have hfz50_1 := blk_frozen BK433.out 1
                go_wp2_with (first | ((with_reducible refine gate_callee (f := 45) rfl ?_); refine gl_ (some 109) Try.func45 #[.int .i64 t436, .int .i64 t439] rfl rfl rfl ?_; (with_reducible refine (spec_ruDown.calls t436 t439 t444 _ A48.out).mono ?_); rintro e w' ⟨rfl, ⟨nd, rfl⟩⟩; refine ⟨_, rfl, ?_⟩) | ((with_reducible refine gate_callee (f := 47) rfl ?_); refine gl_ (some 112) Try.func47 #[.int .i64 t444] rfl rfl rfl ?_; (with_reducible refine (spec_l1Abs.calls t444 t445 _ A49.out).mono ?_); rintro e w' ⟨rfl, ⟨nd, rfl⟩⟩; refine ⟨_, rfl, ?_⟩))
                go_ret2
                exact ⟨by first | rfl | (simp [errW_none, errW_some] <;> rfl) | (simp [*, errW_none, errW_some] <;> rfl), hb_ HB⟩
              ·rw [if_neg c45] at H
               have c45b0 : (((rd_T52 l0 a2).f0) == 5) = false := beq_eq_false_iff_ne.mpr c45
               have c45b1 : (((rd_T52 l0 a2).f0) != 5) = true := bne_iff_ne.mpr c45
               by_cases c51 : 3 < ((rd_L3 l1 a2).length : Int)
               ·rw [if_pos c51] at H
                have c51b0 : decide (3 < ((rd_L3 l1 a2).length : Int)) = true := decide_eq_true c51
                have c51b1 : decide (3 < (rd_L3 l1 a2).length) = true := decide_eq_true (by omega)
                clear c51
                replace H := Option.bind_eq_some_iff.mp H
                obtain ⟨t447, A520, H⟩ := H
                replace H : (if t447 = (wrap64 (((rd_T52 l0 a2).f0) - 7)) then (if 2 < ((rd_L3 l1 a2).length : Int) then ((spec_ruValue.f kj25 l0 l1 (rd (rd_L3 l1 a2) 2) l3).bind fun bt449 => (some (bt449.1, bt449.2))) else (none)) else ((spec_ruValue.f kj25 l0 l1 (rd (rd_L3 l1 a2) 3) l3).bind fun bt451 => (some (bt451.1, bt451.2)))) = some (r1, r2) := H
                have A52 := Aside0.mk A520
                clear A520
                by_cases c53 : t447 = (wrap64 (((rd_T52 l0 a2).f0) - 7))
                ·rw [if_pos c53] at H
                 have c53b0 : (t447 == (wrap64 (((rd_T52 l0 a2).f0) - 7))) = true := beq_iff_eq.mpr c53
                 have c53b1 : (t447 != (wrap64 (((rd_T52 l0 a2).f0) - 7))) = false := bne_eq_false_iff_eq.mpr c53
                 clear c53
                 by_cases c54 : 2 < ((rd_L3 l1 a2).length : Int)
                 ·rw [if_pos c54] at H
                  have c54b0 : decide (2 < ((rd_L3 l1 a2).length : Int)) = true := decide_eq_true c54
                  have c54b1 : decide (2 < (rd_L3 l1 a2).length) = true := decide_eq_true (by omega)
                  clear c54
                  replace H := Option.bind_eq_some_iff.mp H
                  obtain ⟨⟨t449, t450⟩, A550, H⟩ := H
                  replace H : (some (t449, t450)) = some (r1, r2) := H
                  have A55 := Aside0.mk A550
                  clear A550
                  simp only [Option.some.injEq, Prod.mk.injEq] at H
                  obtain ⟨rfl, rfl⟩ := H
                  have hcz56_0 : wc.cell? ⟨gb433, 0, none⟩ = some (.int .i64 ((rd_T52 l0 a2).f0)) := (blk_cell BK433.out 0).trans rfl
                  have hcz56_1 : wc.cell? ⟨gb433, 1, none⟩ = some (.int .i64 ((rd_T52 l0 a2).f1)) := (blk_cell BK433.out 1).trans rfl
                  have hfz56_0 := blk_frozen BK433.out 0
                  have hfz56_1 := blk_frozen BK433.out 1
                  have p446 : 0 ≤ (3 : Int) := (by omega)
                  have q446 : 3 < ((rd_L3 l1 a2).length : Int) := of_decide_eq_true (by first | (with_reducible assumption) | assumption)
                  obtain ⟨ad446, e446, hx446_0⟩ := Kd.at_int HR432_0.out 3 p446 q446
                  obtain rfl : ad435 = ad446 := (by injection e446)
                  (try simp only [show (3 : Int).toNat = 3 from rfl, Nat.reduceMul, Nat.reduceEqDiff, Go.Addr.add, ↓reduceIte] at hx446_0)
                  have qi446 : (3 < (rd_L3 l1 a2).length) = True := eq_true (by omega)
                  (try rw [show ((3 : Int)).toNat = 3 from rfl] at hx446_0)
                  replace hx446_0 := (HB.out.cell (World.block_lt_of_cell? w _ hx446_0)).trans hx446_0
                  replace p446 := eq_true p446
                  replace q446 := eq_true q446
                  try go_wp2
                  have n0_ := Aside0.mk (blk_drew BK433.out)
                  have n1_ := Aside0.mk (below_drew1 HB.out)
                  clear BK433
                  clear HB
                  have BK433 := n0_
                  have HB := n1_
                  clear n0_ n1_
                  refine start_ (n := 8) (S := fun w' => w'.cell? ⟨gb433, 0, none⟩ = some (.int .i64 ((rd_T52 l0 a2).f0)) ∧ w'.cell? ⟨gb433, 1, none⟩ = some (.int .i64 ((rd_T52 l0 a2).f1))) (ds := []) #[false, false, false, false, false, false, false, false] (by kernel_rfl) rfl rfl ⟨(blk_cell BK433.out 0).trans rfl, (blk_cell BK433.out 1).trans rfl⟩ (fun hHeld => ?_); refine with_tabW spec_ruValue.tab14 spec_ruValue.bits14 (fun HT_ HW_ => ?_)
                  generalize wc.drew = w57 at BK433 HB hHeld ⊢
                  refine pure_ (i := 0) (N := some 70) (v := ?_) (a' := ?_) #[true, false, false, false, false, false, false, false] rfl rfl (any_of HT_.out (by kernel_rfl)) (fun _ _ _ h => h) (Or.inl ⟨by rfl, ?_⟩) ?_ ?_
                  rotate_left
                  ·intro w'
                   go_simp
                   with_reducible rfl
                  rotate_left
                  ·simp only [Act.put, List.setIfInBounds_toArray, List.set_cons_zero, List.set_cons_succ, i64_w, i32_w]
                   rfl
                  refine pure_ (i := 1) (N := some 71) (v := ?_) (a' := ?_) #[true, true, false, false, false, false, false, false] rfl rfl (any_of HT_.out (by kernel_rfl)) (fun _ _ _ h => h) (Or.inl ⟨by rfl, ?_⟩) ?_ ?_
                  rotate_left
                  ·intro w'
                   go_simp
                   with_reducible rfl
                  rotate_left
                  ·simp only [Act.put, List.setIfInBounds_toArray, List.set_cons_zero, List.set_cons_succ, i64_w, i32_w]
                   rfl
                  refine pure_ (i := 2) (N := some 72) (v := ?_) (a' := ?_) #[true, true, true, false, false, false, false, false] rfl rfl (any_of HT_.out (by kernel_rfl)) (fun _ _ _ h => h) (Or.inl ⟨by rfl, ?_⟩) ?_ ?_
                  rotate_left
                  ·intro w'
                   go_simp
                   with_reducible rfl
                  rotate_left
                  ·simp only [Act.put, List.setIfInBounds_toArray, List.set_cons_zero, List.set_cons_succ, i64_w, i32_w]
                   rfl
                  refine pure_ (i := 4) (N := some 74) (v := ?_) (a' := ?_) #[true, true, true, false, true, false, false, false] rfl rfl (any_of HT_.out (by kernel_rfl)) (fun _ _ _ h => h) (Or.inl ⟨by rfl, ?_⟩) ?_ ?_
                  rotate_left
                  ·intro w'
                   go_simp
                   with_reducible rfl
                  rotate_left
                  ·simp only [Act.put, List.setIfInBounds_toArray, List.set_cons_zero, List.set_cons_succ, i64_w, i32_w]
                   rfl
                  refine take_ (i := 5) (N := some 75) (v := ?_) (a' := ?_) #[true, true, true, false, true, true, false, false] rfl rfl (take_ofW HT_.out HW_.out (by kernel_rfl)) (fun _ _ _ h => h) (Or.inl ⟨by rfl, ?_⟩) hHeld ?_ ?_
                  rotate_left
                  ·rintro w' ⟨s0, s1⟩
                   go_simp
                   with_reducible rfl
                  rotate_left
                  ·simp only [Act.put, List.setIfInBounds_toArray, List.set_cons_zero, List.set_cons_succ, i64_w, i32_w]
                   rfl
                  refine pure_ (i := 6) (N := some 76) (v := ?_) (a' := ?_) #[true, true, true, false, true, true, true, false] rfl rfl (any_of HT_.out (by kernel_rfl)) (fun _ _ _ h => h) (Or.inl ⟨by rfl, ?_⟩) ?_ ?_
                  rotate_left
                  ·intro w'
                   go_simp
                   with_reducible rfl
                  rotate_left
                  ·simp only [Act.put, List.setIfInBounds_toArray, List.set_cons_zero, List.set_cons_succ, i64_w, i32_w]
                   rfl
                  refine one_ (i := 3) (N := some 73) #[true, true, true, true, true, true, true, false] rfl rfl (one_of HT_.out (by kernel_rfl)) (by decide) (fun K hK => ?_)
                  refine goes_ Try.func46 (by kernel_rfl) rfl #[.int .i64 (wrap64 (t436 - t439))] (by rfl) rfl rfl (by (try simp only [List.map_toArray, List.map_cons, List.map_nil]); first | done | rfl | (simp only [List.length_drop, List.length_take]; rfl)) ?_
                  with_reducible refine (spec_l1Sign.calls (wrap64 (t436 - t439)) t447 _ A52.out).mono ?_
                  rintro e w' ⟨rfl, ⟨nd, rfl⟩⟩
                  refine ⟨_, rfl, ?_⟩
                  refine hK.out _ _ ⟨(blk_cell BK433.out 0).trans rfl, (blk_cell BK433.out 1).trans rfl⟩ (fun hHeld => ?_)
                  clear hK K
                  refine norm_ (a' := ?_) ?_ ?_
                  rotate_left
                  ·show Act.put _ (some 73) _ = _
                   simp only [Act.put, List.setIfInBounds_toArray, List.set_cons_zero, List.set_cons_succ, i64_w, i32_w]
                   rfl
                  refine pure_ (i := 7) (N := some 77) (v := ?_) (a' := ?_) #[true, true, true, true, true, true, true, true] rfl rfl (any_of HT_.out (by kernel_rfl)) (fun _ _ _ h => h) (Or.inl ⟨by rfl, ?_⟩) ?_ ?_
                  rotate_left
                  ·intro w'
                   go_simp
                   with_reducible rfl
                  rotate_left
                  ·simp only [Act.put, List.setIfInBounds_toArray, List.set_cons_zero, List.set_cons_succ, i64_w, i32_w]
                   rfl
                  refine done_ (done_of HT_.out (by kernel_rfl)) ?_
                  have p448 : 0 ≤ (2 : Int) := (by omega)
                  have q448 : 2 < ((rd_L3 l1 a2).length : Int) := of_decide_eq_true (by first | (with_reducible assumption) | assumption)
                  obtain ⟨ad448, e448, hx448_0⟩ := Kd.at_int HR432_0.out 2 p448 q448
                  obtain rfl : ad435 = ad448 := (by injection e448)
                  (try simp only [show (2 : Int).toNat = 2 from rfl, Nat.reduceMul, Nat.reduceEqDiff, Go.Addr.add, ↓reduceIte] at hx448_0)
                  have qi448 : (2 < (rd_L3 l1 a2).length) = True := eq_true (by omega)
                  (try rw [show ((2 : Int)).toNat = 2 from rfl] at hx448_0)
                  replace hx448_0 := (HB.out.cell (World.block_lt_of_cell? w _ hx448_0)).trans hx448_0
                  replace p448 := eq_true p448
                  replace q448 := eq_true q448
                  (try clear BK433); (try clear GW433); (try clear GE433)
                  try go_wp2_with (first | ((with_reducible refine gate_callee (f := 33) rfl ?_); refine gl_ (some 85) Try.func33 #[.slice (some ad431) l0.length c0, .slice (some ad432) l1.length c1, .int .i64 (rd (rd_L3 l1 a2) 2), .slice A3 l3.length c3] rfl rfl rfl ?_; (with_reducible refine (ih kj25 (by have := HJ25.out; omega) _ _ l0 _ _ l1 (rd (rd_L3 l1 a2) 2) _ _ l3 t449 t450 _ ?side1 ?side2 ?side3 ?side4 ?side5 ?side6 A55.out).mono ?_); (case side1 => exact Kd.C_below HR0.out (hb_ HB)); (case side2 => exact HC0.out); (case side3 => exact Kd.C_below HR1.out (hb_ HB)); (case side4 => exact HC1.out); (case side5 => exact Kd.C_below HR3.out (hb_ HB)); (case side6 => exact HC3.out); rintro e w58 ⟨rfl, hb⟩; refine ⟨_, rfl, ?_⟩; replace HB := hbs_ HB hb; (try clear hb); (try clear hb2); (try clear hk); (try clear hi)))
                  go_ret2
                  exact ⟨by first | rfl | (simp [errW_none, errW_some] <;> rfl) | (simp [*, errW_none, errW_some] <;> rfl), hb_ HB⟩
                 ·rw [if_neg c54] at H
                  exact absurd H (by simp)
                ·rw [if_neg c53] at H
                 have c53b0 : (t447 == (wrap64 (((rd_T52 l0 a2).f0) - 7))) = false := beq_eq_false_iff_ne.mpr c53
                 have c53b1 : (t447 != (wrap64 (((rd_T52 l0 a2).f0) - 7))) = true := bne_iff_ne.mpr c53
                 replace H := Option.bind_eq_some_iff.mp H
                 obtain ⟨⟨t451, t452⟩, A590, H⟩ := H
                 replace H : (some (t451, t452)) = some (r1, r2) := H
                 have A59 := Aside0.mk A590
                 clear A590
                 simp only [Option.some.injEq, Prod.mk.injEq] at H
                 obtain ⟨rfl, rfl⟩ := H
                 have hcz60_0 : wc.cell? ⟨gb433, 0, none⟩ = some (.int .i64 ((rd_T52 l0 a2).f0)) := (blk_cell BK433.out 0).trans rfl
                 have hcz60_1 : wc.cell? ⟨gb433, 1, none⟩ = some (.int .i64 ((rd_T52 l0 a2).f1)) := (blk_cell BK433.out 1).trans rfl
                 have hfz60_0 := blk_frozen BK433.out 0
                 have hfz60_1 := blk_frozen BK433.out 1
                 have p446 : 0 ≤ (3 : Int) := (by omega)
                 have q446 : 3 < ((rd_L3 l1 a2).length : Int) := of_decide_eq_true (by first | (with_reducible assumption) | assumption)
                 obtain ⟨ad446, e446, hx446_0⟩ := Kd.at_int HR432_0.out 3 p446 q446
                 obtain rfl : ad435 = ad446 := (by injection e446)
                 (try simp only [show (3 : Int).toNat = 3 from rfl, Nat.reduceMul, Nat.reduceEqDiff, Go.Addr.add, ↓reduceIte] at hx446_0)
                 have qi446 : (3 < (rd_L3 l1 a2).length) = True := eq_true (by omega)
                 (try rw [show ((3 : Int)).toNat = 3 from rfl] at hx446_0)
                 replace hx446_0 := (HB.out.cell (World.block_lt_of_cell? w _ hx446_0)).trans hx446_0
                 replace p446 := eq_true p446
                 replace q446 := eq_true q446
                 try go_wp2
                 have n0_ := Aside0.mk (blk_drew BK433.out)
                 have n1_ := Aside0.mk (below_drew1 HB.out)
                 clear BK433
                 clear HB
                 have BK433 := n0_
                 have HB := n1_
                 clear n0_ n1_
                 refine start_ (n := 8) (S := fun w' => w'.cell? ⟨gb433, 0, none⟩ = some (.int .i64 ((rd_T52 l0 a2).f0)) ∧ w'.cell? ⟨gb433, 1, none⟩ = some (.int .i64 ((rd_T52 l0 a2).f1))) (ds := []) #[false, false, false, false, false, false, false, false] (by kernel_rfl) rfl rfl ⟨(blk_cell BK433.out 0).trans rfl, (blk_cell BK433.out 1).trans rfl⟩ (fun hHeld => ?_); refine with_tabW spec_ruValue.tab14 spec_ruValue.bits14 (fun HT_ HW_ => ?_)
                 generalize wc.drew = w61 at BK433 HB hHeld ⊢
                 refine pure_ (i := 0) (N := some 70) (v := ?_) (a' := ?_) #[true, false, false, false, false, false, false, false] rfl rfl (any_of HT_.out (by kernel_rfl)) (fun _ _ _ h => h) (Or.inl ⟨by rfl, ?_⟩) ?_ ?_
                 rotate_left
                 ·intro w'
                  go_simp
                  with_reducible rfl
                 rotate_left
                 ·simp only [Act.put, List.setIfInBounds_toArray, List.set_cons_zero, List.set_cons_succ, i64_w, i32_w]
                  rfl
                 refine pure_ (i := 1) (N := some 71) (v := ?_) (a' := ?_) #[true, true, false, false, false, false, false, false] rfl rfl (any_of HT_.out (by kernel_rfl)) (fun _ _ _ h => h) (Or.inl ⟨by rfl, ?_⟩) ?_ ?_
                 rotate_left
                 ·intro w'
                  go_simp
                  with_reducible rfl
                 rotate_left
                 ·simp only [Act.put, List.setIfInBounds_toArray, List.set_cons_zero, List.set_cons_succ, i64_w, i32_w]
                  rfl
                 refine pure_ (i := 2) (N := some 72) (v := ?_) (a' := ?_) #[true, true, true, false, false, false, false, false] rfl rfl (any_of HT_.out (by kernel_rfl)) (fun _ _ _ h => h) (Or.inl ⟨by rfl, ?_⟩) ?_ ?_
                 rotate_left
                 ·intro w'
                  go_simp
                  with_reducible rfl
                 rotate_left
                 ·simp only [Act.put, List.setIfInBounds_toArray, List.set_cons_zero, List.set_cons_succ, i64_w, i32_w]
                  rfl
                 refine pure_ (i := 4) (N := some 74) (v := ?_) (a' := ?_) #[true, true, true, false, true, false, false, false] rfl rfl (any_of HT_.out (by kernel_rfl)) (fun _ _ _ h => h) (Or.inl ⟨by rfl, ?_⟩) ?_ ?_
                 rotate_left
                 ·intro w'
                  go_simp
                  with_reducible rfl
                 rotate_left
                 ·simp only [Act.put, List.setIfInBounds_toArray, List.set_cons_zero, List.set_cons_succ, i64_w, i32_w]
                  rfl
                 refine take_ (i := 5) (N := some 75) (v := ?_) (a' := ?_) #[true, true, true, false, true, true, false, false] rfl rfl (take_ofW HT_.out HW_.out (by kernel_rfl)) (fun _ _ _ h => h) (Or.inl ⟨by rfl, ?_⟩) hHeld ?_ ?_
                 rotate_left
                 ·rintro w' ⟨s0, s1⟩
                  go_simp
                  with_reducible rfl
                 rotate_left
                 ·simp only [Act.put, List.setIfInBounds_toArray, List.set_cons_zero, List.set_cons_succ, i64_w, i32_w]
                  rfl
                 refine pure_ (i := 6) (N := some 76) (v := ?_) (a' := ?_) #[true, true, true, false, true, true, true, false] rfl rfl (any_of HT_.out (by kernel_rfl)) (fun _ _ _ h => h) (Or.inl ⟨by rfl, ?_⟩) ?_ ?_
                 rotate_left
                 ·intro w'
                  go_simp
                  with_reducible rfl
                 rotate_left
                 ·simp only [Act.put, List.setIfInBounds_toArray, List.set_cons_zero, List.set_cons_succ, i64_w, i32_w]
                  rfl
                 refine one_ (i := 3) (N := some 73) #[true, true, true, true, true, true, true, false] rfl rfl (one_of HT_.out (by kernel_rfl)) (by decide) (fun K hK => ?_)
                 refine goes_ Try.func46 (by kernel_rfl) rfl #[.int .i64 (wrap64 (t436 - t439))] (by rfl) rfl rfl (by (try simp only [List.map_toArray, List.map_cons, List.map_nil]); first | done | rfl | (simp only [List.length_drop, List.length_take]; rfl)) ?_
                 with_reducible refine (spec_l1Sign.calls (wrap64 (t436 - t439)) t447 _ A52.out).mono ?_
                 rintro e w' ⟨rfl, ⟨nd, rfl⟩⟩
                 refine ⟨_, rfl, ?_⟩
                 refine hK.out _ _ ⟨(blk_cell BK433.out 0).trans rfl, (blk_cell BK433.out 1).trans rfl⟩ (fun hHeld => ?_)
                 clear hK K
                 refine norm_ (a' := ?_) ?_ ?_
                 rotate_left
                 ·show Act.put _ (some 73) _ = _
                  simp only [Act.put, List.setIfInBounds_toArray, List.set_cons_zero, List.set_cons_succ, i64_w, i32_w]
                  rfl
                 refine pure_ (i := 7) (N := some 77) (v := ?_) (a' := ?_) #[true, true, true, true, true, true, true, true] rfl rfl (any_of HT_.out (by kernel_rfl)) (fun _ _ _ h => h) (Or.inl ⟨by rfl, ?_⟩) ?_ ?_
                 rotate_left
                 ·intro w'
                  go_simp
                  with_reducible rfl
                 rotate_left
                 ·simp only [Act.put, List.setIfInBounds_toArray, List.set_cons_zero, List.set_cons_succ, i64_w, i32_w]
                  rfl
                 refine done_ (done_of HT_.out (by kernel_rfl)) ?_
                 (try clear BK433); (try clear GW433); (try clear GE433)
                 try go_wp2_with (first | ((with_reducible refine gate_callee (f := 33) rfl ?_); refine gl_ (some 85) Try.func33 #[.slice (some ad431) l0.length c0, .slice (some ad432) l1.length c1, .int .i64 (rd (rd_L3 l1 a2) 3), .slice A3 l3.length c3] rfl rfl rfl ?_; (with_reducible refine (ih kj25 (by have := HJ25.out; omega) _ _ l0 _ _ l1 (rd (rd_L3 l1 a2) 3) _ _ l3 t451 t452 _ ?side1 ?side2 ?side3 ?side4 ?side5 ?side6 A59.out).mono ?_); (case side1 => exact Kd.C_below HR0.out (hb_ HB)); (case side2 => exact HC0.out); (case side3 => exact Kd.C_below HR1.out (hb_ HB)); (case side4 => exact HC1.out); (case side5 => exact Kd.C_below HR3.out (hb_ HB)); (case side6 => exact HC3.out); rintro e w62 ⟨rfl, hb⟩; refine ⟨_, rfl, ?_⟩; replace HB := hbs_ HB hb; (try clear hb); (try clear hb2); (try clear hk); (try clear hi)))
                 go_ret2
                 exact ⟨by first | rfl | (simp [errW_none, errW_some] <;> rfl) | (simp [*, errW_none, errW_some] <;> rfl), hb_ HB⟩
               ·rw [if_neg c51] at H
                exact absurd H (by simp)
       ·rw [if_neg c24] at H
        exact absurd H (by simp)
      ·rw [if_neg c22] at H
       exact absurd H (by simp)
   ·rw [if_neg c7] at H
    exact absurd H (by simp)
  ·rw [if_neg c6] at H
   exact absurd H (by simp)
 ·rw [if_neg c5] at H
  exact absurd H (by simp)

end Go.Proofs.Ytmhalgeoaccchaa.PFnFolded
