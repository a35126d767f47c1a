-- Laid for this claim by wip/tools/print2.sh, a changed copy of the kit's print (wip/tools/patch_print.py): not by print.sh.
import Derived.Test.YtdfjlelbkkaloaaPFnGradesx0
import Derived.Test.YtdfjlelbkkaloaaPFnGradesx3
namespace Go.Proofs.Ytdfjlelbkkaloaa.PFnGrades
open Go.RowKit Go.Proofs.YtdfjlelbkkaloaaW.PrintWords Go.Proofs.YtdfjlelbkkaloaaW.PrintLast Go.Proofs.YtdfjlelbkkaloaaW.PrintMore
attribute [local go_sem] max2_int min2_int max_two min_two max_three min_three max_four min_four   -- for this text's walks alone
set_option linter.unusedVariables false
set_option linter.unusedSimpArgs false

/-! ### impl_SetBlock: function 10 -/
def impl_SetBlock.j0 : Nat → Int → Int → Int → Int → Bool → Int → Int → Int → List Int → List Int → List Int → Option (Int × Int × Int × List Int × List Int × List Int × Bool)
 | 0, _, _, _, _, _, _, _, _, _, _, _ => none
 | k + 1, x1, x2, x3, x4, x26, x187000, x187001, x187002, x187003, x187004, x187005 => if x26 = true then (some (0, 0, 0, ([] : List Int), ([] : List Int), ([] : List Int), false)) else ((impl_copyModel.f x187000 x187001 x187002 x187003 x187004 x187005).bind fun bt189 => (if 0 ≤ x1 then (if x1 < (bt189.2.2.2.1.length : Int) then ((some (bt189.2.2.2.1.set (x1 : Int).toNat x2 : List Int)).bind fun y202 => (if x1 < (bt189.2.2.2.2.1.length : Int) then ((some (bt189.2.2.2.2.1.set (x1 : Int).toNat x3 : List Int)).bind fun y203 => (if x1 < (bt189.2.2.2.2.2.length : Int) then ((some (bt189.2.2.2.2.2.set (x1 : Int).toNat x4 : List Int)).bind fun y204 => ((impl_IsModel.f k bt189.1 bt189.2.1 bt189.2.2.1 y202 y203 y204).bind fun t205 => (if t205 = true then (some (bt189.1, bt189.2.1, bt189.2.2.1, y202, y203, y204, true)) else (some (0, 0, 0, ([] : List Int), ([] : List Int), ([] : List Int), false))))) else (none))) else (none))) else (none)) else (none)))
def impl_SetBlock.f (k : Nat) (a0_0 : Int) (a0_1 : Int) (a0_2 : Int) (l0_3 : List Int) (l0_4 : List Int) (l0_5 : List Int) (a1 : Int) (a2 : Int) (a3 : Int) (a4 : Int) : Option (Int × Int × Int × List Int × List Int × List Int × Bool) := (impl_IsModel.f k a0_0 a0_1 a0_2 l0_3 l0_4 l0_5).bind fun t188 => (if t188 = true then (if a1 < 0 then (impl_SetBlock.j0 k a1 a2 a3 a4 true a0_0 a0_1 a0_2 l0_3 l0_4 l0_5) else (impl_SetBlock.j0 k a1 a2 a3 a4 (decide (a1 ≥ (l0_3.length : Int))) a0_0 a0_1 a0_2 l0_3 l0_4 l0_5)) else (impl_SetBlock.j0 k a1 a2 a3 a4 true a0_0 a0_1 a0_2 l0_3 l0_4 l0_5))
def impl_SetBlock.T4 : Bool × List (List Nat × List Nat) := (true, [([], []), ([0], [0]), ([], []), ([], []), ([3], [3]), ([], []), ([], []), ([6], [6]), ([], []), ([], []), ([], []), ([], []), ([1, 2, 0, 1, 2, 9], [1, 2]), ([12, 9, 0, 1, 2, 9], [9, 12]), ([4, 5, 0, 1, 2, 3, 4, 5, 9, 10, 12, 13], [4, 5]), ([14, 10, 13, 0, 1, 2, 3, 4, 5, 9, 10, 12, 13], [10, 14]), ([7, 8, 0, 1, 2, 3, 4, 5, 6, 7, 8, 9, 10, 11, 12, 13, 14, 15], [7, 8]), ([16, 11, 15, 0, 1, 2, 3, 4, 5, 6, 7, 8, 9, 10, 11, 12, 13, 14, 15], [11, 16])])
def impl_SetBlock.B4 : List Nat := [0, 1, 0, 0, 8, 0, 0, 64, 0, 0, 0, 0, 519, 4615, 13887, 30271, 65535, 131071]
theorem impl_SetBlock.tab4 : rtab .any (opsOf Try.f10 4) = impl_SetBlock.T4 := by kernel_rfl
theorem impl_SetBlock.bits4 : waitsOk impl_SetBlock.T4.2 impl_SetBlock.B4 = true := by kernel_rfl
set_option maxHeartbeats 8000000 in
set_option maxRecDepth 100000 in
theorem impl_SetBlock.calls (k : Nat) (a0_0 : Int) (a0_1 : Int) (a0_2 : Int) (A0_3 : Option Addr) (c0_3 : Nat) (l0_3 : List Int) (A0_4 : Option Addr) (c0_4 : Nat) (l0_4 : List Int) (A0_5 : Option Addr) (c0_5 : Nat) (l0_5 : List Int) (a1 : Int) (a2 : Int) (a3 : Int) (a4 : Int) (r1 : Int) (r2 : Int) (r3 : Int) (r4 : List Int) (r5 : List Int) (r6 : List Int) (r7 : Bool) (w : World) (hr0_3 : Kd.C (Kd.int .i64) w A0_3 l0_3.length l0_3) (hc0_3 : l0_3.length ≤ c0_3) (hr0_4 : Kd.C (Kd.int .i64) w A0_4 l0_4.length l0_4) (hc0_4 : l0_4.length ≤ c0_4) (hr0_5 : Kd.C (Kd.int .i64) w A0_5 l0_5.length l0_5) (hc0_5 : l0_5.length ≤ c0_5) (h : impl_SetBlock.f k a0_0 a0_1 a0_2 l0_3 l0_4 l0_5 a1 a2 a3 a4 = some (r1, r2, r3, r4, r5, r6, r7)) :
  Calls Try.prog 10 #[.agg #[.int .i64 a0_0, .int .i64 a0_1, .int .i64 a0_2, .slice A0_3 l0_3.length c0_3, .slice A0_4 l0_4.length c0_4, .slice A0_5 l0_5.length c0_5], .int .i64 a1, .int .i64 a2, .int .i64 a3, .int .i64 a4] w fun e w' => ∃ v3_ v4_ v5_ : Value, e = .returned (.tuple #[.agg #[.int .i64 r1, .int .i64 r2, .int .i64 r3, v3_, v4_, v5_], .bool r7]) ∧ Kd.R (Kd.int .i64) 3 w' w.heap.size (fun k_ => some k_ ≠ (v4_ : Value).ownBlock ∧ some k_ ≠ (v5_ : Value).ownBlock) v3_ r4 ∧ Kd.R (Kd.int .i64) 3 w' w.heap.size (fun k_ => some k_ ≠ (v3_ : Value).ownBlock ∧ some k_ ≠ (v5_ : Value).ownBlock) v4_ r5 ∧ Kd.R (Kd.int .i64) 3 w' w.heap.size (fun k_ => some k_ ≠ (v3_ : Value).ownBlock ∧ some k_ ≠ (v4_ : Value).ownBlock) v5_ r6 ∧ Below w.heap.size w w' := by
 have hu30 := Try.underlying30
 have HR0_3 := Aside0.mk hr0_3
 have HC0_3 := Aside0.mk hc0_3
 clear hr0_3 hc0_3
 have HR0_4 := Aside0.mk hr0_4
 have HC0_4 := Aside0.mk hc0_4
 clear hr0_4 hc0_4
 have HR0_5 := Aside0.mk hr0_5
 have HC0_5 := Aside0.mk hc0_5
 clear hr0_5 hc0_5
 have HB := Aside0.mk (Below.refl w.heap.size w)
 have H : ((impl_IsModel.f k a0_0 a0_1 a0_2 l0_3 l0_4 l0_5).bind fun t188 => (if t188 = true then (if a1 < 0 then (impl_SetBlock.j0 k a1 a2 a3 a4 true a0_0 a0_1 a0_2 l0_3 l0_4 l0_5) else (impl_SetBlock.j0 k a1 a2 a3 a4 (decide (a1 ≥ (l0_3.length : Int))) a0_0 a0_1 a0_2 l0_3 l0_4 l0_5)) else (impl_SetBlock.j0 k a1 a2 a3 a4 true a0_0 a0_1 a0_2 l0_3 l0_4 l0_5))) = some (r1, r2, r3, r4, r5, r6, r7) := h
 clear h
 have HC6 := Aside0.mk H
 clear H
 go_enter Try.func10, Try.ntmps10
 go_upto_region 1 with (first | ((with_reducible refine gate_dst (N := 5) rfl ?_); (try (refine gate_guard (by rfl) ?_; dsimp only)); refine box_event ?hg (N := 5) ?hd (cs := #[.int .i64 a0_0, .int .i64 a0_1, .int .i64 a0_2, .slice A0_3 l0_3.length c0_3, .slice A0_4 l0_4.length c0_4, .slice A0_5 l0_5.length c0_5]) (t := 30) ?hr ?_; (case hd => rfl); (case hg => rfl); (case hr => first | (go_simp; done) | (go_simp; rfl)); intro gb186 hg w7 hbox hb; have BK186 := Aside0.mk (hbox); have GW186 := gs_ hg HB; have GE186 := gs_ hg HB; replace HB := hbs_ HB hb; clear hb hbox hg) | ((with_reducible refine gate_dst (N := 10) rfl ?_); (try (refine gate_guard (by rfl) ?_; dsimp only)); refine box_event ?hg (N := 10) ?hd (cs := #[.int .i64 0, .int .i64 0, .int .i64 0, .slice none 0 0, .slice none 0 0, .slice none 0 0]) (t := 30) ?hr ?_; (case hd => rfl); (case hg => rfl); (case hr => first | (go_simp; done) | (go_simp; rfl)); intro gb187 hg w8 hbox hb; have BK187 := Aside0.mk (hbox); have GW187 := gs_ hg HB; have GE187 := gs_ hg HB; have NB186_187 := nl_ hg BK186; have NB187_186 := ng_ hg BK186; replace BK186 := kb_ BK186 hb; replace HB := hbs_ HB hb; clear hb hbox hg))
 (try simp only [Act.put, List.setIfInBounds_toArray, List.set_cons_zero, List.set_cons_succ])
 go_cut [26] (fun v26 wc => ∃ (kq : Nat) (x26_5 : Bool), v26 = .bool x26_5 ∧ Aside0 (impl_SetBlock.j0 kq a1 a2 a3 a4 x26_5 a0_0 a0_1 a0_2 l0_3 l0_4 l0_5 = some (r1, r2, r3, r4, r5, r6, r7)) ∧ Aside0 (kq ≤ k) ∧ Aside0 (wc.heap[gb186]? = some (.cells #[.int .i64 a0_0, .int .i64 a0_1, .int .i64 a0_2, (.slice A0_3 l0_3.length c0_3), (.slice A0_4 l0_4.length c0_4), (.slice A0_5 l0_5.length c0_5)] 30 (0, 0))) ∧ Aside0 (wc.heap[gb187]? = some (.cells #[.int .i64 0, .int .i64 0, .int .i64 0, (.slice none 0 0), (.slice none 0 0), (.slice none 0 0)] 30 (0, 0))) ∧ Aside0 (Below w.heap.size w wc))
 case first =>
  have H := HC6.out
  clear HC6
  replace H := Option.bind_eq_some_iff.mp H
  obtain ⟨t188, A90, H⟩ := H
  replace H : (if t188 = true then (if a1 < 0 then (impl_SetBlock.j0 k a1 a2 a3 a4 true a0_0 a0_1 a0_2 l0_3 l0_4 l0_5) else (impl_SetBlock.j0 k a1 a2 a3 a4 (decide (a1 ≥ (l0_3.length : Int))) a0_0 a0_1 a0_2 l0_3 l0_4 l0_5)) else (impl_SetBlock.j0 k a1 a2 a3 a4 true a0_0 a0_1 a0_2 l0_3 l0_4 l0_5)) = some (r1, r2, r3, r4, r5, r6, r7) := H
  have A9 := Aside0.mk A90
  clear A90
  by_cases c10 : t188 = true
  ·subst c10
   have H1 : (if a1 < 0 then (impl_SetBlock.j0 k a1 a2 a3 a4 true a0_0 a0_1 a0_2 l0_3 l0_4 l0_5) else (impl_SetBlock.j0 k a1 a2 a3 a4 (decide (a1 ≥ (l0_3.length : Int))) a0_0 a0_1 a0_2 l0_3 l0_4 l0_5)) = some (r1, r2, r3, r4, r5, r6, r7) := by rw [if_pos rfl] at H; exact H
   clear H
   have H := H1
   clear H1
   by_cases c11 : a1 < 0
   ·rw [if_pos c11] at H
    have c11b0 : decide (a1 < 0) = true := decide_eq_true c11
    clear c11
    (first | rw [c11b0] | (simp only [i64_w, i32_w]; rw [c11b0]) | skip)
    have H' := Aside0.mk H
    clear H
    have hnb12 := NB186_187.out
    have hnc12 := NB187_186.out
    have hcz13_0 : w8.cell? ⟨gb186, 0, none⟩ = some (.int .i64 a0_0) := (blk_cell BK186.out 0).trans rfl
    have hcz13_1 : w8.cell? ⟨gb186, 1, none⟩ = some (.int .i64 a0_1) := (blk_cell BK186.out 1).trans rfl
    have hcz13_2 : w8.cell? ⟨gb186, 2, none⟩ = some (.int .i64 a0_2) := (blk_cell BK186.out 2).trans rfl
    have hcz13_3 : w8.cell? ⟨gb186, 3, none⟩ = some (.slice A0_3 l0_3.length c0_3) := (blk_cell BK186.out 3).trans rfl
    have hcz13_4 : w8.cell? ⟨gb186, 4, none⟩ = some (.slice A0_4 l0_4.length c0_4) := (blk_cell BK186.out 4).trans rfl
    have hcz13_5 : w8.cell? ⟨gb186, 5, none⟩ = some (.slice A0_5 l0_5.length c0_5) := (blk_cell BK186.out 5).trans rfl
    have hfz13_0 := blk_frozen BK186.out 0
    have hfz13_1 := blk_frozen BK186.out 1
    have hfz13_2 := blk_frozen BK186.out 2
    have hfz13_3 := blk_frozen BK186.out 3
    have hfz13_4 := blk_frozen BK186.out 4
    have hfz13_5 := blk_frozen BK186.out 5
    go_wp2_with (first | ((with_reducible refine gate_callee (f := 38) rfl ?_); refine gl_ (some 14) Try.func38 #[.agg #[.int .i64 a0_0, .int .i64 a0_1, .int .i64 a0_2, .slice A0_3 l0_3.length c0_3, .slice A0_4 l0_4.length c0_4, .slice A0_5 l0_5.length c0_5]] rfl rfl rfl ?_; (with_reducible refine (impl_IsModel.calls k a0_0 a0_1 a0_2 _ _ l0_3 _ _ l0_4 _ _ l0_5 true _ ?side1 ?side2 ?side3 ?side4 ?side5 ?side6 A9.out).mono ?_); (case side1 => exact Kd.C_w HR0_3 HB); (case side2 => exact HC0_3.out); (case side3 => exact Kd.C_w HR0_4 HB); (case side4 => exact HC0_4.out); (case side5 => exact Kd.C_w HR0_5 HB); (case side6 => exact HC0_5.out); rintro e w14 ⟨rfl, hb⟩; refine ⟨_, rfl, ?_⟩; replace BK186 := kb_ BK186 hb; replace BK187 := kb_ BK187 hb; replace HB := hbs_ HB hb; (try clear hb); (try clear hb2); (try clear hk); (try clear hi)))
    go_meet
    case rel => exact ⟨_, (true), (by first | rfl | (simp; done) | (simp [*]; done)), H', ⟨by first | omega | exact Nat.le_refl _⟩, ⟨kp_ BK186⟩, ⟨kp_ BK187⟩, ⟨hb_ HB⟩⟩
   ·rw [if_neg c11] at H
    have c11b0 : decide (a1 < 0) = false := decide_eq_false c11
    clear c11
    (first | rw [c11b0] | (simp only [i64_w, i32_w]; rw [c11b0]) | skip)
    have H' := Aside0.mk H
    clear H
    have hnb15 := NB186_187.out
    have hnc15 := NB187_186.out
    have hcz16_0 : w8.cell? ⟨gb186, 0, none⟩ = some (.int .i64 a0_0) := (blk_cell BK186.out 0).trans rfl
    have hcz16_1 : w8.cell? ⟨gb186, 1, none⟩ = some (.int .i64 a0_1) := (blk_cell BK186.out 1).trans rfl
    have hcz16_2 : w8.cell? ⟨gb186, 2, none⟩ = some (.int .i64 a0_2) := (blk_cell BK186.out 2).trans rfl
    have hcz16_3 : w8.cell? ⟨gb186, 3, none⟩ = some (.slice A0_3 l0_3.length c0_3) := (blk_cell BK186.out 3).trans rfl
    have hcz16_4 : w8.cell? ⟨gb186, 4, none⟩ = some (.slice A0_4 l0_4.length c0_4) := (blk_cell BK186.out 4).trans rfl
    have hcz16_5 : w8.cell? ⟨gb186, 5, none⟩ = some (.slice A0_5 l0_5.length c0_5) := (blk_cell BK186.out 5).trans rfl
    have hfz16_0 := blk_frozen BK186.out 0
    have hfz16_1 := blk_frozen BK186.out 1
    have hfz16_2 := blk_frozen BK186.out 2
    have hfz16_3 := blk_frozen BK186.out 3
    have hfz16_4 := blk_frozen BK186.out 4
    have hfz16_5 := blk_frozen BK186.out 5
    go_wp2_with (first | ((with_reducible refine gate_callee (f := 38) rfl ?_); refine gl_ (some 14) Try.func38 #[.agg #[.int .i64 a0_0, .int .i64 a0_1, .int .i64 a0_2, .slice A0_3 l0_3.length c0_3, .slice A0_4 l0_4.length c0_4, .slice A0_5 l0_5.length c0_5]] rfl rfl rfl ?_; (with_reducible refine (impl_IsModel.calls k a0_0 a0_1 a0_2 _ _ l0_3 _ _ l0_4 _ _ l0_5 true _ ?side1 ?side2 ?side3 ?side4 ?side5 ?side6 A9.out).mono ?_); (case side1 => exact Kd.C_w HR0_3 HB); (case side2 => exact HC0_3.out); (case side3 => exact Kd.C_w HR0_4 HB); (case side4 => exact HC0_4.out); (case side5 => exact Kd.C_w HR0_5 HB); (case side6 => exact HC0_5.out); rintro e w17 ⟨rfl, hb⟩; refine ⟨_, rfl, ?_⟩; replace BK186 := kb_ BK186 hb; replace BK187 := kb_ BK187 hb; replace HB := hbs_ HB hb; (try clear hb); (try clear hb2); (try clear hk); (try clear hi); obtain ⟨hcz18_0, hcz18_1, hcz18_2, hcz18_3, hcz18_4, hcz18_5, hfz18_0, hfz18_1, hfz18_2, hfz18_3, hfz18_4, hfz18_5⟩ := bx6 BK186))
    go_meet
    case rel => exact ⟨_, (decide (a1 ≥ (l0_3.length : Int))), (by first | rfl | (simp; done) | (simp [*]; done)), H', ⟨by first | omega | exact Nat.le_refl _⟩, ⟨kp_ BK186⟩, ⟨kp_ BK187⟩, ⟨hb_ HB⟩⟩
  ·replace c10 := Bool.eq_false_iff.mpr c10
   subst c10
   have H1 : (impl_SetBlock.j0 k a1 a2 a3 a4 true a0_0 a0_1 a0_2 l0_3 l0_4 l0_5) = some (r1, r2, r3, r4, r5, r6, r7) := by rw [if_neg (show ¬ (false = true) by decide)] at H; exact H
   clear H
   have H := H1
   clear H1
   have H' := Aside0.mk H
   clear H
   have hnb19 := NB186_187.out
   have hnc19 := NB187_186.out
   have hcz20_0 : w8.cell? ⟨gb186, 0, none⟩ = some (.int .i64 a0_0) := (blk_cell BK186.out 0).trans rfl
   have hcz20_1 : w8.cell? ⟨gb186, 1, none⟩ = some (.int .i64 a0_1) := (blk_cell BK186.out 1).trans rfl
   have hcz20_2 : w8.cell? ⟨gb186, 2, none⟩ = some (.int .i64 a0_2) := (blk_cell BK186.out 2).trans rfl
   have hcz20_3 : w8.cell? ⟨gb186, 3, none⟩ = some (.slice A0_3 l0_3.length c0_3) := (blk_cell BK186.out 3).trans rfl
   have hcz20_4 : w8.cell? ⟨gb186, 4, none⟩ = some (.slice A0_4 l0_4.length c0_4) := (blk_cell BK186.out 4).trans rfl
   have hcz20_5 : w8.cell? ⟨gb186, 5, none⟩ = some (.slice A0_5 l0_5.length c0_5) := (blk_cell BK186.out 5).trans rfl
   have hfz20_0 := blk_frozen BK186.out 0
   have hfz20_1 := blk_frozen BK186.out 1
   have hfz20_2 := blk_frozen BK186.out 2
   have hfz20_3 := blk_frozen BK186.out 3
   have hfz20_4 := blk_frozen BK186.out 4
   have hfz20_5 := blk_frozen BK186.out 5
   go_wp2_with (first | ((with_reducible refine gate_callee (f := 38) rfl ?_); refine gl_ (some 14) Try.func38 #[.agg #[.int .i64 a0_0, .int .i64 a0_1, .int .i64 a0_2, .slice A0_3 l0_3.length c0_3, .slice A0_4 l0_4.length c0_4, .slice A0_5 l0_5.length c0_5]] rfl rfl rfl ?_; (with_reducible refine (impl_IsModel.calls k a0_0 a0_1 a0_2 _ _ l0_3 _ _ l0_4 _ _ l0_5 false _ ?side1 ?side2 ?side3 ?side4 ?side5 ?side6 A9.out).mono ?_); (case side1 => exact Kd.C_w HR0_3 HB); (case side2 => exact HC0_3.out); (case side3 => exact Kd.C_w HR0_4 HB); (case side4 => exact HC0_4.out); (case side5 => exact Kd.C_w HR0_5 HB); (case side6 => exact HC0_5.out); rintro e w21 ⟨rfl, hb⟩; refine ⟨_, rfl, ?_⟩; replace BK186 := kb_ BK186 hb; replace BK187 := kb_ BK187 hb; replace HB := hbs_ HB hb; (try clear hb); (try clear hb2); (try clear hk); (try clear hi)))
   go_meet
   case rel => exact ⟨_, (true), (by first | rfl | (simp; done) | (simp [*]; done)), H', ⟨by first | omega | exact Nat.le_refl _⟩, ⟨kp_ BK186⟩, ⟨kp_ BK187⟩, ⟨hb_ HB⟩⟩
 case rest =>
  clear HC6
  (try clear c1); (try clear p2); (try clear c3); (try clear c10); (try clear c11); (try clear c11b0); (try clear c12); (try clear c15); (try clear c19)
  obtain ⟨kq, x26_5, rfl, HA, HJ5, BK186, BK187, HB⟩ := hcut
  cases kq with
  | zero => exact absurd HA.out (by simp [impl_SetBlock.j0])
  | succ kj5 =>
   have H := HA.out
   clear HA
   simp only [impl_SetBlock.j0] at H
   by_cases c22 : x26_5 = true
   ·subst c22
    have H1 : (some (0, 0, 0, ([] : List Int), ([] : List Int), ([] : List Int), false)) = some (r1, r2, r3, r4, r5, r6, r7) := by rw [if_pos rfl] at H; exact H
    clear H
    have H := H1
    clear H1
    simp only [Option.some.injEq, Prod.mk.injEq] at H
    obtain ⟨rfl, rfl, rfl, rfl, rfl, rfl, rfl⟩ := H
    have hnb23 := NB187_186.out
    have hnc23 := NB186_187.out
    have hcz24_0 : wc.cell? ⟨gb187, 0, none⟩ = some (.int .i64 0) := (blk_cell BK187.out 0).trans rfl
    have hcz24_1 : wc.cell? ⟨gb187, 1, none⟩ = some (.int .i64 0) := (blk_cell BK187.out 1).trans rfl
    have hcz24_2 : wc.cell? ⟨gb187, 2, none⟩ = some (.int .i64 0) := (blk_cell BK187.out 2).trans rfl
    have hcz24_3 : wc.cell? ⟨gb187, 3, none⟩ = some (.slice none 0 0) := (blk_cell BK187.out 3).trans rfl
    have hcz24_4 : wc.cell? ⟨gb187, 4, none⟩ = some (.slice none 0 0) := (blk_cell BK187.out 4).trans rfl
    have hcz24_5 : wc.cell? ⟨gb187, 5, none⟩ = some (.slice none 0 0) := (blk_cell BK187.out 5).trans rfl
    have hfz24_0 := blk_frozen BK187.out 0
    have hfz24_1 := blk_frozen BK187.out 1
    have hfz24_2 := blk_frozen BK187.out 2
    have hfz24_3 := blk_frozen BK187.out 3
    have hfz24_4 := blk_frozen BK187.out 4
    have hfz24_5 := blk_frozen BK187.out 5
    go_wp2
    refine bodyPost_ret (results_ct rfl _ _ gb187 30 #[.int .i64 0, .int .i64 0, .int .i64 0, .slice none 0 0, .slice none 0 0, .slice none 0 0] (0, 0) _ rfl (kpq_ (kputs BK187 [(0, _), (1, _), (2, _), (3, _), (4, _), (5, _)])) Try.underlying30 rfl (by kernel_rfl)) rfl ?_
    exact ⟨_, _, _, by first | rfl | (simp [errW_none, errW_some] <;> rfl) | (simp [*, errW_none, errW_some] <;> rfl), by first | exact Kd.R_nil _ _ _ _ _ | exact Kd.N_nil _ _ _ _ _ | exact Kd.V_nil _ _ _ _ _ | exact Kd.Q_nil _ _ _ _ _ | exact Kd.S_nil _ _ _ _ _, by first | exact Kd.R_nil _ _ _ _ _ | exact Kd.N_nil _ _ _ _ _ | exact Kd.V_nil _ _ _ _ _ | exact Kd.Q_nil _ _ _ _ _ | exact Kd.S_nil _ _ _ _ _, by first | exact Kd.R_nil _ _ _ _ _ | exact Kd.N_nil _ _ _ _ _ | exact Kd.V_nil _ _ _ _ _ | exact Kd.Q_nil _ _ _ _ _ | exact Kd.S_nil _ _ _ _ _, hb_ HB⟩
   ·replace c22 := Bool.eq_false_iff.mpr c22
    subst c22
    have H1 : ((impl_copyModel.f a0_0 a0_1 a0_2 l0_3 l0_4 l0_5).bind fun bt189 => (if 0 ≤ a1 then (if a1 < (bt189.2.2.2.1.length : Int) then ((some (bt189.2.2.2.1.set (a1 : Int).toNat a2 : List Int)).bind fun y202 => (if a1 < (bt189.2.2.2.2.1.length : Int) then ((some (bt189.2.2.2.2.1.set (a1 : Int).toNat a3 : List Int)).bind fun y203 => (if a1 < (bt189.2.2.2.2.2.length : Int) then ((some (bt189.2.2.2.2.2.set (a1 : Int).toNat a4 : List Int)).bind fun y204 => ((impl_IsModel.f kj5 bt189.1 bt189.2.1 bt189.2.2.1 y202 y203 y204).bind fun t205 => (if t205 = true then (some (bt189.1, bt189.2.1, bt189.2.2.1, y202, y203, y204, true)) else (some (0, 0, 0, ([] : List Int), ([] : List Int), ([] : List Int), false))))) else (none))) else (none))) else (none)) else (none))) = some (r1, r2, r3, r4, r5, r6, r7) := by rw [if_neg (show ¬ (false = true) by decide)] at H; exact H
    clear H
    have H := H1
    clear H1
    replace H := Option.bind_eq_some_iff.mp H
    obtain ⟨⟨t189, t190, t191, t192, t195, t198⟩, A250, H⟩ := H
    replace H : (if 0 ≤ a1 then (if a1 < (t192.length : Int) then ((some (t192.set (a1 : Int).toNat a2 : List Int)).bind fun y202 => (if a1 < (t195.length : Int) then ((some (t195.set (a1 : Int).toNat a3 : List Int)).bind fun y203 => (if a1 < (t198.length : Int) then ((some (t198.set (a1 : Int).toNat a4 : List Int)).bind fun y204 => ((impl_IsModel.f kj5 t189 t190 t191 y202 y203 y204).bind fun t205 => (if t205 = true then (some (t189, t190, t191, y202, y203, y204, true)) else (some (0, 0, 0, ([] : List Int), ([] : List Int), ([] : List Int), false))))) else (none))) else (none))) else (none)) else (none)) = some (r1, r2, r3, r4, r5, r6, r7) := H
    have A25 := Aside0.mk A250
    clear A250
    by_cases c26 : 0 ≤ a1
    ·rw [if_pos c26] at H
     have c26b0 : decide (0 ≤ a1) = true := decide_eq_true c26
     clear c26
     by_cases c27 : a1 < (t192.length : Int)
     ·rw [if_pos c27] at H
      have c27b0 : decide (a1 < (t192.length : Int)) = true := decide_eq_true c27
      clear c27
      obtain ⟨y202, hy202⟩ : ∃ y_ : List Int, y_ = (t192.set (a1 : Int).toNat a2) := ⟨_, rfl⟩
      replace H : (if a1 < (t195.length : Int) then ((some (t195.set (a1 : Int).toNat a3 : List Int)).bind fun y203 => (if a1 < (t198.length : Int) then ((some (t198.set (a1 : Int).toNat a4 : List Int)).bind fun y204 => ((impl_IsModel.f kj5 t189 t190 t191 y202 y203 y204).bind fun t205 => (if t205 = true then (some (t189, t190, t191, y202, y203, y204, true)) else (some (0, 0, 0, ([] : List Int), ([] : List Int), ([] : List Int), false))))) else (none))) else (none)) = some (r1, r2, r3, r4, r5, r6, r7) := by first | (rw [hy202]; with_reducible exact H) | (have H2_ := (Option.bind_some _ _).symm.trans H; rw [hy202]; with_reducible exact H2_) | (have H2_ := (Option.bind_some _ _).symm.trans H; with_reducible exact H2_) | with_reducible exact H | (rw [hy202]; exact H) | exact H
      have Ny202 := Aside0.mk hy202
      clear hy202
      by_cases c29 : a1 < (t195.length : Int)
      ·rw [if_pos c29] at H
       have c29b0 : decide (a1 < (t195.length : Int)) = true := decide_eq_true c29
       clear c29
       obtain ⟨y203, hy203⟩ : ∃ y_ : List Int, y_ = (t195.set (a1 : Int).toNat a3) := ⟨_, rfl⟩
       replace H : (if a1 < (t198.length : Int) then ((some (t198.set (a1 : Int).toNat a4 : List Int)).bind fun y204 => ((impl_IsModel.f kj5 t189 t190 t191 y202 y203 y204).bind fun t205 => (if t205 = true then (some (t189, t190, t191, y202, y203, y204, true)) else (some (0, 0, 0, ([] : List Int), ([] : List Int), ([] : List Int), false))))) else (none)) = some (r1, r2, r3, r4, r5, r6, r7) := by first | (rw [hy203]; with_reducible exact H) | (have H2_ := (Option.bind_some _ _).symm.trans H; rw [hy203]; with_reducible exact H2_) | (have H2_ := (Option.bind_some _ _).symm.trans H; with_reducible exact H2_) | with_reducible exact H | (rw [hy203]; exact H) | exact H
       have Ny203 := Aside0.mk hy203
       clear hy203
       by_cases c31 : a1 < (t198.length : Int)
       ·rw [if_pos c31] at H
        have c31b0 : decide (a1 < (t198.length : Int)) = true := decide_eq_true c31
        clear c31
        obtain ⟨y204, hy204⟩ : ∃ y_ : List Int, y_ = (t198.set (a1 : Int).toNat a4) := ⟨_, rfl⟩
        replace H : ((impl_IsModel.f kj5 t189 t190 t191 y202 y203 y204).bind fun t205 => (if t205 = true then (some (t189, t190, t191, y202, y203, y204, true)) else (some (0, 0, 0, ([] : List Int), ([] : List Int), ([] : List Int), false)))) = some (r1, r2, r3, r4, r5, r6, r7) := by first | (rw [hy204]; with_reducible exact H) | (have H2_ := (Option.bind_some _ _).symm.trans H; rw [hy204]; with_reducible exact H2_) | (have H2_ := (Option.bind_some _ _).symm.trans H; with_reducible exact H2_) | with_reducible exact H | (rw [hy204]; exact H) | exact H
        have Ny204 := Aside0.mk hy204
        clear hy204
        replace H := Option.bind_eq_some_iff.mp H
        obtain ⟨t205, A330, H⟩ := H
        replace H : (if t205 = true then (some (t189, t190, t191, y202, y203, y204, true)) else (some (0, 0, 0, ([] : List Int), ([] : List Int), ([] : List Int), false))) = some (r1, r2, r3, r4, r5, r6, r7) := H
        have A33 := Aside0.mk A330
        clear A330
        by_cases c34 : t205 = true
        ·subst c34
         have H1 : (some (t189, t190, t191, y202, y203, y204, true)) = some (r1, r2, r3, r4, r5, r6, r7) := by rw [if_pos rfl] at H; exact H
         clear H
         have H := H1
         clear H1
         simp only [Option.some.injEq, Prod.mk.injEq] at H
         obtain ⟨rfl, rfl, rfl, rfl, rfl, rfl, rfl⟩ := H
         have hnb35 := NB186_187.out
         have hnc35 := NB187_186.out
         have hcz36_0 : wc.cell? ⟨gb186, 0, none⟩ = some (.int .i64 a0_0) := (blk_cell BK186.out 0).trans rfl
         have hcz36_1 : wc.cell? ⟨gb186, 1, none⟩ = some (.int .i64 a0_1) := (blk_cell BK186.out 1).trans rfl
         have hcz36_2 : wc.cell? ⟨gb186, 2, none⟩ = some (.int .i64 a0_2) := (blk_cell BK186.out 2).trans rfl
         have hcz36_3 : wc.cell? ⟨gb186, 3, none⟩ = some (.slice A0_3 l0_3.length c0_3) := (blk_cell BK186.out 3).trans rfl
         have hcz36_4 : wc.cell? ⟨gb186, 4, none⟩ = some (.slice A0_4 l0_4.length c0_4) := (blk_cell BK186.out 4).trans rfl
         have hcz36_5 : wc.cell? ⟨gb186, 5, none⟩ = some (.slice A0_5 l0_5.length c0_5) := (blk_cell BK186.out 5).trans rfl
         have hfz36_0 := blk_frozen BK186.out 0
         have hfz36_1 := blk_frozen BK186.out 1
         have hfz36_2 := blk_frozen BK186.out 2
         have hfz36_3 := blk_frozen BK186.out 3
         have hfz36_4 := blk_frozen BK186.out 4
         have hfz36_5 := blk_frozen BK186.out 5
         try go_wp2_with (first | ((with_reducible refine gate_callee (f := 44) rfl ?_); refine gl_ (some 29) Try.func44 #[.agg #[.int .i64 a0_0, .int .i64 a0_1, .int .i64 a0_2, .slice A0_3 l0_3.length c0_3, .slice A0_4 l0_4.length c0_4, .slice A0_5 l0_5.length c0_5]] rfl rfl rfl ?_; (with_reducible refine (impl_copyModel.calls a0_0 a0_1 a0_2 _ _ l0_3 _ _ l0_4 _ _ l0_5 t189 t190 t191 t192 t195 t198 _ ?side1 ?side2 ?side3 ?side4 ?side5 ?side6 A25.out).mono ?_); (case side1 => exact Kd.C_w HR0_3 HB); (case side2 => exact HC0_3.out); (case side3 => exact Kd.C_w HR0_4 HB); (case side4 => exact HC0_4.out); (case side5 => exact Kd.C_w HR0_5 HB); (case side6 => exact HC0_5.out); rintro e w37 ⟨v193, v196, v199, rfl, ho0, ho1, ho2, hb⟩; refine ⟨_, rfl, ?_⟩; have HO194 := Kd.R_lo ho0 HB; have HO197 := Kd.R_lo ho1 HB; have HO200 := Kd.R_lo ho2 HB; replace BK186 := kb_ BK186 hb; replace BK187 := kb_ BK187 hb; replace HB := hbs_ HB hb; (try clear hb); (try clear hb2); (try clear hk); (try clear hi); (try clear ho0); (try clear ho1); (try clear ho2); try clear BK186; try clear GW186; try clear GE186; try clear NB186_187; try clear NB187_186) | ((with_reducible refine gate_dst (N := 12) rfl ?_); (try (refine gate_guard (by rfl) ?_; dsimp only)); refine box_event ?hg (N := 12) ?hd (cs := #[.int .i64 0, .int .i64 0, .int .i64 0, .slice none 0 0, .slice none 0 0, .slice none 0 0]) (t := 30) ?hr ?_; (case hd => rfl); (case hg => rfl); (case hr => first | (go_simp; done) | (go_simp; rfl)); intro gb201 hg w38 hbox hb; have BK201 := Aside0.mk (hbox); have GW201 := gs_ hg HB; have GE201 := gs_ hg HB; have NB187_201 := nl_ hg BK187; have NB201_187 := ng_ hg BK187; replace HO194 := Kd.R_b HO194 hb; replace HO197 := Kd.R_b HO197 hb; replace HO200 := Kd.R_b HO200 hb; replace BK187 := kb_ BK187 hb; replace HB := hbs_ HB hb; clear hb hbox hg; have hnb39 := NB201_187.out; have hnc39 := NB187_201.out; obtain ⟨hcz40_0, hcz40_1, hcz40_2, hcz40_3, hcz40_4, hcz40_5, hfz40_0, hfz40_1, hfz40_2, hfz40_3, hfz40_4, hfz40_5⟩ := bx6 BK201; obtain ⟨Ao41, co41, eo41⟩ := Kd.R_slice HO194.out; subst eo41; obtain ⟨Ao42, co42, eo42⟩ := Kd.R_slice HO197.out; subst eo42; obtain ⟨Ao43, co43, eo43⟩ := Kd.R_slice HO200.out; subst eo43))
         have n0_ : Aside0 (Kd.R (Kd.int .i64) 3 ((((((w38.setCell ⟨gb201, 0, none⟩ (.int .i64 t189)).setCell ⟨gb201, 1, none⟩ (.int .i64 t190)).setCell ⟨gb201, 2, none⟩ (.int .i64 t191)).setCell ⟨gb201, 3, none⟩ (.slice Ao41 t192.length co41)).setCell ⟨gb201, 4, none⟩ (.slice Ao42 t195.length co42)).setCell ⟨gb201, 5, none⟩ (.slice Ao43 t198.length co43)) w.heap.size (fun k_ => some k_ ≠ (.slice Ao42 t195.length co42 : Value).ownBlock ∧ some k_ ≠ (.slice Ao43 t198.length co43 : Value).ownBlock) (.slice Ao41 t192.length co41) t192) := ⟨Kd.R_mono (Kd.R_s HO194 BK201) (fun _ hk => ⟨hk.1, hk.2⟩)⟩
         have n1_ : Aside0 (Kd.R (Kd.int .i64) 3 ((((((w38.setCell ⟨gb201, 0, none⟩ (.int .i64 t189)).setCell ⟨gb201, 1, none⟩ (.int .i64 t190)).setCell ⟨gb201, 2, none⟩ (.int .i64 t191)).setCell ⟨gb201, 3, none⟩ (.slice Ao41 t192.length co41)).setCell ⟨gb201, 4, none⟩ (.slice Ao42 t195.length co42)).setCell ⟨gb201, 5, none⟩ (.slice Ao43 t198.length co43)) w.heap.size (fun k_ => some k_ ≠ (.slice Ao41 t192.length co41 : Value).ownBlock ∧ some k_ ≠ (.slice Ao43 t198.length co43 : Value).ownBlock) (.slice Ao42 t195.length co42) t195) := ⟨Kd.R_mono (Kd.R_s HO197 BK201) (fun _ hk => ⟨hk.1, hk.2⟩)⟩
         have n2_ : Aside0 (Kd.R (Kd.int .i64) 3 ((((((w38.setCell ⟨gb201, 0, none⟩ (.int .i64 t189)).setCell ⟨gb201, 1, none⟩ (.int .i64 t190)).setCell ⟨gb201, 2, none⟩ (.int .i64 t191)).setCell ⟨gb201, 3, none⟩ (.slice Ao41 t192.length co41)).setCell ⟨gb201, 4, none⟩ (.slice Ao42 t195.length co42)).setCell ⟨gb201, 5, none⟩ (.slice Ao43 t198.length co43)) w.heap.size (fun k_ => some k_ ≠ (.slice Ao41 t192.length co41 : Value).ownBlock ∧ some k_ ≠ (.slice Ao42 t195.length co42 : Value).ownBlock) (.slice Ao43 t198.length co43) t198) := ⟨Kd.R_mono (Kd.R_s HO200 BK201) (fun _ hk => ⟨hk.1, hk.2⟩)⟩
         have n3_ : Aside0 (((((((w38.setCell ⟨gb201, 0, none⟩ (.int .i64 t189)).setCell ⟨gb201, 1, none⟩ (.int .i64 t190)).setCell ⟨gb201, 2, none⟩ (.int .i64 t191)).setCell ⟨gb201, 3, none⟩ (.slice Ao41 t192.length co41)).setCell ⟨gb201, 4, none⟩ (.slice Ao42 t195.length co42)).setCell ⟨gb201, 5, none⟩ (.slice Ao43 t198.length co43)).heap[gb187]? = some (.cells #[.int .i64 0, .int .i64 0, .int .i64 0, .slice none 0 0, .slice none 0 0, .slice none 0 0] 30 (0, 0))) := ⟨kf_ BK187 NB187_201⟩
         have n4_ : Aside0 (((((((w38.setCell ⟨gb201, 0, none⟩ (.int .i64 t189)).setCell ⟨gb201, 1, none⟩ (.int .i64 t190)).setCell ⟨gb201, 2, none⟩ (.int .i64 t191)).setCell ⟨gb201, 3, none⟩ (.slice Ao41 t192.length co41)).setCell ⟨gb201, 4, none⟩ (.slice Ao42 t195.length co42)).setCell ⟨gb201, 5, none⟩ (.slice Ao43 t198.length co43)).heap[gb201]? = some (.cells #[.int .i64 t189, .int .i64 t190, .int .i64 t191, .slice Ao41 t192.length co41, .slice Ao42 t195.length co42, .slice Ao43 t198.length co43] 30 (0, 0))) := ⟨kpq_ (kputs BK201 [(0, _), (1, _), (2, _), (3, _), (4, _), (5, _)])⟩
         have n5_ : Aside0 (Below w.heap.size w ((((((w38.setCell ⟨gb201, 0, none⟩ (.int .i64 t189)).setCell ⟨gb201, 1, none⟩ (.int .i64 t190)).setCell ⟨gb201, 2, none⟩ (.int .i64 t191)).setCell ⟨gb201, 3, none⟩ (.slice Ao41 t192.length co41)).setCell ⟨gb201, 4, none⟩ (.slice Ao42 t195.length co42)).setCell ⟨gb201, 5, none⟩ (.slice Ao43 t198.length co43))) := ⟨hb_ HB⟩
         (try clear HO194)
         (try clear HO197)
         (try clear HO200)
         (try clear BK187)
         (try clear BK201)
         (try clear HB)
         generalize ((((((w38.setCell ⟨gb201, 0, none⟩ (.int .i64 t189)).setCell ⟨gb201, 1, none⟩ (.int .i64 t190)).setCell ⟨gb201, 2, none⟩ (.int .i64 t191)).setCell ⟨gb201, 3, none⟩ (.slice Ao41 t192.length co41)).setCell ⟨gb201, 4, none⟩ (.slice Ao42 t195.length co42)).setCell ⟨gb201, 5, none⟩ (.slice Ao43 t198.length co43)) = w44 at n0_ n1_ n2_ n3_ n4_ n5_ ⊢
         have HO194 := n0_
         have HO197 := n1_
         have HO200 := n2_
         have BK187 := n3_
         have BK201 := n4_
         have HB := n5_
         clear n0_ n1_ n2_ n3_ n4_ n5_
         have n0_ := Aside0.mk (Kd.R_drew HO194.out)
         have n1_ := Aside0.mk (Kd.R_drew HO197.out)
         have n2_ := Aside0.mk (Kd.R_drew HO200.out)
         have n3_ := Aside0.mk (blk_drew BK187.out)
         have n4_ := Aside0.mk (blk_drew BK201.out)
         have n5_ := Aside0.mk (below_drew1 HB.out)
         clear HO194
         clear HO197
         clear HO200
         clear BK187
         clear BK201
         clear HB
         have HO194 := n0_
         have HO197 := n1_
         have HO200 := n2_
         have BK187 := n3_
         have BK201 := n4_
         have HB := n5_
         clear n0_ n1_ n2_ n3_ n4_ n5_
         have p28 : 0 ≤ (a1 : Int) := of_decide_eq_true (by first | (with_reducible assumption) | assumption)
         have q28 : (a1 : Int) < ((t192.length : Int) : Int) := of_decide_eq_true (by first | (with_reducible assumption) | assumption)
         obtain ⟨go28, co28, eo28, gb28, gl28, cl28, HG28⟩ := Kd.R_form HO194.out (by omega)
         (first | cases eo28 | (injection eo28 with ea_ en_ ec_; (first | subst ea_ | (injection ea_ with ea_; subst ea_)); subst ec_; clear en_))
         have GB28 := Aside0.mk gb28
         have GG28 := Aside0.mk HG28
         clear gb28 gl28 HG28
         obtain ⟨hx28_0, hf28_0⟩ := Kd.R_celln 0 HO194.out (a1 : Int) p28 q28
         replace p28 := eq_true p28
         replace q28 := eq_true q28
         have HP46 := Kd.R_putn HO194.out (a1 : Int) a2
         rw [← Ny202.out] at HP46
         have HQ46 := Aside0.mk HP46
         clear HP46
         have p30 : 0 ≤ (a1 : Int) := of_decide_eq_true (by first | (with_reducible assumption) | assumption)
         have q30 : (a1 : Int) < ((t195.length : Int) : Int) := of_decide_eq_true (by first | (with_reducible assumption) | assumption)
         obtain ⟨go30, co30, eo30, gb30, gl30, cl30, HG30⟩ := Kd.R_form HO197.out (by omega)
         (first | cases eo30 | (injection eo30 with ea_ en_ ec_; (first | subst ea_ | (injection ea_ with ea_; subst ea_)); subst ec_; clear en_))
         have GB30 := Aside0.mk gb30
         have GG30 := Aside0.mk HG30
         clear gb30 gl30 HG30
         obtain ⟨hx30_0, hf30_0⟩ := Kd.R_celln 0 (Kd.R_far (p := ⟨go28, (a1 : Int).toNat, none⟩) (Kd.R_mono HO197.out (fun k_ hk => (⟨hk, fun e_ => hk.1 (by rw [e_]; rfl)⟩ : _ ∧ k_ ≠ go28))) (fun _ hk => hk.2) (.int .i64 a2)) (a1 : Int) p30 q30
         replace p30 := eq_true p30
         replace q30 := eq_true q30
         have HP47 := Kd.R_putn (Kd.R_far (p := ⟨go28, (a1 : Int).toNat, none⟩) (Kd.R_mono HO197.out (fun k_ hk => (⟨hk, fun e_ => hk.1 (by rw [e_]; rfl)⟩ : _ ∧ k_ ≠ go28))) (fun _ hk => hk.2) (.int .i64 a2)) (a1 : Int) a3
         rw [← Ny203.out] at HP47
         have HQ47 := Aside0.mk HP47
         clear HP47
         have p32 : 0 ≤ (a1 : Int) := of_decide_eq_true (by first | (with_reducible assumption) | assumption)
         have q32 : (a1 : Int) < ((t198.length : Int) : Int) := of_decide_eq_true (by first | (with_reducible assumption) | assumption)
         obtain ⟨go32, co32, eo32, gb32, gl32, cl32, HG32⟩ := Kd.R_form HO200.out (by omega)
         (first | cases eo32 | (injection eo32 with ea_ en_ ec_; (first | subst ea_ | (injection ea_ with ea_; subst ea_)); subst ec_; clear en_))
         have GB32 := Aside0.mk gb32
         have GG32 := Aside0.mk HG32
         clear gb32 gl32 HG32
         obtain ⟨hx32_0, hf32_0⟩ := Kd.R_celln 0 (Kd.R_far (p := ⟨go30, (a1 : Int).toNat, none⟩) (Kd.R_far (p := ⟨go28, (a1 : Int).toNat, none⟩) (Kd.R_mono (Kd.R_mono HO200.out (fun k_ hk => (⟨hk, fun e_ => hk.1 (by rw [e_]; rfl)⟩ : _ ∧ k_ ≠ go28))) (fun k_ hk => (⟨hk, fun e_ => hk.1.2 (by rw [e_]; rfl)⟩ : _ ∧ k_ ≠ go30))) (fun _ hk => hk.1.2) (.int .i64 a2)) (fun _ hk => hk.2) (.int .i64 a3)) (a1 : Int) p32 q32
         replace p32 := eq_true p32
         replace q32 := eq_true q32
         have HP48 := Kd.R_putn (Kd.R_far (p := ⟨go30, (a1 : Int).toNat, none⟩) (Kd.R_far (p := ⟨go28, (a1 : Int).toNat, none⟩) (Kd.R_mono (Kd.R_mono HO200.out (fun k_ hk => (⟨hk, fun e_ => hk.1 (by rw [e_]; rfl)⟩ : _ ∧ k_ ≠ go28))) (fun k_ hk => (⟨hk, fun e_ => hk.1.2 (by rw [e_]; rfl)⟩ : _ ∧ k_ ≠ go30))) (fun _ hk => hk.1.2) (.int .i64 a2)) (fun _ hk => hk.2) (.int .i64 a3)) (a1 : Int) a4
         rw [← Ny204.out] at HP48
         have HQ48 := Aside0.mk HP48
         clear HP48
         have NR201_go28 : gb201 ≠ go28 := (by have h_ := Kd.R_ne HO194.out BK201.out (by decide); intro e_; exact h_ (by rw [e_]; rfl))
         have NR201_go30 : gb201 ≠ go30 := (by have h_ := Kd.R_ne HO197.out BK201.out (by decide); intro e_; exact h_ (by rw [e_]; rfl))
         have NR201_go32 : gb201 ≠ go32 := (by have h_ := Kd.R_ne HO200.out BK201.out (by decide); intro e_; exact h_ (by rw [e_]; rfl))
         refine start_ (n := 18) (S := fun w' => w'.cell? ⟨gb201, 0, none⟩ = some (.int .i64 t189) ∧ w'.cell? ⟨gb201, 1, none⟩ = some (.int .i64 t190) ∧ w'.cell? ⟨gb201, 2, none⟩ = some (.int .i64 t191) ∧ w'.cell? ⟨gb201, 3, none⟩ = some (.slice (some ⟨go28, 0, none⟩) t192.length co41) ∧ w'.cell? ⟨gb201, 4, none⟩ = some (.slice (some ⟨go30, 0, none⟩) t195.length co42) ∧ w'.cell? ⟨gb201, 5, none⟩ = some (.slice (some ⟨go32, 0, none⟩) t198.length co43)) (ds := []) #[false, false, false, false, false, false, false, false, false, false, false, false, false, false, false, false, false, false] (by kernel_rfl) rfl rfl ⟨(blk_cell BK201.out 0).trans rfl, (blk_cell BK201.out 1).trans rfl, (blk_cell BK201.out 2).trans rfl, (blk_cell BK201.out 3).trans rfl, (blk_cell BK201.out 4).trans rfl, (blk_cell BK201.out 5).trans rfl⟩ (fun hHeld => ?_); refine with_tabW impl_SetBlock.tab4 impl_SetBlock.bits4 (fun HT_ HW_ => ?_)
         generalize w44.drew = w45 at HO194 HO197 HO200 BK187 BK201 HB GG28 GG30 GG32 HQ46 HQ47 HQ48 hf28_0 hf30_0 hf32_0 hx28_0 hx30_0 hx32_0 hHeld ⊢
         refine pure_ (i := 0) (N := some 30) (v := ?_) (a' := ?_) #[true, false, false, false, false, false, false, false, false, false, false, false, false, false, false, false, false, false] rfl rfl (any_of HT_.out (by kernel_rfl)) (fun _ _ _ h => h) (Or.inl ⟨by rfl, ?_⟩) ?_ ?_
         rotate_left
         ·intro w'
          go_simp
          with_reducible rfl
         rotate_left
         ·simp only [Act.put, List.setIfInBounds_toArray, List.set_cons_zero, List.set_cons_succ, i64_w, i32_w]
          rfl
         refine pure_ (i := 2) (N := some 32) (v := ?_) (a' := ?_) #[true, false, true, false, false, false, false, false, false, false, false, false, false, false, false, false, false, false] rfl rfl (any_of HT_.out (by kernel_rfl)) (fun _ _ _ h => h) (Or.inl ⟨by rfl, ?_⟩) ?_ ?_
         rotate_left
         ·intro w'
          go_simp
          with_reducible rfl
         rotate_left
         ·simp only [Act.put, List.setIfInBounds_toArray, List.set_cons_zero, List.set_cons_succ, i64_w, i32_w]
          rfl
         refine pure_ (i := 3) (N := some 33) (v := ?_) (a' := ?_) #[true, false, true, true, false, false, false, false, false, false, false, false, false, false, false, false, false, false] rfl rfl (any_of HT_.out (by kernel_rfl)) (fun _ _ _ h => h) (Or.inl ⟨by rfl, ?_⟩) ?_ ?_
         rotate_left
         ·intro w'
          go_simp
          with_reducible rfl
         rotate_left
         ·simp only [Act.put, List.setIfInBounds_toArray, List.set_cons_zero, List.set_cons_succ, i64_w, i32_w]
          rfl
         refine pure_ (i := 5) (N := some 35) (v := ?_) (a' := ?_) #[true, false, true, true, false, true, false, false, false, false, false, false, false, false, false, false, false, false] rfl rfl (any_of HT_.out (by kernel_rfl)) (fun _ _ _ h => h) (Or.inl ⟨by rfl, ?_⟩) ?_ ?_
         rotate_left
         ·intro w'
          go_simp
          with_reducible rfl
         rotate_left
         ·simp only [Act.put, List.setIfInBounds_toArray, List.set_cons_zero, List.set_cons_succ, i64_w, i32_w]
          rfl
         refine pure_ (i := 6) (N := some 36) (v := ?_) (a' := ?_) #[true, false, true, true, false, true, true, false, false, false, false, false, false, false, false, false, false, false] rfl rfl (any_of HT_.out (by kernel_rfl)) (fun _ _ _ h => h) (Or.inl ⟨by rfl, ?_⟩) ?_ ?_
         rotate_left
         ·intro w'
          go_simp
          with_reducible rfl
         rotate_left
         ·simp only [Act.put, List.setIfInBounds_toArray, List.set_cons_zero, List.set_cons_succ, i64_w, i32_w]
          rfl
         refine pure_ (i := 8) (N := some 38) (v := ?_) (a' := ?_) #[true, false, true, true, false, true, true, false, true, false, false, false, false, false, false, false, false, false] rfl rfl (any_of HT_.out (by kernel_rfl)) (fun _ _ _ h => h) (Or.inl ⟨by rfl, ?_⟩) ?_ ?_
         rotate_left
         ·intro w'
          go_simp
          with_reducible rfl
         rotate_left
         ·simp only [Act.put, List.setIfInBounds_toArray, List.set_cons_zero, List.set_cons_succ, i64_w, i32_w]
          rfl
         refine pure_ (i := 9) (N := some 39) (v := ?_) (a' := ?_) #[true, false, true, true, false, true, true, false, true, true, false, false, false, false, false, false, false, false] rfl rfl (any_of HT_.out (by kernel_rfl)) (fun _ _ _ h => h) (Or.inl ⟨by rfl, ?_⟩) ?_ ?_
         rotate_left
         ·intro w'
          go_simp
          with_reducible rfl
         rotate_left
         ·simp only [Act.put, List.setIfInBounds_toArray, List.set_cons_zero, List.set_cons_succ, i64_w, i32_w]
          rfl
         refine pure_ (i := 10) (N := some 40) (v := ?_) (a' := ?_) #[true, false, true, true, false, true, true, false, true, true, true, false, false, false, false, false, false, false] rfl rfl (any_of HT_.out (by kernel_rfl)) (fun _ _ _ h => h) (Or.inl ⟨by rfl, ?_⟩) ?_ ?_
         rotate_left
         ·intro w'
          go_simp
          with_reducible rfl
         rotate_left
         ·simp only [Act.put, List.setIfInBounds_toArray, List.set_cons_zero, List.set_cons_succ, i64_w, i32_w]
          rfl
         refine pure_ (i := 11) (N := some 41) (v := ?_) (a' := ?_) #[true, false, true, true, false, true, true, false, true, true, true, true, false, false, false, false, false, false] rfl rfl (any_of HT_.out (by kernel_rfl)) (fun _ _ _ h => h) (Or.inl ⟨by rfl, ?_⟩) ?_ ?_
         rotate_left
         ·intro w'
          go_simp
          with_reducible rfl
         rotate_left
         ·simp only [Act.put, List.setIfInBounds_toArray, List.set_cons_zero, List.set_cons_succ, i64_w, i32_w]
          rfl
         refine take_ (i := 1) (N := some 31) (v := ?_) (a' := ?_) #[true, true, true, true, false, true, true, false, true, true, true, true, false, false, false, false, false, false] rfl rfl (take_ofW HT_.out HW_.out (by kernel_rfl)) (fun _ _ _ h => h) (Or.inl ⟨by rfl, ?_⟩) hHeld ?_ ?_
         rotate_left
         ·rintro w' ⟨s0, s1, s2, s3, s4, s5⟩
          go_simp
          with_reducible rfl
         rotate_left
         ·simp only [Act.put, List.setIfInBounds_toArray, List.set_cons_zero, List.set_cons_succ, i64_w, i32_w]
          rfl
         refine pure_ (i := 12) (N := some 42) (v := ?_) (a' := ?_) #[true, true, true, true, false, true, true, false, true, true, true, true, true, false, false, false, false, false] rfl rfl (any_of HT_.out (by kernel_rfl)) (fun _ _ _ h => h) (Or.inl ⟨by rfl, ?_⟩) ?_ ?_
         rotate_left
         ·intro w'
          go_simp
          with_reducible rfl
         rotate_left
         ·simp only [Act.put, List.setIfInBounds_toArray, List.set_cons_zero, List.set_cons_succ, i64_w, i32_w]
          rfl
         refine take_ (i := 4) (N := some 34) (v := ?_) (a' := ?_) #[true, true, true, true, true, true, true, false, true, true, true, true, true, false, false, false, false, false] rfl rfl (take_ofW HT_.out HW_.out (by kernel_rfl)) (fun _ _ _ h => h) (Or.inl ⟨by rfl, ?_⟩) hHeld ?_ ?_
         rotate_left
         ·rintro w' ⟨s0, s1, s2, s3, s4, s5⟩
          go_simp
          with_reducible rfl
         rotate_left
         ·simp only [Act.put, List.setIfInBounds_toArray, List.set_cons_zero, List.set_cons_succ, i64_w, i32_w]
          rfl
         refine take_ (i := 7) (N := some 37) (v := ?_) (a' := ?_) #[true, true, true, true, true, true, true, true, true, true, true, true, true, false, false, false, false, false] rfl rfl (take_ofW HT_.out HW_.out (by kernel_rfl)) (fun _ _ _ h => h) (Or.inl ⟨by rfl, ?_⟩) hHeld ?_ ?_
         rotate_left
         ·rintro w' ⟨s0, s1, s2, s3, s4, s5⟩
          go_simp
          with_reducible rfl
         rotate_left
         ·simp only [Act.put, List.setIfInBounds_toArray, List.set_cons_zero, List.set_cons_succ, i64_w, i32_w]
          rfl
         refine one_ (i := 13) (N := none) #[true, true, true, true, true, true, true, true, true, true, true, true, true, true, false, false, false, false] rfl rfl (one_of HT_.out (by kernel_rfl)) (by decide) (fun K hK => ?_)
         refine skip_ (w1 := ?_) (by rfl) rfl ?_ ?_
         rotate_left
         ·go_simp
          rfl
         refine hK.out _ _ ⟨((cell_far (p := ⟨go28, _, none⟩) NR201_go28 _).trans (hHeld.1)), ((cell_far (p := ⟨go28, _, none⟩) NR201_go28 _).trans (hHeld.2.1)), ((cell_far (p := ⟨go28, _, none⟩) NR201_go28 _).trans (hHeld.2.2.1)), ((cell_far (p := ⟨go28, _, none⟩) NR201_go28 _).trans (hHeld.2.2.2.1)), ((cell_far (p := ⟨go28, _, none⟩) NR201_go28 _).trans (hHeld.2.2.2.2.1)), ((cell_far (p := ⟨go28, _, none⟩) NR201_go28 _).trans (hHeld.2.2.2.2.2))⟩ (fun hHeld => ?_)
         clear hK K
         refine pure_ (i := 14) (N := some 43) (v := ?_) (a' := ?_) #[true, true, true, true, true, true, true, true, true, true, true, true, true, true, true, false, false, false] rfl rfl (any_of HT_.out (by kernel_rfl)) (fun _ _ _ h => h) (Or.inl ⟨by rfl, ?_⟩) ?_ ?_
         rotate_left
         ·intro w'
          go_simp
          with_reducible rfl
         rotate_left
         ·simp only [Act.put, List.setIfInBounds_toArray, List.set_cons_zero, List.set_cons_succ, i64_w, i32_w]
          rfl
         refine one_ (i := 15) (N := none) #[true, true, true, true, true, true, true, true, true, true, true, true, true, true, true, true, false, false] rfl rfl (one_of HT_.out (by kernel_rfl)) (by decide) (fun K hK => ?_)
         refine skip_ (w1 := ?_) (by rfl) rfl ?_ ?_
         rotate_left
         ·go_simp
          rfl
         refine hK.out _ _ ⟨((cell_far (p := ⟨go30, _, none⟩) NR201_go30 _).trans (hHeld.1)), ((cell_far (p := ⟨go30, _, none⟩) NR201_go30 _).trans (hHeld.2.1)), ((cell_far (p := ⟨go30, _, none⟩) NR201_go30 _).trans (hHeld.2.2.1)), ((cell_far (p := ⟨go30, _, none⟩) NR201_go30 _).trans (hHeld.2.2.2.1)), ((cell_far (p := ⟨go30, _, none⟩) NR201_go30 _).trans (hHeld.2.2.2.2.1)), ((cell_far (p := ⟨go30, _, none⟩) NR201_go30 _).trans (hHeld.2.2.2.2.2))⟩ (fun hHeld => ?_)
         clear hK K
         refine pure_ (i := 16) (N := some 44) (v := ?_) (a' := ?_) #[true, true, true, true, true, true, true, true, true, true, true, true, true, true, true, true, true, false] rfl rfl (any_of HT_.out (by kernel_rfl)) (fun _ _ _ h => h) (Or.inl ⟨by rfl, ?_⟩) ?_ ?_
         rotate_left
         ·intro w'
          go_simp
          with_reducible rfl
         rotate_left
         ·simp only [Act.put, List.setIfInBounds_toArray, List.set_cons_zero, List.set_cons_succ, i64_w, i32_w]
          rfl
         refine one_ (i := 17) (N := none) #[true, true, true, true, true, true, true, true, true, true, true, true, true, true, true, true, true, true] rfl rfl (one_of HT_.out (by kernel_rfl)) (by decide) (fun K hK => ?_)
         refine skip_ (w1 := ?_) (by rfl) rfl ?_ ?_
         rotate_left
         ·go_simp
          rfl
         refine hK.out _ _ ⟨((cell_far (p := ⟨go32, _, none⟩) NR201_go32 _).trans (hHeld.1)), ((cell_far (p := ⟨go32, _, none⟩) NR201_go32 _).trans (hHeld.2.1)), ((cell_far (p := ⟨go32, _, none⟩) NR201_go32 _).trans (hHeld.2.2.1)), ((cell_far (p := ⟨go32, _, none⟩) NR201_go32 _).trans (hHeld.2.2.2.1)), ((cell_far (p := ⟨go32, _, none⟩) NR201_go32 _).trans (hHeld.2.2.2.2.1)), ((cell_far (p := ⟨go32, _, none⟩) NR201_go32 _).trans (hHeld.2.2.2.2.2))⟩ (fun hHeld => ?_)
         clear hK K
         refine done_ (done_of HT_.out (by kernel_rfl)) ?_
         have n0_ : Aside0 (Kd.R (Kd.int .i64) 3 (((w45.setCell ⟨go28, (a1 : Int).toNat, none⟩ (.int .i64 a2)).setCell ⟨go30, (a1 : Int).toNat, none⟩ (.int .i64 a3)).setCell ⟨go32, (a1 : Int).toNat, none⟩ (.int .i64 a4)) w.heap.size (fun k_ => some k_ ≠ (.slice (some ⟨go30, 0, none⟩) t195.length co42 : Value).ownBlock ∧ some k_ ≠ (.slice (some ⟨go32, 0, none⟩) t198.length co43 : Value).ownBlock) (.slice (some ⟨go28, 0, none⟩) t192.length co41) y202) := ⟨Kd.R_pp (Kd.R_mono (Kd.R_far (p := ⟨go32, (a1 : Int).toNat, none⟩) (Kd.R_far (p := ⟨go30, (a1 : Int).toNat, none⟩) (Kd.R_mono (Kd.R_mono HQ46.out (fun k_ hk => (⟨hk, fun e_ => hk.1 (by rw [e_]; rfl)⟩ : _ ∧ k_ ≠ go30))) (fun k_ hk => (⟨hk, fun e_ => hk.1.2 (by rw [e_]; rfl)⟩ : _ ∧ k_ ≠ go32))) (fun _ hk => hk.1.2) (.int .i64 a3)) (fun _ hk => hk.2) (.int .i64 a4)) (fun _ hk => ⟨hk.1.1.1, hk.1.1.2⟩))⟩
         have n1_ : Aside0 (Kd.R (Kd.int .i64) 3 (((w45.setCell ⟨go28, (a1 : Int).toNat, none⟩ (.int .i64 a2)).setCell ⟨go30, (a1 : Int).toNat, none⟩ (.int .i64 a3)).setCell ⟨go32, (a1 : Int).toNat, none⟩ (.int .i64 a4)) w.heap.size (fun k_ => some k_ ≠ (.slice (some ⟨go28, 0, none⟩) t192.length co41 : Value).ownBlock ∧ some k_ ≠ (.slice (some ⟨go32, 0, none⟩) t198.length co43 : Value).ownBlock) (.slice (some ⟨go30, 0, none⟩) t195.length co42) y203) := ⟨Kd.R_pp (Kd.R_mono (Kd.R_far (p := ⟨go32, (a1 : Int).toNat, none⟩) (Kd.R_mono HQ47.out (fun k_ hk => (⟨hk, fun e_ => hk.1.2 (by rw [e_]; rfl)⟩ : _ ∧ k_ ≠ go32))) (fun _ hk => hk.2) (.int .i64 a4)) (fun _ hk => ⟨hk.1.1.1, hk.1.1.2⟩))⟩
         have n2_ : Aside0 (Kd.R (Kd.int .i64) 3 (((w45.setCell ⟨go28, (a1 : Int).toNat, none⟩ (.int .i64 a2)).setCell ⟨go30, (a1 : Int).toNat, none⟩ (.int .i64 a3)).setCell ⟨go32, (a1 : Int).toNat, none⟩ (.int .i64 a4)) w.heap.size (fun k_ => some k_ ≠ (.slice (some ⟨go28, 0, none⟩) t192.length co41 : Value).ownBlock ∧ some k_ ≠ (.slice (some ⟨go30, 0, none⟩) t195.length co42 : Value).ownBlock) (.slice (some ⟨go32, 0, none⟩) t198.length co43) y204) := ⟨Kd.R_pp (Kd.R_mono HQ48.out (fun _ hk => ⟨hk.1.1.1, hk.1.1.2⟩))⟩
         have n3_ : Aside0 ((((w45.setCell ⟨go28, (a1 : Int).toNat, none⟩ (.int .i64 a2)).setCell ⟨go30, (a1 : Int).toNat, none⟩ (.int .i64 a3)).setCell ⟨go32, (a1 : Int).toNat, none⟩ (.int .i64 a4)).heap[gb187]? = some (.cells #[.int .i64 0, .int .i64 0, .int .i64 0, .slice none 0 0, .slice none 0 0, .slice none 0 0] 30 (0, 0))) := ⟨by (with_reducible repeat (first | refine blk_drewN ?_ _ | refine blk_drew ?_ | refine blk_alloc ?_ _)); refine blk_far ?_ (by have h_ := Kd.R_ne HO200.out BK187.out (by decide); intro e_; exact h_ (by rw [e_]; rfl)) _; (with_reducible repeat (first | refine blk_drewN ?_ _ | refine blk_drew ?_ | refine blk_alloc ?_ _)); refine blk_far ?_ (by have h_ := Kd.R_ne HO197.out BK187.out (by decide); intro e_; exact h_ (by rw [e_]; rfl)) _; (with_reducible repeat (first | refine blk_drewN ?_ _ | refine blk_drew ?_ | refine blk_alloc ?_ _)); refine blk_far ?_ (by have h_ := Kd.R_ne HO194.out BK187.out (by decide); intro e_; exact h_ (by rw [e_]; rfl)) _; (with_reducible repeat (first | refine blk_drewN ?_ _ | refine blk_drew ?_ | refine blk_alloc ?_ _)); exact BK187.out⟩
         have n4_ : Aside0 ((((w45.setCell ⟨go28, (a1 : Int).toNat, none⟩ (.int .i64 a2)).setCell ⟨go30, (a1 : Int).toNat, none⟩ (.int .i64 a3)).setCell ⟨go32, (a1 : Int).toNat, none⟩ (.int .i64 a4)).heap[gb201]? = some (.cells #[.int .i64 t189, .int .i64 t190, .int .i64 t191, .slice (some ⟨go28, 0, none⟩) t192.length co41, .slice (some ⟨go30, 0, none⟩) t195.length co42, .slice (some ⟨go32, 0, none⟩) t198.length co43] 30 (0, 0))) := ⟨by (with_reducible repeat (first | refine blk_drewN ?_ _ | refine blk_drew ?_ | refine blk_alloc ?_ _)); refine blk_far ?_ (by have h_ := Kd.R_ne HO200.out BK201.out (by decide); intro e_; exact h_ (by rw [e_]; rfl)) _; (with_reducible repeat (first | refine blk_drewN ?_ _ | refine blk_drew ?_ | refine blk_alloc ?_ _)); refine blk_far ?_ (by have h_ := Kd.R_ne HO197.out BK201.out (by decide); intro e_; exact h_ (by rw [e_]; rfl)) _; (with_reducible repeat (first | refine blk_drewN ?_ _ | refine blk_drew ?_ | refine blk_alloc ?_ _)); refine blk_far ?_ (by have h_ := Kd.R_ne HO194.out BK201.out (by decide); intro e_; exact h_ (by rw [e_]; rfl)) _; (with_reducible repeat (first | refine blk_drewN ?_ _ | refine blk_drew ?_ | refine blk_alloc ?_ _)); exact BK201.out⟩
         have n5_ : Aside0 (Below w.heap.size w (((w45.setCell ⟨go28, (a1 : Int).toNat, none⟩ (.int .i64 a2)).setCell ⟨go30, (a1 : Int).toNat, none⟩ (.int .i64 a3)).setCell ⟨go32, (a1 : Int).toNat, none⟩ (.int .i64 a4))) := ⟨by repeat (first | (with_reducible first | exact HB.out | apply below_alloc | apply pw_below_drewN | apply below_drew1 | refine below_set ?_ GB28.out | refine below_set ?_ GB30.out | refine below_set ?_ GB32.out | refine below_set ?_ GE187.out | refine below_set ?_ GE201.out) | exact HB.out)⟩
         (try clear HO194)
         (try clear HO197)
         (try clear HO200)
         (try clear BK187)
         (try clear BK201)
         (try clear HB)
         generalize (((w45.setCell ⟨go28, (a1 : Int).toNat, none⟩ (.int .i64 a2)).setCell ⟨go30, (a1 : Int).toNat, none⟩ (.int .i64 a3)).setCell ⟨go32, (a1 : Int).toNat, none⟩ (.int .i64 a4)) = w49 at n0_ n1_ n2_ n3_ n4_ n5_ ⊢
         have HO194 := n0_
         have HO197 := n1_
         have HO200 := n2_
         have BK187 := n3_
         have BK201 := n4_
         have HB := n5_
         clear n0_ n1_ n2_ n3_ n4_ n5_
         have hcz50_0 : w49.cell? ⟨gb201, 0, none⟩ = some (.int .i64 t189) := (blk_cell BK201.out 0).trans rfl
         have hcz50_1 : w49.cell? ⟨gb201, 1, none⟩ = some (.int .i64 t190) := (blk_cell BK201.out 1).trans rfl
         have hcz50_2 : w49.cell? ⟨gb201, 2, none⟩ = some (.int .i64 t191) := (blk_cell BK201.out 2).trans rfl
         have hcz50_3 : w49.cell? ⟨gb201, 3, none⟩ = some (.slice (some ⟨go28, 0, none⟩) t192.length co41) := (blk_cell BK201.out 3).trans rfl
         have hcz50_4 : w49.cell? ⟨gb201, 4, none⟩ = some (.slice (some ⟨go30, 0, none⟩) t195.length co42) := (blk_cell BK201.out 4).trans rfl
         have hcz50_5 : w49.cell? ⟨gb201, 5, none⟩ = some (.slice (some ⟨go32, 0, none⟩) t198.length co43) := (blk_cell BK201.out 5).trans rfl
         have hfz50_0 := blk_frozen BK201.out 0
         have hfz50_1 := blk_frozen BK201.out 1
         have hfz50_2 := blk_frozen BK201.out 2
         have hfz50_3 := blk_frozen BK201.out 3
         have hfz50_4 := blk_frozen BK201.out 4
         have hfz50_5 := blk_frozen BK201.out 5
         try go_wp2_with (first | ((with_reducible refine gate_callee (f := 38) rfl ?_); refine gl_ (some 46) Try.func38 #[.agg #[.int .i64 t189, .int .i64 t190, .int .i64 t191, .slice (some ⟨go28, 0, none⟩) y202.length co41, .slice (some ⟨go30, 0, none⟩) y203.length co42, .slice (some ⟨go32, 0, none⟩) y204.length co43]] rfl rfl rfl ?_ (by (try simp only [List.map_toArray, List.map_cons, List.map_nil]); first | done | (rw [show y202.length = t192.length from (Kd.R_reads' HO194.out).1.symm, show y203.length = t195.length from (Kd.R_reads' HO197.out).1.symm, show y204.length = t198.length from (Kd.R_reads' HO200.out).1.symm] <;> rfl) | rfl | (simp only [List.length_drop, List.length_take]; rfl)); (with_reducible refine (impl_IsModel.calls kj5 t189 t190 t191 _ _ y202 _ _ y203 _ _ y204 true _ ?side1 ?side2 ?side3 ?side4 ?side5 ?side6 A33.out).mono ?_); (case side1 => exact Kd.C_o HO194); (case side2 => rw [show y202.length = t192.length from (Kd.R_reads' HO194.out).1.symm]; exact (Kd.R_reads' HO194.out).2.1); (case side3 => exact Kd.C_o HO197); (case side4 => rw [show y203.length = t195.length from (Kd.R_reads' HO197.out).1.symm]; exact (Kd.R_reads' HO197.out).2.1); (case side5 => exact Kd.C_o HO200); (case side6 => rw [show y204.length = t198.length from (Kd.R_reads' HO200.out).1.symm]; exact (Kd.R_reads' HO200.out).2.1); rintro e w51 ⟨rfl, hb⟩; refine ⟨_, rfl, ?_⟩; replace HO194 := Kd.R_b HO194 hb; replace HO197 := Kd.R_b HO197 hb; replace HO200 := Kd.R_b HO200 hb; replace BK187 := kb_ BK187 hb; replace BK201 := kb_ BK201 hb; replace HB := hbs_ HB hb; (try clear hb); (try clear hb2); (try clear hk); (try clear hi); obtain ⟨hcz52_0, hcz52_1, hcz52_2, hcz52_3, hcz52_4, hcz52_5, hfz52_0, hfz52_1, hfz52_2, hfz52_3, hfz52_4, hfz52_5⟩ := bx6 BK201; obtain ⟨hcz53_0, hcz53_1, hcz53_2, hcz53_3, hcz53_4, hcz53_5, hfz53_0, hfz53_1, hfz53_2, hfz53_3, hfz53_4, hfz53_5⟩ := bx6 BK187))
         refine bodyPost_ret (results_ct rfl _ _ gb187 30 #[.int .i64 t189, .int .i64 t190, .int .i64 t191, .slice (some ⟨go28, 0, none⟩) t192.length co41, .slice (some ⟨go30, 0, none⟩) t195.length co42, .slice (some ⟨go32, 0, none⟩) t198.length co43] (0, 0) _ rfl (kpq_ (kputs BK187 [(0, _), (1, _), (2, _), (3, _), (4, _), (5, _)])) Try.underlying30 rfl (by kernel_rfl)) rfl ?_
         exact ⟨_, _, _, by first | rfl | (simp [errW_none, errW_some] <;> rfl) | (simp [*, errW_none, errW_some] <;> rfl), Kd.R_mono (Kd.R_s HO194 BK187) (fun _ hk => ⟨hk.1, hk.2⟩), Kd.R_mono (Kd.R_s HO197 BK187) (fun _ hk => ⟨hk.1, hk.2⟩), Kd.R_mono (Kd.R_s HO200 BK187) (fun _ hk => ⟨hk.1, hk.2⟩), hb_ HB⟩
        ·replace c34 := Bool.eq_false_iff.mpr c34
         subst c34
         have H1 : (some (0, 0, 0, ([] : List Int), ([] : List Int), ([] : List Int), false)) = some (r1, r2, r3, r4, r5, r6, r7) := by rw [if_neg (show ¬ (false = true) by decide)] at H; exact H
         clear H
         have H := H1
         clear H1
         simp only [Option.some.injEq, Prod.mk.injEq] at H
         obtain ⟨rfl, rfl, rfl, rfl, rfl, rfl, rfl⟩ := H
         have hnb54 := NB186_187.out
         have hnc54 := NB187_186.out
         have hcz55_0 : wc.cell? ⟨gb186, 0, none⟩ = some (.int .i64 a0_0) := (blk_cell BK186.out 0).trans rfl
         have hcz55_1 : wc.cell? ⟨gb186, 1, none⟩ = some (.int .i64 a0_1) := (blk_cell BK186.out 1).trans rfl
         have hcz55_2 : wc.cell? ⟨gb186, 2, none⟩ = some (.int .i64 a0_2) := (blk_cell BK186.out 2).trans rfl
         have hcz55_3 : wc.cell? ⟨gb186, 3, none⟩ = some (.slice A0_3 l0_3.length c0_3) := (blk_cell BK186.out 3).trans rfl
         have hcz55_4 : wc.cell? ⟨gb186, 4, none⟩ = some (.slice A0_4 l0_4.length c0_4) := (blk_cell BK186.out 4).trans rfl
         have hcz55_5 : wc.cell? ⟨gb186, 5, none⟩ = some (.slice A0_5 l0_5.length c0_5) := (blk_cell BK186.out 5).trans rfl
         have hfz55_0 := blk_frozen BK186.out 0
         have hfz55_1 := blk_frozen BK186.out 1
         have hfz55_2 := blk_frozen BK186.out 2
         have hfz55_3 := blk_frozen BK186.out 3
         have hfz55_4 := blk_frozen BK186.out 4
         have hfz55_5 := blk_frozen BK186.out 5
         try go_wp2_with (first | ((with_reducible refine gate_callee (f := 44) rfl ?_); refine gl_ (some 29) Try.func44 #[.agg #[.int .i64 a0_0, .int .i64 a0_1, .int .i64 a0_2, .slice A0_3 l0_3.length c0_3, .slice A0_4 l0_4.length c0_4, .slice A0_5 l0_5.length c0_5]] rfl rfl rfl ?_; (with_reducible refine (impl_copyModel.calls a0_0 a0_1 a0_2 _ _ l0_3 _ _ l0_4 _ _ l0_5 t189 t190 t191 t192 t195 t198 _ ?side1 ?side2 ?side3 ?side4 ?side5 ?side6 A25.out).mono ?_); (case side1 => exact Kd.C_w HR0_3 HB); (case side2 => exact HC0_3.out); (case side3 => exact Kd.C_w HR0_4 HB); (case side4 => exact HC0_4.out); (case side5 => exact Kd.C_w HR0_5 HB); (case side6 => exact HC0_5.out); rintro e w56 ⟨v193, v196, v199, rfl, ho0, ho1, ho2, hb⟩; refine ⟨_, rfl, ?_⟩; have HO194 := Kd.R_lo ho0 HB; have HO197 := Kd.R_lo ho1 HB; have HO200 := Kd.R_lo ho2 HB; replace BK186 := kb_ BK186 hb; replace BK187 := kb_ BK187 hb; replace HB := hbs_ HB hb; (try clear hb); (try clear hb2); (try clear hk); (try clear hi); (try clear ho0); (try clear ho1); (try clear ho2); try clear BK186; try clear GW186; try clear GE186; try clear NB186_187; try clear NB187_186) | ((with_reducible refine gate_dst (N := 12) rfl ?_); (try (refine gate_guard (by rfl) ?_; dsimp only)); refine box_event ?hg (N := 12) ?hd (cs := #[.int .i64 0, .int .i64 0, .int .i64 0, .slice none 0 0, .slice none 0 0, .slice none 0 0]) (t := 30) ?hr ?_; (case hd => rfl); (case hg => rfl); (case hr => first | (go_simp; done) | (go_simp; rfl)); intro gb201 hg w57 hbox hb; have BK201 := Aside0.mk (hbox); have GW201 := gs_ hg HB; have GE201 := gs_ hg HB; have NB187_201 := nl_ hg BK187; have NB201_187 := ng_ hg BK187; replace HO194 := Kd.R_b HO194 hb; replace HO197 := Kd.R_b HO197 hb; replace HO200 := Kd.R_b HO200 hb; replace BK187 := kb_ BK187 hb; replace HB := hbs_ HB hb; clear hb hbox hg; have hnb58 := NB201_187.out; have hnc58 := NB187_201.out; obtain ⟨hcz59_0, hcz59_1, hcz59_2, hcz59_3, hcz59_4, hcz59_5, hfz59_0, hfz59_1, hfz59_2, hfz59_3, hfz59_4, hfz59_5⟩ := bx6 BK201; obtain ⟨Ao60, co60, eo60⟩ := Kd.R_slice HO194.out; subst eo60; obtain ⟨Ao61, co61, eo61⟩ := Kd.R_slice HO197.out; subst eo61; obtain ⟨Ao62, co62, eo62⟩ := Kd.R_slice HO200.out; subst eo62))
         have n0_ : Aside0 (Kd.R (Kd.int .i64) 3 ((((((w57.setCell ⟨gb201, 0, none⟩ (.int .i64 t189)).setCell ⟨gb201, 1, none⟩ (.int .i64 t190)).setCell ⟨gb201, 2, none⟩ (.int .i64 t191)).setCell ⟨gb201, 3, none⟩ (.slice Ao60 t192.length co60)).setCell ⟨gb201, 4, none⟩ (.slice Ao61 t195.length co61)).setCell ⟨gb201, 5, none⟩ (.slice Ao62 t198.length co62)) w.heap.size (fun k_ => some k_ ≠ (.slice Ao61 t195.length co61 : Value).ownBlock ∧ some k_ ≠ (.slice Ao62 t198.length co62 : Value).ownBlock) (.slice Ao60 t192.length co60) t192) := ⟨Kd.R_mono (Kd.R_s HO194 BK201) (fun _ hk => ⟨hk.1, hk.2⟩)⟩
         have n1_ : Aside0 (Kd.R (Kd.int .i64) 3 ((((((w57.setCell ⟨gb201, 0, none⟩ (.int .i64 t189)).setCell ⟨gb201, 1, none⟩ (.int .i64 t190)).setCell ⟨gb201, 2, none⟩ (.int .i64 t191)).setCell ⟨gb201, 3, none⟩ (.slice Ao60 t192.length co60)).setCell ⟨gb201, 4, none⟩ (.slice Ao61 t195.length co61)).setCell ⟨gb201, 5, none⟩ (.slice Ao62 t198.length co62)) w.heap.size (fun k_ => some k_ ≠ (.slice Ao60 t192.length co60 : Value).ownBlock ∧ some k_ ≠ (.slice Ao62 t198.length co62 : Value).ownBlock) (.slice Ao61 t195.length co61) t195) := ⟨Kd.R_mono (Kd.R_s HO197 BK201) (fun _ hk => ⟨hk.1, hk.2⟩)⟩
         have n2_ : Aside0 (Kd.R (Kd.int .i64) 3 ((((((w57.setCell ⟨gb201, 0, none⟩ (.int .i64 t189)).setCell ⟨gb201, 1, none⟩ (.int .i64 t190)).setCell ⟨gb201, 2, none⟩ (.int .i64 t191)).setCell ⟨gb201, 3, none⟩ (.slice Ao60 t192.length co60)).setCell ⟨gb201, 4, none⟩ (.slice Ao61 t195.length co61)).setCell ⟨gb201, 5, none⟩ (.slice Ao62 t198.length co62)) w.heap.size (fun k_ => some k_ ≠ (.slice Ao60 t192.length co60 : Value).ownBlock ∧ some k_ ≠ (.slice Ao61 t195.length co61 : Value).ownBlock) (.slice Ao62 t198.length co62) t198) := ⟨Kd.R_mono (Kd.R_s HO200 BK201) (fun _ hk => ⟨hk.1, hk.2⟩)⟩
         have n3_ : Aside0 (((((((w57.setCell ⟨gb201, 0, none⟩ (.int .i64 t189)).setCell ⟨gb201, 1, none⟩ (.int .i64 t190)).setCell ⟨gb201, 2, none⟩ (.int .i64 t191)).setCell ⟨gb201, 3, none⟩ (.slice Ao60 t192.length co60)).setCell ⟨gb201, 4, none⟩ (.slice Ao61 t195.length co61)).setCell ⟨gb201, 5, none⟩ (.slice Ao62 t198.length co62)).heap[gb187]? = some (.cells #[.int .i64 0, .int .i64 0, .int .i64 0, .slice none 0 0, .slice none 0 0, .slice none 0 0] 30 (0, 0))) := ⟨kf_ BK187 NB187_201⟩
         have n4_ : Aside0 (((((((w57.setCell ⟨gb201, 0, none⟩ (.int .i64 t189)).setCell ⟨gb201, 1, none⟩ (.int .i64 t190)).setCell ⟨gb201, 2, none⟩ (.int .i64 t191)).setCell ⟨gb201, 3, none⟩ (.slice Ao60 t192.length co60)).setCell ⟨gb201, 4, none⟩ (.slice Ao61 t195.length co61)).setCell ⟨gb201, 5, none⟩ (.slice Ao62 t198.length co62)).heap[gb201]? = some (.cells #[.int .i64 t189, .int .i64 t190, .int .i64 t191, .slice Ao60 t192.length co60, .slice Ao61 t195.length co61, .slice Ao62 t198.length co62] 30 (0, 0))) := ⟨kpq_ (kputs BK201 [(0, _), (1, _), (2, _), (3, _), (4, _), (5, _)])⟩
         have n5_ : Aside0 (Below w.heap.size w ((((((w57.setCell ⟨gb201, 0, none⟩ (.int .i64 t189)).setCell ⟨gb201, 1, none⟩ (.int .i64 t190)).setCell ⟨gb201, 2, none⟩ (.int .i64 t191)).setCell ⟨gb201, 3, none⟩ (.slice Ao60 t192.length co60)).setCell ⟨gb201, 4, none⟩ (.slice Ao61 t195.length co61)).setCell ⟨gb201, 5, none⟩ (.slice Ao62 t198.length co62))) := ⟨hb_ HB⟩
         (try clear HO194)
         (try clear HO197)
         (try clear HO200)
         (try clear BK187)
         (try clear BK201)
         (try clear HB)
         generalize ((((((w57.setCell ⟨gb201, 0, none⟩ (.int .i64 t189)).setCell ⟨gb201, 1, none⟩ (.int .i64 t190)).setCell ⟨gb201, 2, none⟩ (.int .i64 t191)).setCell ⟨gb201, 3, none⟩ (.slice Ao60 t192.length co60)).setCell ⟨gb201, 4, none⟩ (.slice Ao61 t195.length co61)).setCell ⟨gb201, 5, none⟩ (.slice Ao62 t198.length co62)) = w63 at n0_ n1_ n2_ n3_ n4_ n5_ ⊢
         have HO194 := n0_
         have HO197 := n1_
         have HO200 := n2_
         have BK187 := n3_
         have BK201 := n4_
         have HB := n5_
         clear n0_ n1_ n2_ n3_ n4_ n5_
         have n0_ := Aside0.mk (Kd.R_drew HO194.out)
         have n1_ := Aside0.mk (Kd.R_drew HO197.out)
         have n2_ := Aside0.mk (Kd.R_drew HO200.out)
         have n3_ := Aside0.mk (blk_drew BK187.out)
         have n4_ := Aside0.mk (blk_drew BK201.out)
         have n5_ := Aside0.mk (below_drew1 HB.out)
         clear HO194
         clear HO197
         clear HO200
         clear BK187
         clear BK201
         clear HB
         have HO194 := n0_
         have HO197 := n1_
         have HO200 := n2_
         have BK187 := n3_
         have BK201 := n4_
         have HB := n5_
         clear n0_ n1_ n2_ n3_ n4_ n5_
         have p28 : 0 ≤ (a1 : Int) := of_decide_eq_true (by first | (with_reducible assumption) | assumption)
         have q28 : (a1 : Int) < ((t192.length : Int) : Int) := of_decide_eq_true (by first | (with_reducible assumption) | assumption)
         obtain ⟨go28, co28, eo28, gb28, gl28, cl28, HG28⟩ := Kd.R_form HO194.out (by omega)
         (first | cases eo28 | (injection eo28 with ea_ en_ ec_; (first | subst ea_ | (injection ea_ with ea_; subst ea_)); subst ec_; clear en_))
         have GB28 := Aside0.mk gb28
         have GG28 := Aside0.mk HG28
         clear gb28 gl28 HG28
         obtain ⟨hx28_0, hf28_0⟩ := Kd.R_celln 0 HO194.out (a1 : Int) p28 q28
         replace p28 := eq_true p28
         replace q28 := eq_true q28
         have HP65 := Kd.R_putn HO194.out (a1 : Int) a2
         rw [← Ny202.out] at HP65
         have HQ65 := Aside0.mk HP65
         clear HP65
         have p30 : 0 ≤ (a1 : Int) := of_decide_eq_true (by first | (with_reducible assumption) | assumption)
         have q30 : (a1 : Int) < ((t195.length : Int) : Int) := of_decide_eq_true (by first | (with_reducible assumption) | assumption)
         obtain ⟨go30, co30, eo30, gb30, gl30, cl30, HG30⟩ := Kd.R_form HO197.out (by omega)
         (first | cases eo30 | (injection eo30 with ea_ en_ ec_; (first | subst ea_ | (injection ea_ with ea_; subst ea_)); subst ec_; clear en_))
         have GB30 := Aside0.mk gb30
         have GG30 := Aside0.mk HG30
         clear gb30 gl30 HG30
         obtain ⟨hx30_0, hf30_0⟩ := Kd.R_celln 0 (Kd.R_far (p := ⟨go28, (a1 : Int).toNat, none⟩) (Kd.R_mono HO197.out (fun k_ hk => (⟨hk, fun e_ => hk.1 (by rw [e_]; rfl)⟩ : _ ∧ k_ ≠ go28))) (fun _ hk => hk.2) (.int .i64 a2)) (a1 : Int) p30 q30
         replace p30 := eq_true p30
         replace q30 := eq_true q30
         have HP66 := Kd.R_putn (Kd.R_far (p := ⟨go28, (a1 : Int).toNat, none⟩) (Kd.R_mono HO197.out (fun k_ hk => (⟨hk, fun e_ => hk.1 (by rw [e_]; rfl)⟩ : _ ∧ k_ ≠ go28))) (fun _ hk => hk.2) (.int .i64 a2)) (a1 : Int) a3
         rw [← Ny203.out] at HP66
         have HQ66 := Aside0.mk HP66
         clear HP66
         have p32 : 0 ≤ (a1 : Int) := of_decide_eq_true (by first | (with_reducible assumption) | assumption)
         have q32 : (a1 : Int) < ((t198.length : Int) : Int) := of_decide_eq_true (by first | (with_reducible assumption) | assumption)
         obtain ⟨go32, co32, eo32, gb32, gl32, cl32, HG32⟩ := Kd.R_form HO200.out (by omega)
         (first | cases eo32 | (injection eo32 with ea_ en_ ec_; (first | subst ea_ | (injection ea_ with ea_; subst ea_)); subst ec_; clear en_))
         have GB32 := Aside0.mk gb32
         have GG32 := Aside0.mk HG32
         clear gb32 gl32 HG32
         obtain ⟨hx32_0, hf32_0⟩ := Kd.R_celln 0 (Kd.R_far (p := ⟨go30, (a1 : Int).toNat, none⟩) (Kd.R_far (p := ⟨go28, (a1 : Int).toNat, none⟩) (Kd.R_mono (Kd.R_mono HO200.out (fun k_ hk => (⟨hk, fun e_ => hk.1 (by rw [e_]; rfl)⟩ : _ ∧ k_ ≠ go28))) (fun k_ hk => (⟨hk, fun e_ => hk.1.2 (by rw [e_]; rfl)⟩ : _ ∧ k_ ≠ go30))) (fun _ hk => hk.1.2) (.int .i64 a2)) (fun _ hk => hk.2) (.int .i64 a3)) (a1 : Int) p32 q32
         replace p32 := eq_true p32
         replace q32 := eq_true q32
         have HP67 := Kd.R_putn (Kd.R_far (p := ⟨go30, (a1 : Int).toNat, none⟩) (Kd.R_far (p := ⟨go28, (a1 : Int).toNat, none⟩) (Kd.R_mono (Kd.R_mono HO200.out (fun k_ hk => (⟨hk, fun e_ => hk.1 (by rw [e_]; rfl)⟩ : _ ∧ k_ ≠ go28))) (fun k_ hk => (⟨hk, fun e_ => hk.1.2 (by rw [e_]; rfl)⟩ : _ ∧ k_ ≠ go30))) (fun _ hk => hk.1.2) (.int .i64 a2)) (fun _ hk => hk.2) (.int .i64 a3)) (a1 : Int) a4
         rw [← Ny204.out] at HP67
         have HQ67 := Aside0.mk HP67
         clear HP67
         have NR201_go28 : gb201 ≠ go28 := (by have h_ := Kd.R_ne HO194.out BK201.out (by decide); intro e_; exact h_ (by rw [e_]; rfl))
         have NR201_go30 : gb201 ≠ go30 := (by have h_ := Kd.R_ne HO197.out BK201.out (by decide); intro e_; exact h_ (by rw [e_]; rfl))
         have NR201_go32 : gb201 ≠ go32 := (by have h_ := Kd.R_ne HO200.out BK201.out (by decide); intro e_; exact h_ (by rw [e_]; rfl))
         refine start_ (n := 18) (S := fun w' => w'.cell? ⟨gb201, 0, none⟩ = some (.int .i64 t189) ∧ w'.cell? ⟨gb201, 1, none⟩ = some (.int .i64 t190) ∧ w'.cell? ⟨gb201, 2, none⟩ = some (.int .i64 t191) ∧ w'.cell? ⟨gb201, 3, none⟩ = some (.slice (some ⟨go28, 0, none⟩) t192.length co60) ∧ w'.cell? ⟨gb201, 4, none⟩ = some (.slice (some ⟨go30, 0, none⟩) t195.length co61) ∧ w'.cell? ⟨gb201, 5, none⟩ = some (.slice (some ⟨go32, 0, none⟩) t198.length co62)) (ds := []) #[false, false, false, false, false, false, false, false, false, false, false, false, false, false, false, false, false, false] (by kernel_rfl) rfl rfl ⟨(blk_cell BK201.out 0).trans rfl, (blk_cell BK201.out 1).trans rfl, (blk_cell BK201.out 2).trans rfl, (blk_cell BK201.out 3).trans rfl, (blk_cell BK201.out 4).trans rfl, (blk_cell BK201.out 5).trans rfl⟩ (fun hHeld => ?_); refine with_tabW impl_SetBlock.tab4 impl_SetBlock.bits4 (fun HT_ HW_ => ?_)
         generalize w63.drew = w64 at HO194 HO197 HO200 BK187 BK201 HB GG28 GG30 GG32 HQ65 HQ66 HQ67 hf28_0 hf30_0 hf32_0 hx28_0 hx30_0 hx32_0 hHeld ⊢
         refine pure_ (i := 0) (N := some 30) (v := ?_) (a' := ?_) #[true, false, false, false, false, false, false, false, false, false, false, false, false, false, false, false, false, false] rfl rfl (any_of HT_.out (by kernel_rfl)) (fun _ _ _ h => h) (Or.inl ⟨by rfl, ?_⟩) ?_ ?_
         rotate_left
         ·intro w'
          go_simp
          with_reducible rfl
         rotate_left
         ·simp only [Act.put, List.setIfInBounds_toArray, List.set_cons_zero, List.set_cons_succ, i64_w, i32_w]
          rfl
         refine pure_ (i := 2) (N := some 32) (v := ?_) (a' := ?_) #[true, false, true, false, false, false, false, false, false, false, false, false, false, false, false, false, false, false] rfl rfl (any_of HT_.out (by kernel_rfl)) (fun _ _ _ h => h) (Or.inl ⟨by rfl, ?_⟩) ?_ ?_
         rotate_left
         ·intro w'
          go_simp
          with_reducible rfl
         rotate_left
         ·simp only [Act.put, List.setIfInBounds_toArray, List.set_cons_zero, List.set_cons_succ, i64_w, i32_w]
          rfl
         refine pure_ (i := 3) (N := some 33) (v := ?_) (a' := ?_) #[true, false, true, true, false, false, false, false, false, false, false, false, false, false, false, false, false, false] rfl rfl (any_of HT_.out (by kernel_rfl)) (fun _ _ _ h => h) (Or.inl ⟨by rfl, ?_⟩) ?_ ?_
         rotate_left
         ·intro w'
          go_simp
          with_reducible rfl
         rotate_left
         ·simp only [Act.put, List.setIfInBounds_toArray, List.set_cons_zero, List.set_cons_succ, i64_w, i32_w]
          rfl
         refine pure_ (i := 5) (N := some 35) (v := ?_) (a' := ?_) #[true, false, true, true, false, true, false, false, false, false, false, false, false, false, false, false, false, false] rfl rfl (any_of HT_.out (by kernel_rfl)) (fun _ _ _ h => h) (Or.inl ⟨by rfl, ?_⟩) ?_ ?_
         rotate_left
         ·intro w'
          go_simp
          with_reducible rfl
         rotate_left
         ·simp only [Act.put, List.setIfInBounds_toArray, List.set_cons_zero, List.set_cons_succ, i64_w, i32_w]
          rfl
         refine pure_ (i := 6) (N := some 36) (v := ?_) (a' := ?_) #[true, false, true, true, false, true, true, false, false, false, false, false, false, false, false, false, false, false] rfl rfl (any_of HT_.out (by kernel_rfl)) (fun _ _ _ h => h) (Or.inl ⟨by rfl, ?_⟩) ?_ ?_
         rotate_left
         ·intro w'
          go_simp
          with_reducible rfl
         rotate_left
         ·simp only [Act.put, List.setIfInBounds_toArray, List.set_cons_zero, List.set_cons_succ, i64_w, i32_w]
          rfl
         refine pure_ (i := 8) (N := some 38) (v := ?_) (a' := ?_) #[true, false, true, true, false, true, true, false, true, false, false, false, false, false, false, false, false, false] rfl rfl (any_of HT_.out (by kernel_rfl)) (fun _ _ _ h => h) (Or.inl ⟨by rfl, ?_⟩) ?_ ?_
         rotate_left
         ·intro w'
          go_simp
          with_reducible rfl
         rotate_left
         ·simp only [Act.put, List.setIfInBounds_toArray, List.set_cons_zero, List.set_cons_succ, i64_w, i32_w]
          rfl
         refine pure_ (i := 9) (N := some 39) (v := ?_) (a' := ?_) #[true, false, true, true, false, true, true, false, true, true, false, false, false, false, false, false, false, false] rfl rfl (any_of HT_.out (by kernel_rfl)) (fun _ _ _ h => h) (Or.inl ⟨by rfl, ?_⟩) ?_ ?_
         rotate_left
         ·intro w'
          go_simp
          with_reducible rfl
         rotate_left
         ·simp only [Act.put, List.setIfInBounds_toArray, List.set_cons_zero, List.set_cons_succ, i64_w, i32_w]
          rfl
         refine pure_ (i := 10) (N := some 40) (v := ?_) (a' := ?_) #[true, false, true, true, false, true, true, false, true, true, true, false, false, false, false, false, false, false] rfl rfl (any_of HT_.out (by kernel_rfl)) (fun _ _ _ h => h) (Or.inl ⟨by rfl, ?_⟩) ?_ ?_
         rotate_left
         ·intro w'
          go_simp
          with_reducible rfl
         rotate_left
         ·simp only [Act.put, List.setIfInBounds_toArray, List.set_cons_zero, List.set_cons_succ, i64_w, i32_w]
          rfl
         refine pure_ (i := 11) (N := some 41) (v := ?_) (a' := ?_) #[true, false, true, true, false, true, true, false, true, true, true, true, false, false, false, false, false, false] rfl rfl (any_of HT_.out (by kernel_rfl)) (fun _ _ _ h => h) (Or.inl ⟨by rfl, ?_⟩) ?_ ?_
         rotate_left
         ·intro w'
          go_simp
          with_reducible rfl
         rotate_left
         ·simp only [Act.put, List.setIfInBounds_toArray, List.set_cons_zero, List.set_cons_succ, i64_w, i32_w]
          rfl
         refine take_ (i := 1) (N := some 31) (v := ?_) (a' := ?_) #[true, true, true, true, false, true, true, false, true, true, true, true, false, false, false, false, false, false] rfl rfl (take_ofW HT_.out HW_.out (by kernel_rfl)) (fun _ _ _ h => h) (Or.inl ⟨by rfl, ?_⟩) hHeld ?_ ?_
         rotate_left
         ·rintro w' ⟨s0, s1, s2, s3, s4, s5⟩
          go_simp
          with_reducible rfl
         rotate_left
         ·simp only [Act.put, List.setIfInBounds_toArray, List.set_cons_zero, List.set_cons_succ, i64_w, i32_w]
          rfl
         refine pure_ (i := 12) (N := some 42) (v := ?_) (a' := ?_) #[true, true, true, true, false, true, true, false, true, true, true, true, true, false, false, false, false, false] rfl rfl (any_of HT_.out (by kernel_rfl)) (fun _ _ _ h => h) (Or.inl ⟨by rfl, ?_⟩) ?_ ?_
         rotate_left
         ·intro w'
          go_simp
          with_reducible rfl
         rotate_left
         ·simp only [Act.put, List.setIfInBounds_toArray, List.set_cons_zero, List.set_cons_succ, i64_w, i32_w]
          rfl
         refine take_ (i := 4) (N := some 34) (v := ?_) (a' := ?_) #[true, true, true, true, true, true, true, false, true, true, true, true, true, false, false, false, false, false] rfl rfl (take_ofW HT_.out HW_.out (by kernel_rfl)) (fun _ _ _ h => h) (Or.inl ⟨by rfl, ?_⟩) hHeld ?_ ?_
         rotate_left
         ·rintro w' ⟨s0, s1, s2, s3, s4, s5⟩
          go_simp
          with_reducible rfl
         rotate_left
         ·simp only [Act.put, List.setIfInBounds_toArray, List.set_cons_zero, List.set_cons_succ, i64_w, i32_w]
          rfl
         refine take_ (i := 7) (N := some 37) (v := ?_) (a' := ?_) #[true, true, true, true, true, true, true, true, true, true, true, true, true, false, false, false, false, false] rfl rfl (take_ofW HT_.out HW_.out (by kernel_rfl)) (fun _ _ _ h => h) (Or.inl ⟨by rfl, ?_⟩) hHeld ?_ ?_
         rotate_left
         ·rintro w' ⟨s0, s1, s2, s3, s4, s5⟩
          go_simp
          with_reducible rfl
         rotate_left
         ·simp only [Act.put, List.setIfInBounds_toArray, List.set_cons_zero, List.set_cons_succ, i64_w, i32_w]
          rfl
         refine one_ (i := 13) (N := none) #[true, true, true, true, true, true, true, true, true, true, true, true, true, true, false, false, false, false] rfl rfl (one_of HT_.out (by kernel_rfl)) (by decide) (fun K hK => ?_)
         refine skip_ (w1 := ?_) (by rfl) rfl ?_ ?_
         rotate_left
         ·go_simp
          rfl
         refine hK.out _ _ ⟨((cell_far (p := ⟨go28, _, none⟩) NR201_go28 _).trans (hHeld.1)), ((cell_far (p := ⟨go28, _, none⟩) NR201_go28 _).trans (hHeld.2.1)), ((cell_far (p := ⟨go28, _, none⟩) NR201_go28 _).trans (hHeld.2.2.1)), ((cell_far (p := ⟨go28, _, none⟩) NR201_go28 _).trans (hHeld.2.2.2.1)), ((cell_far (p := ⟨go28, _, none⟩) NR201_go28 _).trans (hHeld.2.2.2.2.1)), ((cell_far (p := ⟨go28, _, none⟩) NR201_go28 _).trans (hHeld.2.2.2.2.2))⟩ (fun hHeld => ?_)
         clear hK K
         refine pure_ (i := 14) (N := some 43) (v := ?_) (a' := ?_) #[true, true, true, true, true, true, true, true, true, true, true, true, true, true, true, false, false, false] rfl rfl (any_of HT_.out (by kernel_rfl)) (fun _ _ _ h => h) (Or.inl ⟨by rfl, ?_⟩) ?_ ?_
         rotate_left
         ·intro w'
          go_simp
          with_reducible rfl
         rotate_left
         ·simp only [Act.put, List.setIfInBounds_toArray, List.set_cons_zero, List.set_cons_succ, i64_w, i32_w]
          rfl
         refine one_ (i := 15) (N := none) #[true, true, true, true, true, true, true, true, true, true, true, true, true, true, true, true, false, false] rfl rfl (one_of HT_.out (by kernel_rfl)) (by decide) (fun K hK => ?_)
         refine skip_ (w1 := ?_) (by rfl) rfl ?_ ?_
         rotate_left
         ·go_simp
          rfl
         refine hK.out _ _ ⟨((cell_far (p := ⟨go30, _, none⟩) NR201_go30 _).trans (hHeld.1)), ((cell_far (p := ⟨go30, _, none⟩) NR201_go30 _).trans (hHeld.2.1)), ((cell_far (p := ⟨go30, _, none⟩) NR201_go30 _).trans (hHeld.2.2.1)), ((cell_far (p := ⟨go30, _, none⟩) NR201_go30 _).trans (hHeld.2.2.2.1)), ((cell_far (p := ⟨go30, _, none⟩) NR201_go30 _).trans (hHeld.2.2.2.2.1)), ((cell_far (p := ⟨go30, _, none⟩) NR201_go30 _).trans (hHeld.2.2.2.2.2))⟩ (fun hHeld => ?_)
         clear hK K
         refine pure_ (i := 16) (N := some 44) (v := ?_) (a' := ?_) #[true, true, true, true, true, true, true, true, true, true, true, true, true, true, true, true, true, false] rfl rfl (any_of HT_.out (by kernel_rfl)) (fun _ _ _ h => h) (Or.inl ⟨by rfl, ?_⟩) ?_ ?_
         rotate_left
         ·intro w'
          go_simp
          with_reducible rfl
         rotate_left
         ·simp only [Act.put, List.setIfInBounds_toArray, List.set_cons_zero, List.set_cons_succ, i64_w, i32_w]
          rfl
         refine one_ (i := 17) (N := none) #[true, true, true, true, true, true, true, true, true, true, true, true, true, true, true, true, true, true] rfl rfl (one_of HT_.out (by kernel_rfl)) (by decide) (fun K hK => ?_)
         refine skip_ (w1 := ?_) (by rfl) rfl ?_ ?_
         rotate_left
         ·go_simp
          rfl
         refine hK.out _ _ ⟨((cell_far (p := ⟨go32, _, none⟩) NR201_go32 _).trans (hHeld.1)), ((cell_far (p := ⟨go32, _, none⟩) NR201_go32 _).trans (hHeld.2.1)), ((cell_far (p := ⟨go32, _, none⟩) NR201_go32 _).trans (hHeld.2.2.1)), ((cell_far (p := ⟨go32, _, none⟩) NR201_go32 _).trans (hHeld.2.2.2.1)), ((cell_far (p := ⟨go32, _, none⟩) NR201_go32 _).trans (hHeld.2.2.2.2.1)), ((cell_far (p := ⟨go32, _, none⟩) NR201_go32 _).trans (hHeld.2.2.2.2.2))⟩ (fun hHeld => ?_)
         clear hK K
         refine done_ (done_of HT_.out (by kernel_rfl)) ?_
         have n0_ : Aside0 (Kd.R (Kd.int .i64) 3 (((w64.setCell ⟨go28, (a1 : Int).toNat, none⟩ (.int .i64 a2)).setCell ⟨go30, (a1 : Int).toNat, none⟩ (.int .i64 a3)).setCell ⟨go32, (a1 : Int).toNat, none⟩ (.int .i64 a4)) w.heap.size (fun k_ => some k_ ≠ (.slice (some ⟨go30, 0, none⟩) t195.length co61 : Value).ownBlock ∧ some k_ ≠ (.slice (some ⟨go32, 0, none⟩) t198.length co62 : Value).ownBlock) (.slice (some ⟨go28, 0, none⟩) t192.length co60) y202) := ⟨Kd.R_pp (Kd.R_mono (Kd.R_far (p := ⟨go32, (a1 : Int).toNat, none⟩) (Kd.R_far (p := ⟨go30, (a1 : Int).toNat, none⟩) (Kd.R_mono (Kd.R_mono HQ65.out (fun k_ hk => (⟨hk, fun e_ => hk.1 (by rw [e_]; rfl)⟩ : _ ∧ k_ ≠ go30))) (fun k_ hk => (⟨hk, fun e_ => hk.1.2 (by rw [e_]; rfl)⟩ : _ ∧ k_ ≠ go32))) (fun _ hk => hk.1.2) (.int .i64 a3)) (fun _ hk => hk.2) (.int .i64 a4)) (fun _ hk => ⟨hk.1.1.1, hk.1.1.2⟩))⟩
         have n1_ : Aside0 (Kd.R (Kd.int .i64) 3 (((w64.setCell ⟨go28, (a1 : Int).toNat, none⟩ (.int .i64 a2)).setCell ⟨go30, (a1 : Int).toNat, none⟩ (.int .i64 a3)).setCell ⟨go32, (a1 : Int).toNat, none⟩ (.int .i64 a4)) w.heap.size (fun k_ => some k_ ≠ (.slice (some ⟨go28, 0, none⟩) t192.length co60 : Value).ownBlock ∧ some k_ ≠ (.slice (some ⟨go32, 0, none⟩) t198.length co62 : Value).ownBlock) (.slice (some ⟨go30, 0, none⟩) t195.length co61) y203) := ⟨Kd.R_pp (Kd.R_mono (Kd.R_far (p := ⟨go32, (a1 : Int).toNat, none⟩) (Kd.R_mono HQ66.out (fun k_ hk => (⟨hk, fun e_ => hk.1.2 (by rw [e_]; rfl)⟩ : _ ∧ k_ ≠ go32))) (fun _ hk => hk.2) (.int .i64 a4)) (fun _ hk => ⟨hk.1.1.1, hk.1.1.2⟩))⟩
         have n2_ : Aside0 (Kd.R (Kd.int .i64) 3 (((w64.setCell ⟨go28, (a1 : Int).toNat, none⟩ (.int .i64 a2)).setCell ⟨go30, (a1 : Int).toNat, none⟩ (.int .i64 a3)).setCell ⟨go32, (a1 : Int).toNat, none⟩ (.int .i64 a4)) w.heap.size (fun k_ => some k_ ≠ (.slice (some ⟨go28, 0, none⟩) t192.length co60 : Value).ownBlock ∧ some k_ ≠ (.slice (some ⟨go30, 0, none⟩) t195.length co61 : Value).ownBlock) (.slice (some ⟨go32, 0, none⟩) t198.length co62) y204) := ⟨Kd.R_pp (Kd.R_mono HQ67.out (fun _ hk => ⟨hk.1.1.1, hk.1.1.2⟩))⟩
         have n3_ : Aside0 ((((w64.setCell ⟨go28, (a1 : Int).toNat, none⟩ (.int .i64 a2)).setCell ⟨go30, (a1 : Int).toNat, none⟩ (.int .i64 a3)).setCell ⟨go32, (a1 : Int).toNat, none⟩ (.int .i64 a4)).heap[gb187]? = some (.cells #[.int .i64 0, .int .i64 0, .int .i64 0, .slice none 0 0, .slice none 0 0, .slice none 0 0] 30 (0, 0))) := ⟨by (with_reducible repeat (first | refine blk_drewN ?_ _ | refine blk_drew ?_ | refine blk_alloc ?_ _)); refine blk_far ?_ (by have h_ := Kd.R_ne HO200.out BK187.out (by decide); intro e_; exact h_ (by rw [e_]; rfl)) _; (with_reducible repeat (first | refine blk_drewN ?_ _ | refine blk_drew ?_ | refine blk_alloc ?_ _)); refine blk_far ?_ (by have h_ := Kd.R_ne HO197.out BK187.out (by decide); intro e_; exact h_ (by rw [e_]; rfl)) _; (with_reducible repeat (first | refine blk_drewN ?_ _ | refine blk_drew ?_ | refine blk_alloc ?_ _)); refine blk_far ?_ (by have h_ := Kd.R_ne HO194.out BK187.out (by decide); intro e_; exact h_ (by rw [e_]; rfl)) _; (with_reducible repeat (first | refine blk_drewN ?_ _ | refine blk_drew ?_ | refine blk_alloc ?_ _)); exact BK187.out⟩
         have n4_ : Aside0 ((((w64.setCell ⟨go28, (a1 : Int).toNat, none⟩ (.int .i64 a2)).setCell ⟨go30, (a1 : Int).toNat, none⟩ (.int .i64 a3)).setCell ⟨go32, (a1 : Int).toNat, none⟩ (.int .i64 a4)).heap[gb201]? = some (.cells #[.int .i64 t189, .int .i64 t190, .int .i64 t191, .slice (some ⟨go28, 0, none⟩) t192.length co60, .slice (some ⟨go30, 0, none⟩) t195.length co61, .slice (some ⟨go32, 0, none⟩) t198.length co62] 30 (0, 0))) := ⟨by (with_reducible repeat (first | refine blk_drewN ?_ _ | refine blk_drew ?_ | refine blk_alloc ?_ _)); refine blk_far ?_ (by have h_ := Kd.R_ne HO200.out BK201.out (by decide); intro e_; exact h_ (by rw [e_]; rfl)) _; (with_reducible repeat (first | refine blk_drewN ?_ _ | refine blk_drew ?_ | refine blk_alloc ?_ _)); refine blk_far ?_ (by have h_ := Kd.R_ne HO197.out BK201.out (by decide); intro e_; exact h_ (by rw [e_]; rfl)) _; (with_reducible repeat (first | refine blk_drewN ?_ _ | refine blk_drew ?_ | refine blk_alloc ?_ _)); refine blk_far ?_ (by have h_ := Kd.R_ne HO194.out BK201.out (by decide); intro e_; exact h_ (by rw [e_]; rfl)) _; (with_reducible repeat (first | refine blk_drewN ?_ _ | refine blk_drew ?_ | refine blk_alloc ?_ _)); exact BK201.out⟩
         have n5_ : Aside0 (Below w.heap.size w (((w64.setCell ⟨go28, (a1 : Int).toNat, none⟩ (.int .i64 a2)).setCell ⟨go30, (a1 : Int).toNat, none⟩ (.int .i64 a3)).setCell ⟨go32, (a1 : Int).toNat, none⟩ (.int .i64 a4))) := ⟨by repeat (first | (with_reducible first | exact HB.out | apply below_alloc | apply pw_below_drewN | apply below_drew1 | refine below_set ?_ GB28.out | refine below_set ?_ GB30.out | refine below_set ?_ GB32.out | refine below_set ?_ GE187.out | refine below_set ?_ GE201.out) | exact HB.out)⟩
         (try clear HO194)
         (try clear HO197)
         (try clear HO200)
         (try clear BK187)
         (try clear BK201)
         (try clear HB)
         generalize (((w64.setCell ⟨go28, (a1 : Int).toNat, none⟩ (.int .i64 a2)).setCell ⟨go30, (a1 : Int).toNat, none⟩ (.int .i64 a3)).setCell ⟨go32, (a1 : Int).toNat, none⟩ (.int .i64 a4)) = w68 at n0_ n1_ n2_ n3_ n4_ n5_ ⊢
         have HO194 := n0_
         have HO197 := n1_
         have HO200 := n2_
         have BK187 := n3_
         have BK201 := n4_
         have HB := n5_
         clear n0_ n1_ n2_ n3_ n4_ n5_
         have hcz69_0 : w68.cell? ⟨gb201, 0, none⟩ = some (.int .i64 t189) := (blk_cell BK201.out 0).trans rfl
         have hcz69_1 : w68.cell? ⟨gb201, 1, none⟩ = some (.int .i64 t190) := (blk_cell BK201.out 1).trans rfl
         have hcz69_2 : w68.cell? ⟨gb201, 2, none⟩ = some (.int .i64 t191) := (blk_cell BK201.out 2).trans rfl
         have hcz69_3 : w68.cell? ⟨gb201, 3, none⟩ = some (.slice (some ⟨go28, 0, none⟩) t192.length co60) := (blk_cell BK201.out 3).trans rfl
         have hcz69_4 : w68.cell? ⟨gb201, 4, none⟩ = some (.slice (some ⟨go30, 0, none⟩) t195.length co61) := (blk_cell BK201.out 4).trans rfl
         have hcz69_5 : w68.cell? ⟨gb201, 5, none⟩ = some (.slice (some ⟨go32, 0, none⟩) t198.length co62) := (blk_cell BK201.out 5).trans rfl
         have hfz69_0 := blk_frozen BK201.out 0
         have hfz69_1 := blk_frozen BK201.out 1
         have hfz69_2 := blk_frozen BK201.out 2
         have hfz69_3 := blk_frozen BK201.out 3
         have hfz69_4 := blk_frozen BK201.out 4
         have hfz69_5 := blk_frozen BK201.out 5
         try go_wp2_with (first | ((with_reducible refine gate_callee (f := 38) rfl ?_); refine gl_ (some 46) Try.func38 #[.agg #[.int .i64 t189, .int .i64 t190, .int .i64 t191, .slice (some ⟨go28, 0, none⟩) y202.length co60, .slice (some ⟨go30, 0, none⟩) y203.length co61, .slice (some ⟨go32, 0, none⟩) y204.length co62]] rfl rfl rfl ?_ (by (try simp only [List.map_toArray, List.map_cons, List.map_nil]); first | done | (rw [show y202.length = t192.length from (Kd.R_reads' HO194.out).1.symm, show y203.length = t195.length from (Kd.R_reads' HO197.out).1.symm, show y204.length = t198.length from (Kd.R_reads' HO200.out).1.symm] <;> rfl) | rfl | (simp only [List.length_drop, List.length_take]; rfl)); (with_reducible refine (impl_IsModel.calls kj5 t189 t190 t191 _ _ y202 _ _ y203 _ _ y204 false _ ?side1 ?side2 ?side3 ?side4 ?side5 ?side6 A33.out).mono ?_); (case side1 => exact Kd.C_o HO194); (case side2 => rw [show y202.length = t192.length from (Kd.R_reads' HO194.out).1.symm]; exact (Kd.R_reads' HO194.out).2.1); (case side3 => exact Kd.C_o HO197); (case side4 => rw [show y203.length = t195.length from (Kd.R_reads' HO197.out).1.symm]; exact (Kd.R_reads' HO197.out).2.1); (case side5 => exact Kd.C_o HO200); (case side6 => rw [show y204.length = t198.length from (Kd.R_reads' HO200.out).1.symm]; exact (Kd.R_reads' HO200.out).2.1); rintro e w70 ⟨rfl, hb⟩; refine ⟨_, rfl, ?_⟩; replace HO194 := Kd.R_b HO194 hb; replace HO197 := Kd.R_b HO197 hb; replace HO200 := Kd.R_b HO200 hb; replace BK187 := kb_ BK187 hb; replace BK201 := kb_ BK201 hb; replace HB := hbs_ HB hb; (try clear hb); (try clear hb2); (try clear hk); (try clear hi); obtain ⟨hcz71_0, hcz71_1, hcz71_2, hcz71_3, hcz71_4, hcz71_5, hfz71_0, hfz71_1, hfz71_2, hfz71_3, hfz71_4, hfz71_5⟩ := bx6 BK187))
         refine bodyPost_ret (results_ct rfl _ _ gb187 30 #[.int .i64 0, .int .i64 0, .int .i64 0, .slice none 0 0, .slice none 0 0, .slice none 0 0] (0, 0) _ rfl (kpq_ (kputs BK187 [(0, _), (1, _), (2, _), (3, _), (4, _), (5, _)])) Try.underlying30 rfl (by kernel_rfl)) rfl ?_
         exact ⟨_, _, _, by first | rfl | (simp [errW_none, errW_some] <;> rfl) | (simp [*, errW_none, errW_some] <;> rfl), by first | exact Kd.R_nil _ _ _ _ _ | exact Kd.N_nil _ _ _ _ _ | exact Kd.V_nil _ _ _ _ _ | exact Kd.Q_nil _ _ _ _ _ | exact Kd.S_nil _ _ _ _ _, by first | exact Kd.R_nil _ _ _ _ _ | exact Kd.N_nil _ _ _ _ _ | exact Kd.V_nil _ _ _ _ _ | exact Kd.Q_nil _ _ _ _ _ | exact Kd.S_nil _ _ _ _ _, by first | exact Kd.R_nil _ _ _ _ _ | exact Kd.N_nil _ _ _ _ _ | exact Kd.V_nil _ _ _ _ _ | exact Kd.Q_nil _ _ _ _ _ | exact Kd.S_nil _ _ _ _ _, hb_ HB⟩
       ·rw [if_neg c31] at H
        exact absurd H (by simp)
      ·rw [if_neg c29] at H
       exact absurd H (by simp)
     ·rw [if_neg c27] at H
      exact absurd H (by simp)
    ·rw [if_neg c26] at H
     exact absurd H (by simp)

/-! ### laws_big: function 24 -/
def laws_big.f (l0 : List Int) (l1 : List Int) : Option (Bool) := if (l0.length : Int) > 1048576 then (some true) else (some (decide ((l1.length : Int) > (wrap64 (1048576 - (l0.length : Int))))))
set_option maxHeartbeats 8000000 in
set_option maxRecDepth 100000 in
theorem laws_big.calls (A0 : Option Addr) (c0 : Nat) (l0 : List Int) (A1 : Option Addr) (c1 : Nat) (l1 : List Int) (r : Bool) (w : World) (hr0 : Kd.C (Kd.int .u8) w A0 l0.length l0) (hc0 : l0.length ≤ c0) (hr1 : Kd.C (Kd.int .u8) w A1 l1.length l1) (hc1 : l1.length ≤ c1) (h : laws_big.f l0 l1 = some r) :
  Calls Try.prog 24 #[.slice A0 l0.length c0, .slice A1 l1.length c1] w fun e w' => e = .returned (.bool r) ∧ Drawn0 w w' := by
 have HR0 := Aside0.mk hr0
 have HC0 := Aside0.mk hc0
 clear hr0 hc0
 have HR1 := Aside0.mk hr1
 have HC1 := Aside0.mk hc1
 clear hr1 hc1
 have H : (if (l0.length : Int) > 1048576 then (some true) else (some (decide ((l1.length : Int) > (wrap64 (1048576 - (l0.length : Int))))))) = some r := h
 clear h
 by_cases c3 : (l0.length : Int) > 1048576
 ·rw [if_pos c3] at H
  have c3b0 : decide (1048576 < (l0.length : Int)) = true := decide_eq_true c3
  have c3b1 : decide (1048576 < l0.length) = true := decide_eq_true (by omega)
  clear c3
  obtain rfl := Option.some.inj H
  go_enter Try.func24, Try.ntmps24
  go_wp2
  go_ret
  exact ⟨by first | rfl | (simp; done) | (simp [*]; done), by repeat (first | exact Drawn0.refl _ | apply Drawn0.step)⟩
 ·rw [if_neg c3] at H
  have c3b0 : decide (1048576 < (l0.length : Int)) = false := decide_eq_false c3
  have c3b1 : decide (1048576 < l0.length) = false := decide_eq_false (by omega)
  clear c3
  obtain rfl := Option.some.inj H
  go_enter Try.func24, Try.ntmps24
  go_wp2
  go_ret
  exact ⟨by first | rfl | (simp; done) | (simp [*]; done), by repeat (first | exact Drawn0.refl _ | apply Drawn0.step)⟩

end Go.Proofs.Ytdfjlelbkkaloaa.PFnGrades
