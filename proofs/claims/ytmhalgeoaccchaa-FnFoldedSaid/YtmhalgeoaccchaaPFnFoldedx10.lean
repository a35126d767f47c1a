-- Laid for this claim by wip/tools/print2.sh, a changed copy of the kit's print (wip/tools/patch_print.py): not by print.sh.
import Derived.Test.YtmhalgeoaccchaaPFnFoldedx0
import Derived.Test.YtmhalgeoaccchaaPFnFoldedx9
namespace Go.Proofs.Ytmhalgeoaccchaa.PFnFolded
open Go.RowKit Go.Proofs.YtmhalgeoaccchaaW.PrintWords Go.Proofs.YtmhalgeoaccchaaW.PrintLast Go.Proofs.YtmhalgeoaccchaaW.PrintMore
attribute [local go_sem] max2_int min2_int max_two min_two max_three min_three max_four min_four   -- for this text's walks alone
set_option linter.unusedVariables false
set_option linter.unusedSimpArgs false

/-! ### impl_evalPart: function 17 -/
mutual
def impl_evalPart.j0 : Nat → List (S52) → List Int → List Int → Int → Int → Bool → Int → Int → Option (Int × Bool)
 | 0, _, _, _, _, _, _, _, _ => none
 | k + 1, x0, x2, x9, x10, x12, x59, x403000, x403001 => if x59 = true then (some (0, false)) else (if x403000 = 2 then ((impl_abs.f (wrap64 (x10 + x12))).bind fun t413 => (if t413 > 1000000000 then (some (0, false)) else (some (wrap64 (x10 + x12), true)))) else (if x403000 = 3 then ((impl_abs.f (wrap64 (x10 - x12))).bind fun t414 => (if t414 > 1000000000 then (some (0, false)) else (some (wrap64 (x10 - x12), true)))) else (if x403000 = 4 then ((impl_abs.f (wrap64 (x10 * x12))).bind fun t415 => (if t415 > 1000000000 then (some (0, false)) else (some (wrap64 (x10 * x12), true)))) else (if x403000 = 5 then (if x12 = 0 then (some (0, false)) else (if x12 < 0 then (impl_evalPart.j1 k (wrap64 (-x10)) (wrap64 (-x12))) else (impl_evalPart.j1 k x10 x12))) else (if x403000 = 6 then (if x10 < x12 then (impl_evalPart.j2 k x0 x2 x9 true) else (if x403000 = 7 then (if x10 = x12 then (impl_evalPart.j2 k x0 x2 x9 true) else (if x403000 = 8 then (impl_evalPart.j2 k x0 x2 x9 (decide (x10 > x12))) else (impl_evalPart.j2 k x0 x2 x9 false))) else (if x403000 = 8 then (impl_evalPart.j2 k x0 x2 x9 (decide (x10 > x12))) else (impl_evalPart.j2 k x0 x2 x9 false)))) else (if x403000 = 7 then (if x10 = x12 then (impl_evalPart.j2 k x0 x2 x9 true) else (if x403000 = 8 then (impl_evalPart.j2 k x0 x2 x9 (decide (x10 > x12))) else (impl_evalPart.j2 k x0 x2 x9 false))) else (if x403000 = 8 then (impl_evalPart.j2 k x0 x2 x9 (decide (x10 > x12))) else (impl_evalPart.j2 k x0 x2 x9 false))))))))
def impl_evalPart.j1 : Nat → Int → Int → Option (Int × Bool)
 | 0, _, _ => none
 | k + 1, x10, x12 => (impl_floorDiv.f x10 x12).bind fun t416 => ((impl_abs.f t416).bind fun t417 => (if t417 > 1000000000 then (some (0, false)) else (some (t416, true))))
def impl_evalPart.j2 : Nat → List (S52) → List Int → List Int → Bool → Option (Int × Bool)
 | 0, _, _, _, _ => none
 | k + 1, x0, x2, x9, x15 => if x15 = true then (if 2 < (x9.length : Int) then ((impl_evalPart.f k x0 (rd x9 2) x2).bind fun bt419 => (some (bt419.1, bt419.2))) else (none)) else (if 3 < (x9.length : Int) then ((impl_evalPart.f k x0 (rd x9 3) x2).bind fun bt422 => (some (bt422.1, bt422.2))) else (none))
def impl_evalPart.f : Nat → List (S52) → Int → List Int → Option (Int × Bool)
 | 0, _, _, _ => none
 | k + 1, l0, a1, l2 => if 0 ≤ a1 then (if a1 < (l0.length : Int) then (if ((rd_T52 l0 a1).f0) = 0 then (some ((rd_T52 l0 a1).f1, true)) else (if ((rd_T52 l0 a1).f0) = 1 then (if 0 ≤ ((rd_T52 l0 a1).f1) then (if ((rd_T52 l0 a1).f1) < (l2.length : Int) then (some (rd l2 ((rd_T52 l0 a1).f1), true)) else (none)) else (none)) else ((impl_partNeeds.f k l0 a1).bind fun t404 => (if 0 < (t404.length : Int) then ((impl_evalPart.f k l0 (rd t404 0) l2).bind fun bt408 => (if 1 < (t404.length : Int) then ((impl_evalPart.f k l0 (rd t404 1) l2).bind fun bt411 => (if bt408.2 = true then (impl_evalPart.j0 k l0 l2 t404 bt408.1 bt411.1 (!bt411.2) ((rd_T52 l0 a1).f0) ((rd_T52 l0 a1).f1)) else (impl_evalPart.j0 k l0 l2 t404 bt408.1 bt411.1 true ((rd_T52 l0 a1).f0) ((rd_T52 l0 a1).f1)))) else (none))) else (none))))) else (none)) else (none)
end
set_option maxHeartbeats 8000000 in
set_option maxRecDepth 100000 in
theorem impl_evalPart.calls (k : Nat) : ∀ (A0 : Option Addr) (c0 : Nat) (l0 : List (S52)) (a1 : Int) (A2 : Option Addr) (c2 : Nat) (l2 : List Int) (r1 : Int) (r2 : Bool) (w : World) (hr0 : Kd.C k52 w A0 l0.length l0) (hc0 : l0.length ≤ c0) (hr2 : Kd.C (Kd.int .i64) w A2 l2.length l2) (hc2 : l2.length ≤ c2) (h : impl_evalPart.f k l0 a1 l2 = some (r1, r2)),
  Calls Try.prog 17 #[.slice A0 l0.length c0, .int .i64 a1, .slice A2 l2.length c2] w fun e w' => e = .returned (.tuple #[.int .i64 r1, .bool r2]) ∧ Below w.heap.size w w' := by
 induction k using Nat.strongRecOn with
 | _ k ih =>
 intro A0 c0 l0 a1 A2 c2 l2 r1 r2 w hr0 hc0 hr2 hc2 h
 cases k with
 | zero => exact absurd h (by simp [impl_evalPart.f])
 | succ k =>
 simp only [impl_evalPart.f] at h
 have hu52 := Try.underlying52
 have HR0 := Aside0.mk hr0
 have HC0 := Aside0.mk hc0
 clear hr0 hc0
 have HR2 := Aside0.mk hr2
 have HC2 := Aside0.mk hc2
 clear hr2 hc2
 have HB := Aside0.mk (Below.refl w.heap.size w)
 have H : (if 0 ≤ a1 then (if a1 < (l0.length : Int) then (if ((rd_T52 l0 a1).f0) = 0 then (some ((rd_T52 l0 a1).f1, true)) else (if ((rd_T52 l0 a1).f0) = 1 then (if 0 ≤ ((rd_T52 l0 a1).f1) then (if ((rd_T52 l0 a1).f1) < (l2.length : Int) then (some (rd l2 ((rd_T52 l0 a1).f1), true)) else (none)) else (none)) else ((impl_partNeeds.f k l0 a1).bind fun t404 => (if 0 < (t404.length : Int) then ((impl_evalPart.f k l0 (rd t404 0) l2).bind fun bt408 => (if 1 < (t404.length : Int) then ((impl_evalPart.f k l0 (rd t404 1) l2).bind fun bt411 => (if bt408.2 = true then (impl_evalPart.j0 k l0 l2 t404 bt408.1 bt411.1 (!bt411.2) ((rd_T52 l0 a1).f0) ((rd_T52 l0 a1).f1)) else (impl_evalPart.j0 k l0 l2 t404 bt408.1 bt411.1 true ((rd_T52 l0 a1).f0) ((rd_T52 l0 a1).f1)))) else (none))) else (none))))) else (none)) else (none)) = some (r1, r2) := h
 clear h
 by_cases c4 : 0 ≤ a1
 ·rw [if_pos c4] at H
  have c4b0 : decide (0 ≤ a1) = true := decide_eq_true c4
  clear c4
  by_cases c5 : a1 < (l0.length : Int)
  ·rw [if_pos c5] at H
   have c5b0 : decide (a1 < (l0.length : Int)) = true := decide_eq_true c5
   clear c5
   by_cases c6 : ((rd_T52 l0 a1).f0) = 0
   ·rw [if_pos c6] at H
    have c6b0 : (((rd_T52 l0 a1).f0) == 0) = true := beq_iff_eq.mpr c6
    have c6b1 : (((rd_T52 l0 a1).f0) != 0) = false := bne_eq_false_iff_eq.mpr c6
    clear c6
    simp only [Option.some.injEq, Prod.mk.injEq] at H
    obtain ⟨rfl, rfl⟩ := H
    have p401 : 0 ≤ (a1 : Int) := of_decide_eq_true (by first | (with_reducible assumption) | assumption)
    have q401 : a1 < (l0.length : Int) := of_decide_eq_true (by first | (with_reducible assumption) | assumption)
    obtain ⟨ad401, e401, hx401_0, hx401_1⟩ := at_T52 HR0.out a1 p401 q401
    cases e401
    replace p401 := eq_true p401
    replace q401 := eq_true q401
    go_enter Try.func17, Try.ntmps17
    go_wp2_with (first | ((with_reducible refine gate_dst (N := 8) rfl ?_); refine box_event ?hg (N := 8) ?hd (cs := #[.int .i64 0, .int .i64 0]) (t := 52) ?hr ?_; (case hd => rfl); (case hg => rfl); (case hr => first | (go_simp; done) | (go_simp; rfl)); intro gb402 hg w7 hbox hb; have BK402 := Aside0.mk (hbox); have GW402 := gs_ hg HB; have GE402 := gs_ hg HB; replace HB := hbs_ HB hb; clear hb hbox hg; obtain ⟨hcz8_0, hcz8_1, hfz8_0, hfz8_1⟩ := bx2 BK402))
    go_ret2
    exact ⟨by first | rfl | (simp [errW_none, errW_some] <;> rfl) | (simp [*, errW_none, errW_some] <;> rfl), hb_ HB⟩
   ·rw [if_neg c6] at H
    have c6b0 : (((rd_T52 l0 a1).f0) == 0) = false := beq_eq_false_iff_ne.mpr c6
    have c6b1 : (((rd_T52 l0 a1).f0) != 0) = true := bne_iff_ne.mpr c6
    by_cases c9 : ((rd_T52 l0 a1).f0) = 1
    ·rw [if_pos c9] at H
     have c9b0 : (((rd_T52 l0 a1).f0) == 1) = true := beq_iff_eq.mpr c9
     have c9b1 : (((rd_T52 l0 a1).f0) != 1) = false := bne_eq_false_iff_eq.mpr c9
     clear c9
     by_cases c10 : 0 ≤ ((rd_T52 l0 a1).f1)
     ·rw [if_pos c10] at H
      have c10b0 : decide (0 ≤ ((rd_T52 l0 a1).f1)) = true := decide_eq_true c10
      clear c10
      by_cases c11 : ((rd_T52 l0 a1).f1) < (l2.length : Int)
      ·rw [if_pos c11] at H
       have c11b0 : decide (((rd_T52 l0 a1).f1) < (l2.length : Int)) = true := decide_eq_true c11
       clear c11
       simp only [Option.some.injEq, Prod.mk.injEq] at H
       obtain ⟨rfl, rfl⟩ := H
       have p401 : 0 ≤ (a1 : Int) := of_decide_eq_true (by first | (with_reducible assumption) | assumption)
       have q401 : a1 < (l0.length : Int) := of_decide_eq_true (by first | (with_reducible assumption) | assumption)
       obtain ⟨ad401, e401, hx401_0, hx401_1⟩ := at_T52 HR0.out a1 p401 q401
       cases e401
       replace p401 := eq_true p401
       replace q401 := eq_true q401
       go_enter Try.func17, Try.ntmps17
       go_wp2_with (first | ((with_reducible refine gate_dst (N := 8) rfl ?_); refine box_event ?hg (N := 8) ?hd (cs := #[.int .i64 0, .int .i64 0]) (t := 52) ?hr ?_; (case hd => rfl); (case hg => rfl); (case hr => first | (go_simp; done) | (go_simp; rfl)); intro gb402 hg w12 hbox hb; have BK402 := Aside0.mk (hbox); have GW402 := gs_ hg HB; have GE402 := gs_ hg HB; replace HB := hbs_ HB hb; clear hb hbox hg; obtain ⟨hcz13_0, hcz13_1, hfz13_0, hfz13_1⟩ := bx2 BK402; have p403 : 0 ≤ (((rd_T52 l0 a1).f1) : Int) := of_decide_eq_true (by first | (with_reducible assumption) | assumption); have q403 : ((rd_T52 l0 a1).f1) < (l2.length : Int) := of_decide_eq_true (by first | (with_reducible assumption) | assumption); obtain ⟨ad403, e403, hx403_0⟩ := Kd.at_int HR2.out ((rd_T52 l0 a1).f1) p403 q403; cases e403; have hn403_0 : ad403.block ≠ gb402 := Nat.ne_of_lt (Nat.lt_of_lt_of_le (by have := World.block_lt_of_cell? _ _ hx403_0; first | rwa [add_block] at this | exact this) GW402.out); have hn403_1 : ad403.block ≠ gb402 := Nat.ne_of_lt (Nat.lt_of_lt_of_le (by have := World.block_lt_of_cell? _ _ hx403_0; first | rwa [add_block] at this | exact this) GW402.out); replace hx403_0 := (HB.out.cell (World.block_lt_of_cell? w _ hx403_0)).trans hx403_0; replace hx403_0 := (cell_far (p := ⟨gb402, 0, none⟩) (by first | (rw [add_block]; exact hn403_0) | (show (Addr.add _ _).block ≠ _; rw [add_block]; exact hn403_0) | exact hn403_0) (.int .i64 ((rd_T52 l0 a1).f0))).trans hx403_0; replace hx403_0 := (cell_far (p := ⟨gb402, 1, none⟩) (by first | (rw [add_block]; exact hn403_1) | (show (Addr.add _ _).block ≠ _; rw [add_block]; exact hn403_1) | exact hn403_1) (.int .i64 ((rd_T52 l0 a1).f1))).trans hx403_0; clear hn403_0 hn403_1; replace p403 := eq_true p403; replace q403 := eq_true q403))
       go_ret2
       exact ⟨by first | rfl | (simp [errW_none, errW_some] <;> rfl) | (simp [*, errW_none, errW_some] <;> rfl), hb_ HB⟩
      ·rw [if_neg c11] at H
       exact absurd H (by simp)
     ·rw [if_neg c10] at H
      exact absurd H (by simp)
    ·rw [if_neg c9] at H
     have c9b0 : (((rd_T52 l0 a1).f0) == 1) = false := beq_eq_false_iff_ne.mpr c9
     have c9b1 : (((rd_T52 l0 a1).f0) != 1) = true := bne_iff_ne.mpr c9
     replace H := Option.bind_eq_some_iff.mp H
     obtain ⟨t404, A140, H⟩ := H
     replace H : (if 0 < (t404.length : Int) then ((impl_evalPart.f k l0 (rd t404 0) l2).bind fun bt408 => (if 1 < (t404.length : Int) then ((impl_evalPart.f k l0 (rd t404 1) l2).bind fun bt411 => (if bt408.2 = true then (impl_evalPart.j0 k l0 l2 t404 bt408.1 bt411.1 (!bt411.2) ((rd_T52 l0 a1).f0) ((rd_T52 l0 a1).f1)) else (impl_evalPart.j0 k l0 l2 t404 bt408.1 bt411.1 true ((rd_T52 l0 a1).f0) ((rd_T52 l0 a1).f1)))) else (none))) else (none)) = some (r1, r2) := H
     have A14 := Aside0.mk A140
     clear A140
     by_cases c15 : 0 < (t404.length : Int)
     ·rw [if_pos c15] at H
      have c15b0 : decide (0 < (t404.length : Int)) = true := decide_eq_true c15
      have c15b1 : decide (0 < t404.length) = true := decide_eq_true (by omega)
      clear c15
      replace H := Option.bind_eq_some_iff.mp H
      obtain ⟨⟨t408, t409⟩, A160, H⟩ := H
      replace H : (if 1 < (t404.length : Int) then ((impl_evalPart.f k l0 (rd t404 1) l2).bind fun bt411 => (if t409 = true then (impl_evalPart.j0 k l0 l2 t404 t408 bt411.1 (!bt411.2) ((rd_T52 l0 a1).f0) ((rd_T52 l0 a1).f1)) else (impl_evalPart.j0 k l0 l2 t404 t408 bt411.1 true ((rd_T52 l0 a1).f0) ((rd_T52 l0 a1).f1)))) else (none)) = some (r1, r2) := H
      have A16 := Aside0.mk A160
      clear A160
      by_cases c17 : 1 < (t404.length : Int)
      ·rw [if_pos c17] at H
       have c17b0 : decide (1 < (t404.length : Int)) = true := decide_eq_true c17
       have c17b1 : decide (1 < t404.length) = true := decide_eq_true (by omega)
       clear c17
       replace H := Option.bind_eq_some_iff.mp H
       obtain ⟨⟨t411, t412⟩, A180, H⟩ := H
       replace H : (if t409 = true then (impl_evalPart.j0 k l0 l2 t404 t408 t411 (!t412) ((rd_T52 l0 a1).f0) ((rd_T52 l0 a1).f1)) else (impl_evalPart.j0 k l0 l2 t404 t408 t411 true ((rd_T52 l0 a1).f0) ((rd_T52 l0 a1).f1))) = some (r1, r2) := H
       have A18 := Aside0.mk A180
       clear A180
       have HC19 := Aside0.mk H
       clear H
       have p401 : 0 ≤ (a1 : Int) := of_decide_eq_true (by first | (with_reducible assumption) | assumption)
       have q401 : a1 < (l0.length : Int) := of_decide_eq_true (by first | (with_reducible assumption) | assumption)
       obtain ⟨ad401, e401, hx401_0, hx401_1⟩ := at_T52 HR0.out a1 p401 q401
       cases e401
       replace p401 := eq_true p401
       replace q401 := eq_true q401
       go_enter Try.func17, Try.ntmps17
       go_upto_region 10 with (first | ((with_reducible refine gate_dst (N := 8) rfl ?_); refine box_event ?hg (N := 8) ?hd (cs := #[.int .i64 0, .int .i64 0]) (t := 52) ?hr ?_; (case hd => rfl); (case hg => rfl); (case hr => first | (go_simp; done) | (go_simp; rfl)); intro gb402 hg w20 hbox hb; have BK402 := Aside0.mk (hbox); have GW402 := gs_ hg HB; have GE402 := gs_ hg HB; replace HB := hbs_ HB hb; clear hb hbox hg; obtain ⟨hcz21_0, hcz21_1, hfz21_0, hfz21_1⟩ := bx2 BK402) | ((with_reducible refine gate_callee (f := 29) rfl ?_); refine gl_ (some 35) Try.func29 #[.slice (some ad401) l0.length c0, .int .i64 a1] rfl rfl rfl ?_; (with_reducible refine (impl_partNeeds.calls k _ _ l0 a1 t404 _ ?side1 ?side2 A14.out).mono ?_); (case side1 => exact Kd.C_below HR0.out (hb_ HB)); (case side2 => exact HC0.out); rintro e w22 ⟨v405, rfl, ho0, hb⟩; refine ⟨_, rfl, ?_⟩; have HO406 := Kd.R_lo ho0 HB; replace BK402 := Aside0.mk (blk_below (g := gb402) (o := .cells #[.int .i64 ((rd_T52 l0 a1).f0), .int .i64 ((rd_T52 l0 a1).f1)] 52 (0, 0)) (kpq_ (kputs BK402 [(0, _), (1, _)])) hb); replace HB := hbs_ HB hb; (try clear hb); (try clear hb2); (try clear hk); (try clear hi); (try clear ho0); obtain ⟨Ao23, co23, eo23⟩ := Kd.R_slice HO406.out; subst eo23; have p407 : 0 ≤ (0 : Int) := (by omega); have q407 : 0 < (t404.length : Int) := of_decide_eq_true (by first | (with_reducible assumption) | assumption); obtain ⟨ad407, e407, hx407_0⟩ := Kd.at_int (Kd.R_reads' HO406.out).2.2 0 p407 q407; cases e407; have qi407 : (0 < t404.length) = True := eq_true (by omega); (try rw [show ((0 : Int)).toNat = 0 from rfl] at hx407_0); (try rw [Addr.add_zero'] at hx407_0); replace p407 := eq_true p407; replace q407 := eq_true q407) | ((with_reducible refine gate_callee (f := 17) rfl ?_); refine gl_ (some 42) Try.func17 #[.slice (some ad401) l0.length c0, .int .i64 (rd t404 0), .slice A2 l2.length c2] rfl rfl rfl ?_; (with_reducible refine (ih k (by omega) _ _ l0 (rd t404 0) _ _ l2 t408 t409 _ ?side1 ?side2 ?side3 ?side4 A16.out).mono ?_); (case side1 => exact Kd.C_w HR0 HB); (case side2 => exact HC0.out); (case side3 => exact Kd.C_w HR2 HB); (case side4 => exact HC2.out); rintro e w24 ⟨rfl, hb⟩; refine ⟨_, rfl, ?_⟩; replace HO406 := Kd.R_b HO406 hb; replace BK402 := kb_ BK402 hb; replace HB := hbs_ HB hb; (try clear hb); (try clear hb2); (try clear hk); (try clear hi); have p410 : 0 ≤ (1 : Int) := (by omega); have q410 : 1 < (t404.length : Int) := of_decide_eq_true (by first | (with_reducible assumption) | assumption); obtain ⟨ad410, e410, hx410_0⟩ := Kd.at_int (Kd.R_reads' HO406.out).2.2 1 p410 q410; obtain rfl : ad407 = ad410 := (by injection e410); (try simp only [show (1 : Int).toNat = 1 from rfl, Nat.reduceMul, Nat.reduceEqDiff, Go.Addr.add, ↓reduceIte] at hx410_0); have qi410 : (1 < t404.length) = True := eq_true (by omega); (try rw [show ((1 : Int)).toNat = 1 from rfl] at hx410_0); replace p410 := eq_true p410; replace q410 := eq_true q410) | ((with_reducible refine gate_callee (f := 17) rfl ?_); refine gl_ (some 51) Try.func17 #[.slice (some ad401) l0.length c0, .int .i64 (rd t404 1), .slice A2 l2.length c2] rfl rfl rfl ?_; (with_reducible refine (ih k (by omega) _ _ l0 (rd t404 1) _ _ l2 t411 t412 _ ?side1 ?side2 ?side3 ?side4 A18.out).mono ?_); (case side1 => exact Kd.C_w HR0 HB); (case side2 => exact HC0.out); (case side3 => exact Kd.C_w HR2 HB); (case side4 => exact HC2.out); rintro e w25 ⟨rfl, hb⟩; refine ⟨_, rfl, ?_⟩; replace HO406 := Kd.R_b HO406 hb; replace BK402 := kb_ BK402 hb; replace HB := hbs_ HB hb; (try clear hb); (try clear hb2); (try clear hk); (try clear hi)))
       (try simp only [Act.put, List.setIfInBounds_toArray, List.set_cons_zero, List.set_cons_succ])
       go_cut [59] (fun v59 wc => ∃ (kq : Nat) (x59_18 : Bool), v59 = .bool x59_18 ∧ Aside0 (impl_evalPart.j0 kq l0 l2 t404 t408 t411 x59_18 ((rd_T52 l0 a1).f0) ((rd_T52 l0 a1).f1) = some (r1, r2)) ∧ Aside0 (kq ≤ k) ∧ Aside0 (Kd.R (Kd.int .i64) 3 wc w.heap.size (fun _ => True) (.slice (some ad407) t404.length co23) t404) ∧ Aside0 (wc.heap[gb402]? = some (.cells #[.int .i64 ((rd_T52 l0 a1).f0), .int .i64 ((rd_T52 l0 a1).f1)] 52 (0, 0))) ∧ Aside0 (Below w.heap.size w wc))
       case first =>
        have H := HC19.out
        clear HC19
        by_cases c26 : t409 = true
        ·subst c26
         have H1 : (impl_evalPart.j0 k l0 l2 t404 t408 t411 (!t412) ((rd_T52 l0 a1).f0) ((rd_T52 l0 a1).f1)) = some (r1, r2) := by rw [if_pos rfl] at H; exact H
         clear H
         have H := H1
         clear H1
         have H' := Aside0.mk H
         clear H
         go_wp2
         go_meet
         case rel => exact ⟨_, (!t412), (by first | rfl | (simp; done) | (simp [*]; done)), H', ⟨by first | omega | exact Nat.le_refl _⟩, ⟨Kd.R_p HO406⟩, ⟨kp_ BK402⟩, ⟨hb_ HB⟩⟩
        ·replace c26 := Bool.eq_false_iff.mpr c26
         subst c26
         have H1 : (impl_evalPart.j0 k l0 l2 t404 t408 t411 true ((rd_T52 l0 a1).f0) ((rd_T52 l0 a1).f1)) = some (r1, r2) := by rw [if_neg (show ¬ (false = true) by decide)] at H; exact H
         clear H
         have H := H1
         clear H1
         have H' := Aside0.mk H
         clear H
         go_wp2
         go_meet
         case rel => exact ⟨_, (true), (by first | rfl | (simp; done) | (simp [*]; done)), H', ⟨by first | omega | exact Nat.le_refl _⟩, ⟨Kd.R_p HO406⟩, ⟨kp_ BK402⟩, ⟨hb_ HB⟩⟩
       case rest =>
        clear HC19
        (try clear c1); (try clear c2); (try clear p2); (try clear c4); (try clear c4b0); (try clear p4); (try clear q4); (try clear hx4); (try clear qi4); (try clear c5); (try clear c5b0); (try clear c6); (try clear c6b0); (try clear c6b1); (try clear c9); (try clear c9b0); (try clear c9b1); (try clear c10); (try clear c10b0); (try clear c11); (try clear c11b0); (try clear c15); (try clear c15b0); (try clear c15b1); (try clear c17); (try clear c17b0); (try clear c17b1); (try clear c26); (try clear hcz21_0); (try clear hcz21_1); (try clear hfz21_0); (try clear hfz21_1); (try clear hx401_0); (try clear hx401_1); (try clear hx407_0); (try clear hx410_0); (try clear p401); (try clear p407); (try clear p410); (try clear q401); (try clear q407); (try clear q410)
        obtain ⟨kq, x59_18, rfl, HA, HJ18, HO_9, BK402, HB⟩ := hcut
        cases kq with
        | zero => exact absurd HA.out (by simp [impl_evalPart.j0])
        | succ kj18 =>
         have H := HA.out
         clear HA
         simp only [impl_evalPart.j0] at H
         by_cases c27 : x59_18 = true
         ·subst c27
          have H1 : (some (0, false)) = some (r1, r2) := by rw [if_pos rfl] at H; exact H
          clear H
          have H := H1
          clear H1
          simp only [Option.some.injEq, Prod.mk.injEq] at H
          obtain ⟨rfl, rfl⟩ := H
          go_wp2
          go_ret2
          exact ⟨by first | rfl | (simp [errW_none, errW_some] <;> rfl) | (simp [*, errW_none, errW_some] <;> rfl), hb_ HB⟩
         ·replace c27 := Bool.eq_false_iff.mpr c27
          subst c27
          have H1 : (if ((rd_T52 l0 a1).f0) = 2 then ((impl_abs.f (wrap64 (t408 + t411))).bind fun t413 => (if t413 > 1000000000 then (some (0, false)) else (some (wrap64 (t408 + t411), true)))) else (if ((rd_T52 l0 a1).f0) = 3 then ((impl_abs.f (wrap64 (t408 - t411))).bind fun t414 => (if t414 > 1000000000 then (some (0, false)) else (some (wrap64 (t408 - t411), true)))) else (if ((rd_T52 l0 a1).f0) = 4 then ((impl_abs.f (wrap64 (t408 * t411))).bind fun t415 => (if t415 > 1000000000 then (some (0, false)) else (some (wrap64 (t408 * t411), true)))) else (if ((rd_T52 l0 a1).f0) = 5 then (if t411 = 0 then (some (0, false)) else (if t411 < 0 then (impl_evalPart.j1 kj18 (wrap64 (-t408)) (wrap64 (-t411))) else (impl_evalPart.j1 kj18 t408 t411))) else (if ((rd_T52 l0 a1).f0) = 6 then (if t408 < t411 then (impl_evalPart.j2 kj18 l0 l2 t404 true) else (if ((rd_T52 l0 a1).f0) = 7 then (if t408 = t411 then (impl_evalPart.j2 kj18 l0 l2 t404 true) else (if ((rd_T52 l0 a1).f0) = 8 then (impl_evalPart.j2 kj18 l0 l2 t404 (decide (t408 > t411))) else (impl_evalPart.j2 kj18 l0 l2 t404 false))) else (if ((rd_T52 l0 a1).f0) = 8 then (impl_evalPart.j2 kj18 l0 l2 t404 (decide (t408 > t411))) else (impl_evalPart.j2 kj18 l0 l2 t404 false)))) else (if ((rd_T52 l0 a1).f0) = 7 then (if t408 = t411 then (impl_evalPart.j2 kj18 l0 l2 t404 true) else (if ((rd_T52 l0 a1).f0) = 8 then (impl_evalPart.j2 kj18 l0 l2 t404 (decide (t408 > t411))) else (impl_evalPart.j2 kj18 l0 l2 t404 false))) else (if ((rd_T52 l0 a1).f0) = 8 then (impl_evalPart.j2 kj18 l0 l2 t404 (decide (t408 > t411))) else (impl_evalPart.j2 kj18 l0 l2 t404 false)))))))) = some (r1, r2) := by rw [if_neg (show ¬ (false = true) by decide)] at H; exact H
          clear H
          have H := H1
          clear H1
          by_cases c28 : ((rd_T52 l0 a1).f0) = 2
          ·rw [if_pos c28] at H
           have c28b0 : (((rd_T52 l0 a1).f0) == 2) = true := beq_iff_eq.mpr c28
           have c28b1 : (((rd_T52 l0 a1).f0) != 2) = false := bne_eq_false_iff_eq.mpr c28
           clear c28
           replace H := Option.bind_eq_some_iff.mp H
           obtain ⟨t413, A290, H⟩ := H
           replace H : (if t413 > 1000000000 then (some (0, false)) else (some (wrap64 (t408 + t411), true))) = some (r1, r2) := H
           have A29 := Aside0.mk A290
           clear A290
           by_cases c30 : t413 > 1000000000
           ·rw [if_pos c30] at H
            have c30b0 : decide (1000000000 < t413) = true := decide_eq_true c30
            clear c30
            simp only [Option.some.injEq, Prod.mk.injEq] at H
            obtain ⟨rfl, rfl⟩ := H
            have hcz31_0 : wc.cell? ⟨gb402, 0, none⟩ = some (.int .i64 ((rd_T52 l0 a1).f0)) := (blk_cell BK402.out 0).trans rfl
            have hcz31_1 : wc.cell? ⟨gb402, 1, none⟩ = some (.int .i64 ((rd_T52 l0 a1).f1)) := (blk_cell BK402.out 1).trans rfl
            have hfz31_0 := blk_frozen BK402.out 0
            have hfz31_1 := blk_frozen BK402.out 1
            go_wp2_with (first | ((with_reducible refine gate_callee (f := 31) rfl ?_); refine gl_ (some 136) Try.func31 #[.int .i64 (wrap64 (t408 + t411))] rfl rfl rfl ?_; (with_reducible refine (impl_abs.calls (wrap64 (t408 + t411)) t413 _ A29.out).mono ?_); rintro e w32 ⟨rfl, hb⟩; refine ⟨_, rfl, ?_⟩; replace HO_9 := Kd.R_b HO_9 hb; replace BK402 := kb_ BK402 hb; replace HB := hbs_ HB hb; (try clear hb); (try clear hb2); (try clear hk); (try clear hi)))
            go_ret2
            exact ⟨by first | rfl | (simp [errW_none, errW_some] <;> rfl) | (simp [*, errW_none, errW_some] <;> rfl), hb_ HB⟩
           ·rw [if_neg c30] at H
            have c30b0 : decide (1000000000 < t413) = false := decide_eq_false c30
            clear c30
            simp only [Option.some.injEq, Prod.mk.injEq] at H
            obtain ⟨rfl, rfl⟩ := H
            have hcz33_0 : wc.cell? ⟨gb402, 0, none⟩ = some (.int .i64 ((rd_T52 l0 a1).f0)) := (blk_cell BK402.out 0).trans rfl
            have hcz33_1 : wc.cell? ⟨gb402, 1, none⟩ = some (.int .i64 ((rd_T52 l0 a1).f1)) := (blk_cell BK402.out 1).trans rfl
            have hfz33_0 := blk_frozen BK402.out 0
            have hfz33_1 := blk_frozen BK402.out 1
            go_wp2_with (first | ((with_reducible refine gate_callee (f := 31) rfl ?_); refine gl_ (some 136) Try.func31 #[.int .i64 (wrap64 (t408 + t411))] rfl rfl rfl ?_; (with_reducible refine (impl_abs.calls (wrap64 (t408 + t411)) t413 _ A29.out).mono ?_); rintro e w34 ⟨rfl, hb⟩; refine ⟨_, rfl, ?_⟩; replace HO_9 := Kd.R_b HO_9 hb; replace BK402 := kb_ BK402 hb; replace HB := hbs_ HB hb; (try clear hb); (try clear hb2); (try clear hk); (try clear hi)))
            go_ret2
            exact ⟨by first | rfl | (simp [errW_none, errW_some] <;> rfl) | (simp [*, errW_none, errW_some] <;> rfl), hb_ HB⟩
          ·rw [if_neg c28] at H
           have c28b0 : (((rd_T52 l0 a1).f0) == 2) = false := beq_eq_false_iff_ne.mpr c28
           have c28b1 : (((rd_T52 l0 a1).f0) != 2) = true := bne_iff_ne.mpr c28
           by_cases c35 : ((rd_T52 l0 a1).f0) = 3
           ·rw [if_pos c35] at H
            have c35b0 : (((rd_T52 l0 a1).f0) == 3) = true := beq_iff_eq.mpr c35
            have c35b1 : (((rd_T52 l0 a1).f0) != 3) = false := bne_eq_false_iff_eq.mpr c35
            clear c35
            replace H := Option.bind_eq_some_iff.mp H
            obtain ⟨t414, A360, H⟩ := H
            replace H : (if t414 > 1000000000 then (some (0, false)) else (some (wrap64 (t408 - t411), true))) = some (r1, r2) := H
            have A36 := Aside0.mk A360
            clear A360
            by_cases c37 : t414 > 1000000000
            ·rw [if_pos c37] at H
             have c37b0 : decide (1000000000 < t414) = true := decide_eq_true c37
             clear c37
             simp only [Option.some.injEq, Prod.mk.injEq] at H
             obtain ⟨rfl, rfl⟩ := H
             have hcz38_0 : wc.cell? ⟨gb402, 0, none⟩ = some (.int .i64 ((rd_T52 l0 a1).f0)) := (blk_cell BK402.out 0).trans rfl
             have hcz38_1 : wc.cell? ⟨gb402, 1, none⟩ = some (.int .i64 ((rd_T52 l0 a1).f1)) := (blk_cell BK402.out 1).trans rfl
             have hfz38_0 := blk_frozen BK402.out 0
             have hfz38_1 := blk_frozen BK402.out 1
             go_wp2_with (first | ((with_reducible refine gate_callee (f := 31) rfl ?_); refine gl_ (some 136) Try.func31 #[.int .i64 (wrap64 (t408 - t411))] rfl rfl rfl ?_; (with_reducible refine (impl_abs.calls (wrap64 (t408 - t411)) t414 _ A36.out).mono ?_); rintro e w39 ⟨rfl, hb⟩; refine ⟨_, rfl, ?_⟩; replace HO_9 := Kd.R_b HO_9 hb; replace BK402 := kb_ BK402 hb; replace HB := hbs_ HB hb; (try clear hb); (try clear hb2); (try clear hk); (try clear hi)))
             go_ret2
             exact ⟨by first | rfl | (simp [errW_none, errW_some] <;> rfl) | (simp [*, errW_none, errW_some] <;> rfl), hb_ HB⟩
            ·rw [if_neg c37] at H
             have c37b0 : decide (1000000000 < t414) = false := decide_eq_false c37
             clear c37
             simp only [Option.some.injEq, Prod.mk.injEq] at H
             obtain ⟨rfl, rfl⟩ := H
             have hcz40_0 : wc.cell? ⟨gb402, 0, none⟩ = some (.int .i64 ((rd_T52 l0 a1).f0)) := (blk_cell BK402.out 0).trans rfl
             have hcz40_1 : wc.cell? ⟨gb402, 1, none⟩ = some (.int .i64 ((rd_T52 l0 a1).f1)) := (blk_cell BK402.out 1).trans rfl
             have hfz40_0 := blk_frozen BK402.out 0
             have hfz40_1 := blk_frozen BK402.out 1
             go_wp2_with (first | ((with_reducible refine gate_callee (f := 31) rfl ?_); refine gl_ (some 136) Try.func31 #[.int .i64 (wrap64 (t408 - t411))] rfl rfl rfl ?_; (with_reducible refine (impl_abs.calls (wrap64 (t408 - t411)) t414 _ A36.out).mono ?_); rintro e w41 ⟨rfl, hb⟩; refine ⟨_, rfl, ?_⟩; replace HO_9 := Kd.R_b HO_9 hb; replace BK402 := kb_ BK402 hb; replace HB := hbs_ HB hb; (try clear hb); (try clear hb2); (try clear hk); (try clear hi)))
             go_ret2
             exact ⟨by first | rfl | (simp [errW_none, errW_some] <;> rfl) | (simp [*, errW_none, errW_some] <;> rfl), hb_ HB⟩
           ·rw [if_neg c35] at H
            have c35b0 : (((rd_T52 l0 a1).f0) == 3) = false := beq_eq_false_iff_ne.mpr c35
            have c35b1 : (((rd_T52 l0 a1).f0) != 3) = true := bne_iff_ne.mpr c35
            by_cases c42 : ((rd_T52 l0 a1).f0) = 4
            ·rw [if_pos c42] at H
             have c42b0 : (((rd_T52 l0 a1).f0) == 4) = true := beq_iff_eq.mpr c42
             have c42b1 : (((rd_T52 l0 a1).f0) != 4) = false := bne_eq_false_iff_eq.mpr c42
             clear c42
             replace H := Option.bind_eq_some_iff.mp H
             obtain ⟨t415, A430, H⟩ := H
             replace H : (if t415 > 1000000000 then (some (0, false)) else (some (wrap64 (t408 * t411), true))) = some (r1, r2) := H
             have A43 := Aside0.mk A430
             clear A430
             by_cases c44 : t415 > 1000000000
             ·rw [if_pos c44] at H
              have c44b0 : decide (1000000000 < t415) = true := decide_eq_true c44
              clear c44
              simp only [Option.some.injEq, Prod.mk.injEq] at H
              obtain ⟨rfl, rfl⟩ := H
              have hcz45_0 : wc.cell? ⟨gb402, 0, none⟩ = some (.int .i64 ((rd_T52 l0 a1).f0)) := (blk_cell BK402.out 0).trans rfl
              have hcz45_1 : wc.cell? ⟨gb402, 1, none⟩ = some (.int .i64 ((rd_T52 l0 a1).f1)) := (blk_cell BK402.out 1).trans rfl
              have hfz45_0 := blk_frozen BK402.out 0
              have hfz45_1 := blk_frozen BK402.out 1
              go_wp2_with (first | ((with_reducible refine gate_callee (f := 31) rfl ?_); refine gl_ (some 136) Try.func31 #[.int .i64 (wrap64 (t408 * t411))] rfl rfl rfl ?_; (with_reducible refine (impl_abs.calls (wrap64 (t408 * t411)) t415 _ A43.out).mono ?_); rintro e w46 ⟨rfl, hb⟩; refine ⟨_, rfl, ?_⟩; replace HO_9 := Kd.R_b HO_9 hb; replace BK402 := kb_ BK402 hb; replace HB := hbs_ HB hb; (try clear hb); (try clear hb2); (try clear hk); (try clear hi)))
              go_ret2
              exact ⟨by first | rfl | (simp [errW_none, errW_some] <;> rfl) | (simp [*, errW_none, errW_some] <;> rfl), hb_ HB⟩
             ·rw [if_neg c44] at H
              have c44b0 : decide (1000000000 < t415) = false := decide_eq_false c44
              clear c44
              simp only [Option.some.injEq, Prod.mk.injEq] at H
              obtain ⟨rfl, rfl⟩ := H
              have hcz47_0 : wc.cell? ⟨gb402, 0, none⟩ = some (.int .i64 ((rd_T52 l0 a1).f0)) := (blk_cell BK402.out 0).trans rfl
              have hcz47_1 : wc.cell? ⟨gb402, 1, none⟩ = some (.int .i64 ((rd_T52 l0 a1).f1)) := (blk_cell BK402.out 1).trans rfl
              have hfz47_0 := blk_frozen BK402.out 0
              have hfz47_1 := blk_frozen BK402.out 1
              go_wp2_with (first | ((with_reducible refine gate_callee (f := 31) rfl ?_); refine gl_ (some 136) Try.func31 #[.int .i64 (wrap64 (t408 * t411))] rfl rfl rfl ?_; (with_reducible refine (impl_abs.calls (wrap64 (t408 * t411)) t415 _ A43.out).mono ?_); rintro e w48 ⟨rfl, hb⟩; refine ⟨_, rfl, ?_⟩; replace HO_9 := Kd.R_b HO_9 hb; replace BK402 := kb_ BK402 hb; replace HB := hbs_ HB hb; (try clear hb); (try clear hb2); (try clear hk); (try clear hi)))
              go_ret2
              exact ⟨by first | rfl | (simp [errW_none, errW_some] <;> rfl) | (simp [*, errW_none, errW_some] <;> rfl), hb_ HB⟩
            ·rw [if_neg c42] at H
             have c42b0 : (((rd_T52 l0 a1).f0) == 4) = false := beq_eq_false_iff_ne.mpr c42
             have c42b1 : (((rd_T52 l0 a1).f0) != 4) = true := bne_iff_ne.mpr c42
             by_cases c49 : ((rd_T52 l0 a1).f0) = 5
             ·rw [if_pos c49] at H
              have c49b0 : (((rd_T52 l0 a1).f0) == 5) = true := beq_iff_eq.mpr c49
              have c49b1 : (((rd_T52 l0 a1).f0) != 5) = false := bne_eq_false_iff_eq.mpr c49
              clear c49
              by_cases c50 : t411 = 0
              ·rw [if_pos c50] at H
               have c50b0 : (t411 == 0) = true := beq_iff_eq.mpr c50
               have c50b1 : (t411 != 0) = false := bne_eq_false_iff_eq.mpr c50
               clear c50
               simp only [Option.some.injEq, Prod.mk.injEq] at H
               obtain ⟨rfl, rfl⟩ := H
               have hcz51_0 : wc.cell? ⟨gb402, 0, none⟩ = some (.int .i64 ((rd_T52 l0 a1).f0)) := (blk_cell BK402.out 0).trans rfl
               have hcz51_1 : wc.cell? ⟨gb402, 1, none⟩ = some (.int .i64 ((rd_T52 l0 a1).f1)) := (blk_cell BK402.out 1).trans rfl
               have hfz51_0 := blk_frozen BK402.out 0
               have hfz51_1 := blk_frozen BK402.out 1
               go_wp2
               go_ret2
               exact ⟨by first | rfl | (simp [errW_none, errW_some] <;> rfl) | (simp [*, errW_none, errW_some] <;> rfl), hb_ HB⟩
              ·rw [if_neg c50] at H
               have c50b0 : (t411 == 0) = false := beq_eq_false_iff_ne.mpr c50
               have c50b1 : (t411 != 0) = true := bne_iff_ne.mpr c50
               have HC52 := Aside0.mk H
               clear H
               have hcz53_0 : wc.cell? ⟨gb402, 0, none⟩ = some (.int .i64 ((rd_T52 l0 a1).f0)) := (blk_cell BK402.out 0).trans rfl
               have hcz53_1 : wc.cell? ⟨gb402, 1, none⟩ = some (.int .i64 ((rd_T52 l0 a1).f1)) := (blk_cell BK402.out 1).trans rfl
               have hfz53_0 := blk_frozen BK402.out 0
               have hfz53_1 := blk_frozen BK402.out 1
               go_upto_if 127 with (fail)
               go_cut [10, 12] (fun v10 v12 wc => ∃ (kq : Nat) (x10_51 : Int) (x12_51 : Int), v10 = .int .i64 x10_51 ∧ v12 = .int .i64 x12_51 ∧ Aside0 (impl_evalPart.j1 kq x10_51 x12_51 = some (r1, r2)) ∧ Aside0 (kq ≤ kj18) ∧ Aside0 (Below w.heap.size w wc))
               case first =>
                have H := HC52.out
                clear HC52
                by_cases c54 : t411 < 0
                ·rw [if_pos c54] at H
                 have c54b0 : decide (t411 < 0) = true := decide_eq_true c54
                 clear c54
                 (first | rw [c54b0] | (simp only [i64_w, i32_w]; rw [c54b0]) | skip)
                 have H' := Aside0.mk H
                 clear H
                 go_wp2
                 go_meet
                 case rel => exact ⟨_, (wrap64 (-t408)), (wrap64 (-t411)), (by first | rfl | (simp; done) | (simp [*]; done)), (by first | rfl | (simp; done) | (simp [*]; done)), H', ⟨by have := HJ18.out; first | omega | exact Nat.le_refl _⟩, ⟨hb_ HB⟩⟩
                ·rw [if_neg c54] at H
                 have c54b0 : decide (t411 < 0) = false := decide_eq_false c54
                 clear c54
                 (first | rw [c54b0] | (simp only [i64_w, i32_w]; rw [c54b0]) | skip)
                 have H' := Aside0.mk H
                 clear H
                 go_wp2
                 go_meet
                 case rel => exact ⟨_, (t408), (t411), (by first | rfl | (simp; done) | (simp [*]; done)), (by first | rfl | (simp; done) | (simp [*]; done)), H', ⟨by have := HJ18.out; first | omega | exact Nat.le_refl _⟩, ⟨hb_ HB⟩⟩
               case rest =>
                clear HC52
                (try clear c1); (try clear c2); (try clear p2); (try clear c3); (try clear c4); (try clear c4b0); (try clear p4); (try clear q4); (try clear hx4); (try clear qi4); (try clear c5); (try clear c5b0); (try clear c6); (try clear c6b0); (try clear c6b1); (try clear p6); (try clear c9); (try clear c9b0); (try clear c9b1); (try clear c10); (try clear c10b0); (try clear c11); (try clear c11b0); (try clear c15); (try clear c15b0); (try clear c15b1); (try clear c17); (try clear c17b0); (try clear c17b1); (try clear c26); (try clear c27); (try clear c28); (try clear c28b0); (try clear c28b1); (try clear c29); (try clear c30); (try clear c30b0); (try clear c31); (try clear c35); (try clear c35b0); (try clear c35b1); (try clear c37); (try clear c37b0); (try clear p40); (try clear q40); (try clear hx40); (try clear qi40); (try clear p41); (try clear q41); (try clear hx41); (try clear qi41); (try clear c42); (try clear c42b0); (try clear c42b1); (try clear c44); (try clear c44b0); (try clear c49); (try clear c49b0); (try clear c49b1); (try clear c50); (try clear c50b0); (try clear c50b1); (try clear c54); (try clear c54b0); (try clear hcz53_0); (try clear hcz53_1); (try clear hfz53_0); (try clear hfz53_1)
                obtain ⟨kq, x10_51, x12_51, rfl, rfl, HA, HJ51, HB⟩ := hcut
                cases kq with
                | zero => exact absurd HA.out (by simp [impl_evalPart.j1])
                | succ kj51 =>
                 have H := HA.out
                 clear HA
                 simp only [impl_evalPart.j1] at H
                 replace H := Option.bind_eq_some_iff.mp H
                 obtain ⟨t416, A550, H⟩ := H
                 replace H : ((impl_abs.f t416).bind fun t417 => (if t417 > 1000000000 then (some (0, false)) else (some (t416, true)))) = some (r1, r2) := H
                 have A55 := Aside0.mk A550
                 clear A550
                 replace H := Option.bind_eq_some_iff.mp H
                 obtain ⟨t417, A560, H⟩ := H
                 replace H : (if t417 > 1000000000 then (some (0, false)) else (some (t416, true))) = some (r1, r2) := H
                 have A56 := Aside0.mk A560
                 clear A560
                 by_cases c57 : t417 > 1000000000
                 ·rw [if_pos c57] at H
                  have c57b0 : decide (1000000000 < t417) = true := decide_eq_true c57
                  clear c57
                  simp only [Option.some.injEq, Prod.mk.injEq] at H
                  obtain ⟨rfl, rfl⟩ := H
                  go_wp2_with (first | ((with_reducible refine gate_callee (f := 30) rfl ?_); refine gl_ (some 134) Try.func30 #[.int .i64 x10_51, .int .i64 x12_51] rfl rfl rfl ?_; (with_reducible refine (impl_floorDiv.calls x10_51 x12_51 t416 _ A55.out).mono ?_); rintro e w' ⟨rfl, ⟨nd, rfl⟩⟩; refine ⟨_, rfl, ?_⟩) | ((with_reducible refine gate_callee (f := 31) rfl ?_); refine gl_ (some 136) Try.func31 #[.int .i64 t416] rfl rfl rfl ?_; (with_reducible refine (impl_abs.calls t416 t417 _ A56.out).mono ?_); rintro e w58 ⟨rfl, hb⟩; refine ⟨_, rfl, ?_⟩; replace HB := hbs_ HB hb; (try clear hb); (try clear hb2); (try clear hk); (try clear hi)))
                  go_ret2
                  exact ⟨by first | rfl | (simp [errW_none, errW_some] <;> rfl) | (simp [*, errW_none, errW_some] <;> rfl), hb_ HB⟩
                 ·rw [if_neg c57] at H
                  have c57b0 : decide (1000000000 < t417) = false := decide_eq_false c57
                  clear c57
                  simp only [Option.some.injEq, Prod.mk.injEq] at H
                  obtain ⟨rfl, rfl⟩ := H
                  go_wp2_with (first | ((with_reducible refine gate_callee (f := 30) rfl ?_); refine gl_ (some 134) Try.func30 #[.int .i64 x10_51, .int .i64 x12_51] rfl rfl rfl ?_; (with_reducible refine (impl_floorDiv.calls x10_51 x12_51 t416 _ A55.out).mono ?_); rintro e w' ⟨rfl, ⟨nd, rfl⟩⟩; refine ⟨_, rfl, ?_⟩) | ((with_reducible refine gate_callee (f := 31) rfl ?_); refine gl_ (some 136) Try.func31 #[.int .i64 t416] rfl rfl rfl ?_; (with_reducible refine (impl_abs.calls t416 t417 _ A56.out).mono ?_); rintro e w59 ⟨rfl, hb⟩; refine ⟨_, rfl, ?_⟩; replace HB := hbs_ HB hb; (try clear hb); (try clear hb2); (try clear hk); (try clear hi)))
                  go_ret2
                  exact ⟨by first | rfl | (simp [errW_none, errW_some] <;> rfl) | (simp [*, errW_none, errW_some] <;> rfl), hb_ HB⟩
             ·rw [if_neg c49] at H
              have c49b0 : (((rd_T52 l0 a1).f0) == 5) = false := beq_eq_false_iff_ne.mpr c49
              have c49b1 : (((rd_T52 l0 a1).f0) != 5) = true := bne_iff_ne.mpr c49
              have HC60 := Aside0.mk H
              clear H
              have hcz61_0 : wc.cell? ⟨gb402, 0, none⟩ = some (.int .i64 ((rd_T52 l0 a1).f0)) := (blk_cell BK402.out 0).trans rfl
              have hcz61_1 : wc.cell? ⟨gb402, 1, none⟩ = some (.int .i64 ((rd_T52 l0 a1).f1)) := (blk_cell BK402.out 1).trans rfl
              have hfz61_0 := blk_frozen BK402.out 0
              have hfz61_1 := blk_frozen BK402.out 1
              go_upto_region 14 with (fail)
              go_cut [15] (fun v15 wc => ∃ (kq : Nat) (x15_59 : Bool), v15 = .bool x15_59 ∧ Aside0 (impl_evalPart.j2 kq l0 l2 t404 x15_59 = some (r1, r2)) ∧ Aside0 (kq ≤ kj18) ∧ Aside0 (Kd.R (Kd.int .i64) 3 wc w.heap.size (fun _ => True) (.slice (some ad407) t404.length co23) t404) ∧ Aside0 (Below w.heap.size w wc))
              case first =>
               have H := HC60.out
               clear HC60
               by_cases c62 : ((rd_T52 l0 a1).f0) = 6
               ·rw [if_pos c62] at H
                have c62b0 : (((rd_T52 l0 a1).f0) == 6) = true := beq_iff_eq.mpr c62
                have c62b1 : (((rd_T52 l0 a1).f0) != 6) = false := bne_eq_false_iff_eq.mpr c62
                clear c62
                (first | rw [c62b0] | (simp only [i64_w, i32_w]; rw [c62b0]) | skip)
                by_cases c63 : t408 < t411
                ·rw [if_pos c63] at H
                 have c63b0 : decide (t408 < t411) = true := decide_eq_true c63
                 clear c63
                 have H' := Aside0.mk H
                 clear H
                 have hcz64_0 : wc.cell? ⟨gb402, 0, none⟩ = some (.int .i64 ((rd_T52 l0 a1).f0)) := (blk_cell BK402.out 0).trans rfl
                 have hcz64_1 : wc.cell? ⟨gb402, 1, none⟩ = some (.int .i64 ((rd_T52 l0 a1).f1)) := (blk_cell BK402.out 1).trans rfl
                 have hfz64_0 := blk_frozen BK402.out 0
                 have hfz64_1 := blk_frozen BK402.out 1
                 go_wp2
                 go_meet
                 case rel => exact ⟨_, (true), (by first | rfl | (simp; done) | (simp [*]; done)), H', ⟨by have := HJ18.out; first | omega | exact Nat.le_refl _⟩, ⟨Kd.R_p HO_9⟩, ⟨hb_ HB⟩⟩
                ·rw [if_neg c63] at H
                 have c63b0 : decide (t408 < t411) = false := decide_eq_false c63
                 clear c63
                 by_cases c65 : ((rd_T52 l0 a1).f0) = 7
                 ·rw [if_pos c65] at H
                  have c65b0 : (((rd_T52 l0 a1).f0) == 7) = true := beq_iff_eq.mpr c65
                  have c65b1 : (((rd_T52 l0 a1).f0) != 7) = false := bne_eq_false_iff_eq.mpr c65
                  clear c65
                  by_cases c66 : t408 = t411
                  ·rw [if_pos c66] at H
                   have c66b0 : (t408 == t411) = true := beq_iff_eq.mpr c66
                   have c66b1 : (t408 != t411) = false := bne_eq_false_iff_eq.mpr c66
                   clear c66
                   have H' := Aside0.mk H
                   clear H
                   have hcz67_0 : wc.cell? ⟨gb402, 0, none⟩ = some (.int .i64 ((rd_T52 l0 a1).f0)) := (blk_cell BK402.out 0).trans rfl
                   have hcz67_1 : wc.cell? ⟨gb402, 1, none⟩ = some (.int .i64 ((rd_T52 l0 a1).f1)) := (blk_cell BK402.out 1).trans rfl
                   have hfz67_0 := blk_frozen BK402.out 0
                   have hfz67_1 := blk_frozen BK402.out 1
                   go_wp2
                   go_meet
                   case rel => exact ⟨_, (true), (by first | rfl | (simp; done) | (simp [*]; done)), H', ⟨by have := HJ18.out; first | omega | exact Nat.le_refl _⟩, ⟨Kd.R_p HO_9⟩, ⟨hb_ HB⟩⟩
                  ·rw [if_neg c66] at H
                   have c66b0 : (t408 == t411) = false := beq_eq_false_iff_ne.mpr c66
                   have c66b1 : (t408 != t411) = true := bne_iff_ne.mpr c66
                   by_cases c68 : ((rd_T52 l0 a1).f0) = 8
                   ·rw [if_pos c68] at H
                    have c68b0 : (((rd_T52 l0 a1).f0) == 8) = true := beq_iff_eq.mpr c68
                    have c68b1 : (((rd_T52 l0 a1).f0) != 8) = false := bne_eq_false_iff_eq.mpr c68
                    clear c68
                    have H' := Aside0.mk H
                    clear H
                    have hcz69_0 : wc.cell? ⟨gb402, 0, none⟩ = some (.int .i64 ((rd_T52 l0 a1).f0)) := (blk_cell BK402.out 0).trans rfl
                    have hcz69_1 : wc.cell? ⟨gb402, 1, none⟩ = some (.int .i64 ((rd_T52 l0 a1).f1)) := (blk_cell BK402.out 1).trans rfl
                    have hfz69_0 := blk_frozen BK402.out 0
                    have hfz69_1 := blk_frozen BK402.out 1
                    go_wp2
                    go_meet
                    case rel => exact ⟨_, (decide (t408 > t411)), (by first | rfl | (simp; done) | (simp [*]; done)), H', ⟨by have := HJ18.out; first | omega | exact Nat.le_refl _⟩, ⟨Kd.R_p HO_9⟩, ⟨hb_ HB⟩⟩
                   ·rw [if_neg c68] at H
                    have c68b0 : (((rd_T52 l0 a1).f0) == 8) = false := beq_eq_false_iff_ne.mpr c68
                    have c68b1 : (((rd_T52 l0 a1).f0) != 8) = true := bne_iff_ne.mpr c68
                    have H' := Aside0.mk H
                    clear H
                    have hcz70_0 : wc.cell? ⟨gb402, 0, none⟩ = some (.int .i64 ((rd_T52 l0 a1).f0)) := (blk_cell BK402.out 0).trans rfl
                    have hcz70_1 : wc.cell? ⟨gb402, 1, none⟩ = some (.int .i64 ((rd_T52 l0 a1).f1)) := (blk_cell BK402.out 1).trans rfl
                    have hfz70_0 := blk_frozen BK402.out 0
                    have hfz70_1 := blk_frozen BK402.out 1
                    go_wp2
                    go_meet
                    case rel => exact ⟨_, (false), (by first | rfl | (simp; done) | (simp [*]; done)), H', ⟨by have := HJ18.out; first | omega | exact Nat.le_refl _⟩, ⟨Kd.R_p HO_9⟩, ⟨hb_ HB⟩⟩
                 ·rw [if_neg c65] at H
                  have c65b0 : (((rd_T52 l0 a1).f0) == 7) = false := beq_eq_false_iff_ne.mpr c65
                  have c65b1 : (((rd_T52 l0 a1).f0) != 7) = true := bne_iff_ne.mpr c65
                  by_cases c71 : ((rd_T52 l0 a1).f0) = 8
                  ·rw [if_pos c71] at H
                   have c71b0 : (((rd_T52 l0 a1).f0) == 8) = true := beq_iff_eq.mpr c71
                   have c71b1 : (((rd_T52 l0 a1).f0) != 8) = false := bne_eq_false_iff_eq.mpr c71
                   clear c71
                   have H' := Aside0.mk H
                   clear H
                   have hcz72_0 : wc.cell? ⟨gb402, 0, none⟩ = some (.int .i64 ((rd_T52 l0 a1).f0)) := (blk_cell BK402.out 0).trans rfl
                   have hcz72_1 : wc.cell? ⟨gb402, 1, none⟩ = some (.int .i64 ((rd_T52 l0 a1).f1)) := (blk_cell BK402.out 1).trans rfl
                   have hfz72_0 := blk_frozen BK402.out 0
                   have hfz72_1 := blk_frozen BK402.out 1
                   go_wp2
                   go_meet
                   case rel => exact ⟨_, (decide (t408 > t411)), (by first | rfl | (simp; done) | (simp [*]; done)), H', ⟨by have := HJ18.out; first | omega | exact Nat.le_refl _⟩, ⟨Kd.R_p HO_9⟩, ⟨hb_ HB⟩⟩
                  ·rw [if_neg c71] at H
                   have c71b0 : (((rd_T52 l0 a1).f0) == 8) = false := beq_eq_false_iff_ne.mpr c71
                   have c71b1 : (((rd_T52 l0 a1).f0) != 8) = true := bne_iff_ne.mpr c71
                   have H' := Aside0.mk H
                   clear H
                   have hcz73_0 : wc.cell? ⟨gb402, 0, none⟩ = some (.int .i64 ((rd_T52 l0 a1).f0)) := (blk_cell BK402.out 0).trans rfl
                   have hcz73_1 : wc.cell? ⟨gb402, 1, none⟩ = some (.int .i64 ((rd_T52 l0 a1).f1)) := (blk_cell BK402.out 1).trans rfl
                   have hfz73_0 := blk_frozen BK402.out 0
                   have hfz73_1 := blk_frozen BK402.out 1
                   go_wp2
                   go_meet
                   case rel => exact ⟨_, (false), (by first | rfl | (simp; done) | (simp [*]; done)), H', ⟨by have := HJ18.out; first | omega | exact Nat.le_refl _⟩, ⟨Kd.R_p HO_9⟩, ⟨hb_ HB⟩⟩
               ·rw [if_neg c62] at H
                have c62b0 : (((rd_T52 l0 a1).f0) == 6) = false := beq_eq_false_iff_ne.mpr c62
                have c62b1 : (((rd_T52 l0 a1).f0) != 6) = true := bne_iff_ne.mpr c62
                (first | rw [c62b0] | (simp only [i64_w, i32_w]; rw [c62b0]) | skip)
                by_cases c74 : ((rd_T52 l0 a1).f0) = 7
                ·rw [if_pos c74] at H
                 have c74b0 : (((rd_T52 l0 a1).f0) == 7) = true := beq_iff_eq.mpr c74
                 have c74b1 : (((rd_T52 l0 a1).f0) != 7) = false := bne_eq_false_iff_eq.mpr c74
                 clear c74
                 by_cases c75 : t408 = t411
                 ·rw [if_pos c75] at H
                  have c75b0 : (t408 == t411) = true := beq_iff_eq.mpr c75
                  have c75b1 : (t408 != t411) = false := bne_eq_false_iff_eq.mpr c75
                  clear c75
                  have H' := Aside0.mk H
                  clear H
                  have hcz76_0 : wc.cell? ⟨gb402, 0, none⟩ = some (.int .i64 ((rd_T52 l0 a1).f0)) := (blk_cell BK402.out 0).trans rfl
                  have hcz76_1 : wc.cell? ⟨gb402, 1, none⟩ = some (.int .i64 ((rd_T52 l0 a1).f1)) := (blk_cell BK402.out 1).trans rfl
                  have hfz76_0 := blk_frozen BK402.out 0
                  have hfz76_1 := blk_frozen BK402.out 1
                  go_wp2
                  go_meet
                  case rel => exact ⟨_, (true), (by first | rfl | (simp; done) | (simp [*]; done)), H', ⟨by have := HJ18.out; first | omega | exact Nat.le_refl _⟩, ⟨Kd.R_p HO_9⟩, ⟨hb_ HB⟩⟩
                 ·rw [if_neg c75] at H
                  have c75b0 : (t408 == t411) = false := beq_eq_false_iff_ne.mpr c75
                  have c75b1 : (t408 != t411) = true := bne_iff_ne.mpr c75
                  by_cases c77 : ((rd_T52 l0 a1).f0) = 8
                  ·rw [if_pos c77] at H
                   have c77b0 : (((rd_T52 l0 a1).f0) == 8) = true := beq_iff_eq.mpr c77
                   have c77b1 : (((rd_T52 l0 a1).f0) != 8) = false := bne_eq_false_iff_eq.mpr c77
                   clear c77
                   have H' := Aside0.mk H
                   clear H
                   have hcz78_0 : wc.cell? ⟨gb402, 0, none⟩ = some (.int .i64 ((rd_T52 l0 a1).f0)) := (blk_cell BK402.out 0).trans rfl
                   have hcz78_1 : wc.cell? ⟨gb402, 1, none⟩ = some (.int .i64 ((rd_T52 l0 a1).f1)) := (blk_cell BK402.out 1).trans rfl
                   have hfz78_0 := blk_frozen BK402.out 0
                   have hfz78_1 := blk_frozen BK402.out 1
                   go_wp2
                   go_meet
                   case rel => exact ⟨_, (decide (t408 > t411)), (by first | rfl | (simp; done) | (simp [*]; done)), H', ⟨by have := HJ18.out; first | omega | exact Nat.le_refl _⟩, ⟨Kd.R_p HO_9⟩, ⟨hb_ HB⟩⟩
                  ·rw [if_neg c77] at H
                   have c77b0 : (((rd_T52 l0 a1).f0) == 8) = false := beq_eq_false_iff_ne.mpr c77
                   have c77b1 : (((rd_T52 l0 a1).f0) != 8) = true := bne_iff_ne.mpr c77
                   have H' := Aside0.mk H
                   clear H
                   have hcz79_0 : wc.cell? ⟨gb402, 0, none⟩ = some (.int .i64 ((rd_T52 l0 a1).f0)) := (blk_cell BK402.out 0).trans rfl
                   have hcz79_1 : wc.cell? ⟨gb402, 1, none⟩ = some (.int .i64 ((rd_T52 l0 a1).f1)) := (blk_cell BK402.out 1).trans rfl
                   have hfz79_0 := blk_frozen BK402.out 0
                   have hfz79_1 := blk_frozen BK402.out 1
                   go_wp2
                   go_meet
                   case rel => exact ⟨_, (false), (by first | rfl | (simp; done) | (simp [*]; done)), H', ⟨by have := HJ18.out; first | omega | exact Nat.le_refl _⟩, ⟨Kd.R_p HO_9⟩, ⟨hb_ HB⟩⟩
                ·rw [if_neg c74] at H
                 have c74b0 : (((rd_T52 l0 a1).f0) == 7) = false := beq_eq_false_iff_ne.mpr c74
                 have c74b1 : (((rd_T52 l0 a1).f0) != 7) = true := bne_iff_ne.mpr c74
                 by_cases c80 : ((rd_T52 l0 a1).f0) = 8
                 ·rw [if_pos c80] at H
                  have c80b0 : (((rd_T52 l0 a1).f0) == 8) = true := beq_iff_eq.mpr c80
                  have c80b1 : (((rd_T52 l0 a1).f0) != 8) = false := bne_eq_false_iff_eq.mpr c80
                  clear c80
                  have H' := Aside0.mk H
                  clear H
                  have hcz81_0 : wc.cell? ⟨gb402, 0, none⟩ = some (.int .i64 ((rd_T52 l0 a1).f0)) := (blk_cell BK402.out 0).trans rfl
                  have hcz81_1 : wc.cell? ⟨gb402, 1, none⟩ = some (.int .i64 ((rd_T52 l0 a1).f1)) := (blk_cell BK402.out 1).trans rfl
                  have hfz81_0 := blk_frozen BK402.out 0
                  have hfz81_1 := blk_frozen BK402.out 1
                  go_wp2
                  go_meet
                  case rel => exact ⟨_, (decide (t408 > t411)), (by first | rfl | (simp; done) | (simp [*]; done)), H', ⟨by have := HJ18.out; first | omega | exact Nat.le_refl _⟩, ⟨Kd.R_p HO_9⟩, ⟨hb_ HB⟩⟩
                 ·rw [if_neg c80] at H
                  have c80b0 : (((rd_T52 l0 a1).f0) == 8) = false := beq_eq_false_iff_ne.mpr c80
                  have c80b1 : (((rd_T52 l0 a1).f0) != 8) = true := bne_iff_ne.mpr c80
                  have H' := Aside0.mk H
                  clear H
                  have hcz82_0 : wc.cell? ⟨gb402, 0, none⟩ = some (.int .i64 ((rd_T52 l0 a1).f0)) := (blk_cell BK402.out 0).trans rfl
                  have hcz82_1 : wc.cell? ⟨gb402, 1, none⟩ = some (.int .i64 ((rd_T52 l0 a1).f1)) := (blk_cell BK402.out 1).trans rfl
                  have hfz82_0 := blk_frozen BK402.out 0
                  have hfz82_1 := blk_frozen BK402.out 1
                  go_wp2
                  go_meet
                  case rel => exact ⟨_, (false), (by first | rfl | (simp; done) | (simp [*]; done)), H', ⟨by have := HJ18.out; first | omega | exact Nat.le_refl _⟩, ⟨Kd.R_p HO_9⟩, ⟨hb_ HB⟩⟩
              case rest =>
               clear HC60
               (try clear c1); (try clear c2); (try clear p2); (try clear c3); (try clear c4); (try clear c4b0); (try clear p4); (try clear q4); (try clear hx4); (try clear qi4); (try clear c5); (try clear c5b0); (try clear c6); (try clear c6b0); (try clear c6b1); (try clear p6); (try clear c7); (try clear c8); (try clear c9); (try clear c9b0); (try clear c9b1); (try clear c10); (try clear c10b0); (try clear c11); (try clear c11b0); (try clear c15); (try clear c15b0); (try clear c15b1); (try clear c17); (try clear c17b0); (try clear c17b1); (try clear c26); (try clear c27); (try clear c28); (try clear c28b0); (try clear c28b1); (try clear c29); (try clear c30); (try clear c30b0); (try clear c31); (try clear c35); (try clear c35b0); (try clear c35b1); (try clear c37); (try clear c37b0); (try clear p40); (try clear q40); (try clear hx40); (try clear qi40); (try clear p41); (try clear q41); (try clear hx41); (try clear qi41); (try clear c42); (try clear c42b0); (try clear c42b1); (try clear c44); (try clear c44b0); (try clear c49); (try clear c49b0); (try clear c49b1); (try clear c50); (try clear c50b0); (try clear c50b1); (try clear c54); (try clear c54b0); (try clear c57); (try clear c57b0); (try clear c62); (try clear c62b0); (try clear c62b1); (try clear c63); (try clear c63b0); (try clear p64); (try clear c65); (try clear c65b0); (try clear c65b1); (try clear c66); (try clear c66b0); (try clear c66b1); (try clear c68); (try clear c68b0); (try clear c68b1); (try clear c71); (try clear c71b0); (try clear c71b1); (try clear c74); (try clear c74b0); (try clear c74b1); (try clear c75); (try clear c75b0); (try clear c75b1); (try clear c77); (try clear c77b0); (try clear c77b1); (try clear c80); (try clear c80b0); (try clear c80b1); (try clear hcz61_0); (try clear hcz61_1); (try clear hfz61_0); (try clear hfz61_1)
               obtain ⟨kq, x15_59, rfl, HA, HJ59, HO_9, HB⟩ := hcut
               cases kq with
               | zero => exact absurd HA.out (by simp [impl_evalPart.j2])
               | succ kj59 =>
                have H := HA.out
                clear HA
                simp only [impl_evalPart.j2] at H
                by_cases c83 : x15_59 = true
                ·subst c83
                 have H1 : (if 2 < (t404.length : Int) then ((impl_evalPart.f kj59 l0 (rd t404 2) l2).bind fun bt419 => (some (bt419.1, bt419.2))) else (none)) = some (r1, r2) := by rw [if_pos rfl] at H; exact H
                 clear H
                 have H := H1
                 clear H1
                 by_cases c84 : 2 < (t404.length : Int)
                 ·rw [if_pos c84] at H
                  have c84b0 : decide (2 < (t404.length : Int)) = true := decide_eq_true c84
                  have c84b1 : decide (2 < t404.length) = true := decide_eq_true (by omega)
                  clear c84
                  replace H := Option.bind_eq_some_iff.mp H
                  obtain ⟨⟨t419, t420⟩, A850, H⟩ := H
                  replace H : (some (t419, t420)) = some (r1, r2) := H
                  have A85 := Aside0.mk A850
                  clear A850
                  simp only [Option.some.injEq, Prod.mk.injEq] at H
                  obtain ⟨rfl, rfl⟩ := H
                  have p418 : 0 ≤ (2 : Int) := (by omega)
                  have q418 : 2 < (t404.length : Int) := of_decide_eq_true (by first | (with_reducible assumption) | assumption)
                  obtain ⟨ad418, e418, hx418_0⟩ := Kd.at_int (Kd.R_reads' HO_9.out).2.2 2 p418 q418
                  obtain rfl : ad407 = ad418 := (by injection e418)
                  (try simp only [show (2 : Int).toNat = 2 from rfl, Nat.reduceMul, Nat.reduceEqDiff, Go.Addr.add, ↓reduceIte] at hx418_0)
                  have qi418 : (2 < t404.length) = True := eq_true (by omega)
                  (try rw [show ((2 : Int)).toNat = 2 from rfl] at hx418_0)
                  replace p418 := eq_true p418
                  replace q418 := eq_true q418
                  go_wp2_with (first | ((with_reducible refine gate_callee (f := 17) rfl ?_); refine gl_ (some 96) Try.func17 #[.slice (some ad401) l0.length c0, .int .i64 (rd t404 2), .slice A2 l2.length c2] rfl rfl rfl ?_; (with_reducible refine (ih kj59 (by have := HJ18.out; have := HJ59.out; omega) _ _ l0 (rd t404 2) _ _ l2 t419 t420 _ ?side1 ?side2 ?side3 ?side4 A85.out).mono ?_); (case side1 => exact Kd.C_w HR0 HB); (case side2 => exact HC0.out); (case side3 => exact Kd.C_w HR2 HB); (case side4 => exact HC2.out); rintro e w86 ⟨rfl, hb⟩; refine ⟨_, rfl, ?_⟩; replace HO_9 := Kd.R_b HO_9 hb; replace HB := hbs_ HB hb; (try clear hb); (try clear hb2); (try clear hk); (try clear hi)))
                  go_ret2
                  exact ⟨by first | rfl | (simp [errW_none, errW_some] <;> rfl) | (simp [*, errW_none, errW_some] <;> rfl), hb_ HB⟩
                 ·rw [if_neg c84] at H
                  exact absurd H (by simp)
                ·replace c83 := Bool.eq_false_iff.mpr c83
                 subst c83
                 have H1 : (if 3 < (t404.length : Int) then ((impl_evalPart.f kj59 l0 (rd t404 3) l2).bind fun bt422 => (some (bt422.1, bt422.2))) else (none)) = some (r1, r2) := by rw [if_neg (show ¬ (false = true) by decide)] at H; exact H
                 clear H
                 have H := H1
                 clear H1
                 by_cases c87 : 3 < (t404.length : Int)
                 ·rw [if_pos c87] at H
                  have c87b0 : decide (3 < (t404.length : Int)) = true := decide_eq_true c87
                  have c87b1 : decide (3 < t404.length) = true := decide_eq_true (by omega)
                  clear c87
                  replace H := Option.bind_eq_some_iff.mp H
                  obtain ⟨⟨t422, t423⟩, A880, H⟩ := H
                  replace H : (some (t422, t423)) = some (r1, r2) := H
                  have A88 := Aside0.mk A880
                  clear A880
                  simp only [Option.some.injEq, Prod.mk.injEq] at H
                  obtain ⟨rfl, rfl⟩ := H
                  have p421 : 0 ≤ (3 : Int) := (by omega)
                  have q421 : 3 < (t404.length : Int) := of_decide_eq_true (by first | (with_reducible assumption) | assumption)
                  obtain ⟨ad421, e421, hx421_0⟩ := Kd.at_int (Kd.R_reads' HO_9.out).2.2 3 p421 q421
                  obtain rfl : ad407 = ad421 := (by injection e421)
                  (try simp only [show (3 : Int).toNat = 3 from rfl, Nat.reduceMul, Nat.reduceEqDiff, Go.Addr.add, ↓reduceIte] at hx421_0)
                  have qi421 : (3 < t404.length) = True := eq_true (by omega)
                  (try rw [show ((3 : Int)).toNat = 3 from rfl] at hx421_0)
                  replace p421 := eq_true p421
                  replace q421 := eq_true q421
                  go_wp2_with (first | ((with_reducible refine gate_callee (f := 17) rfl ?_); refine gl_ (some 104) Try.func17 #[.slice (some ad401) l0.length c0, .int .i64 (rd t404 3), .slice A2 l2.length c2] rfl rfl rfl ?_; (with_reducible refine (ih kj59 (by have := HJ18.out; have := HJ59.out; omega) _ _ l0 (rd t404 3) _ _ l2 t422 t423 _ ?side1 ?side2 ?side3 ?side4 A88.out).mono ?_); (case side1 => exact Kd.C_w HR0 HB); (case side2 => exact HC0.out); (case side3 => exact Kd.C_w HR2 HB); (case side4 => exact HC2.out); rintro e w89 ⟨rfl, hb⟩; refine ⟨_, rfl, ?_⟩; replace HO_9 := Kd.R_b HO_9 hb; replace HB := hbs_ HB hb; (try clear hb); (try clear hb2); (try clear hk); (try clear hi)))
                  go_ret2
                  exact ⟨by first | rfl | (simp [errW_none, errW_some] <;> rfl) | (simp [*, errW_none, errW_some] <;> rfl), hb_ HB⟩
                 ·rw [if_neg c87] at H
                  exact absurd H (by simp)
      ·rw [if_neg c17] at H
       exact absurd H (by simp)
     ·rw [if_neg c15] at H
      exact absurd H (by simp)
  ·rw [if_neg c5] at H
   exact absurd H (by simp)
 ·rw [if_neg c4] at H
  exact absurd H (by simp)

end Go.Proofs.Ytmhalgeoaccchaa.PFnFolded
