-- PRINTED BY print.sh 35421559b90ae4d0a3588c463048766b98c2df88dd9212a6774a882060cdf62d: not written by this session
import Derived.Test.YthakfnnbamiklaaPFnExactFoldRulex0
import Derived.Test.YthakfnnbamiklaaPFnExactFoldRulex7
namespace Go.Proofs.Ythakfnnbamiklaa.PFnExactFoldRule
open Go.RowKit Go.Proofs.YthakfnnbamiklaaW.PrintWords Go.Proofs.YthakfnnbamiklaaW.PrintLast Go.Proofs.YthakfnnbamiklaaW.PrintMore
attribute [local go_sem] max2_int min2_int max_two min_two max_three min_three max_four min_four   -- for this text's walks alone
set_option linter.unusedVariables false
set_option linter.unusedSimpArgs false

/-! ### impl_evalPart: function 51 -/
mutual
def impl_evalPart.j0 : Nat → List (S53) → List Int → List Int → Int → Int → Bool → Int → Int → Option (Int × Bool)
  | 0, _, _, _, _, _, _, _, _ => none
  | k + 1, x0, x2, x9, x10, x12, x59, x272000, x272001 => if x59 = true then (some (0, false)) else (if x272000 = 2 then ((impl_abs.f (wrap64 (x10 + x12))).bind fun t282 => (if t282 > 1000000000 then (some (0, false)) else (some (wrap64 (x10 + x12), true)))) else (if x272000 = 3 then ((impl_abs.f (wrap64 (x10 - x12))).bind fun t283 => (if t283 > 1000000000 then (some (0, false)) else (some (wrap64 (x10 - x12), true)))) else (if x272000 = 4 then ((impl_abs.f (wrap64 (x10 * x12))).bind fun t284 => (if t284 > 1000000000 then (some (0, false)) else (some (wrap64 (x10 * x12), true)))) else (if x272000 = 5 then (if x12 = 0 then (some (0, false)) else (if x12 < 0 then (impl_evalPart.j1 k (wrap64 (-x10)) (wrap64 (-x12))) else (impl_evalPart.j1 k x10 x12))) else (if x272000 = 6 then (if x10 < x12 then (impl_evalPart.j2 k x0 x2 x9 true) else (if x272000 = 7 then (if x10 = x12 then (impl_evalPart.j2 k x0 x2 x9 true) else (if x272000 = 8 then (impl_evalPart.j2 k x0 x2 x9 (decide (x10 > x12))) else (impl_evalPart.j2 k x0 x2 x9 false))) else (if x272000 = 8 then (impl_evalPart.j2 k x0 x2 x9 (decide (x10 > x12))) else (impl_evalPart.j2 k x0 x2 x9 false)))) else (if x272000 = 7 then (if x10 = x12 then (impl_evalPart.j2 k x0 x2 x9 true) else (if x272000 = 8 then (impl_evalPart.j2 k x0 x2 x9 (decide (x10 > x12))) else (impl_evalPart.j2 k x0 x2 x9 false))) else (if x272000 = 8 then (impl_evalPart.j2 k x0 x2 x9 (decide (x10 > x12))) else (impl_evalPart.j2 k x0 x2 x9 false))))))))
def impl_evalPart.j1 : Nat → Int → Int → Option (Int × Bool)
  | 0, _, _ => none
  | k + 1, x10, x12 => (impl_floorDiv.f x10 x12).bind fun t285 => ((impl_abs.f t285).bind fun t286 => (if t286 > 1000000000 then (some (0, false)) else (some (t285, true))))
def impl_evalPart.j2 : Nat → List (S53) → List Int → List Int → Bool → Option (Int × Bool)
  | 0, _, _, _, _ => none
  | k + 1, x0, x2, x9, x15 => if x15 = true then (if 2 < (x9.length : Int) then ((impl_evalPart.f k x0 (rd x9 2) x2).bind fun bt288 => (some (bt288.1, bt288.2))) else (none)) else (if 3 < (x9.length : Int) then ((impl_evalPart.f k x0 (rd x9 3) x2).bind fun bt291 => (some (bt291.1, bt291.2))) else (none))
def impl_evalPart.f : Nat → List (S53) → Int → List Int → Option (Int × Bool)
  | 0, _, _, _ => none
  | k + 1, l0, a1, l2 => if 0 ≤ a1 then (if a1 < (l0.length : Int) then (if ((rd_T53 l0 a1).f0) = 0 then (some ((rd_T53 l0 a1).f1, true)) else (if ((rd_T53 l0 a1).f0) = 1 then (if 0 ≤ ((rd_T53 l0 a1).f1) then (if ((rd_T53 l0 a1).f1) < (l2.length : Int) then (some (rd l2 ((rd_T53 l0 a1).f1), true)) else (none)) else (none)) else ((impl_partNeeds.f k l0 a1).bind fun t273 => (if 0 < (t273.length : Int) then ((impl_evalPart.f k l0 (rd t273 0) l2).bind fun bt277 => (if 1 < (t273.length : Int) then ((impl_evalPart.f k l0 (rd t273 1) l2).bind fun bt280 => (if bt277.2 = true then (impl_evalPart.j0 k l0 l2 t273 bt277.1 bt280.1 (!bt280.2) ((rd_T53 l0 a1).f0) ((rd_T53 l0 a1).f1)) else (impl_evalPart.j0 k l0 l2 t273 bt277.1 bt280.1 true ((rd_T53 l0 a1).f0) ((rd_T53 l0 a1).f1)))) else (none))) else (none))))) else (none)) else (none)
end
theorem impl_evalPart.mono_l : ∀ k, (∀ y0 y1 y2, LeO (impl_evalPart.f k y0 y1 y2) (impl_evalPart.f (k + 1) y0 y1 y2)) ∧ (∀ y0 y1 y2 y3 y4 y5 y6 y7, LeO (impl_evalPart.j0 k y0 y1 y2 y3 y4 y5 y6 y7) (impl_evalPart.j0 (k + 1) y0 y1 y2 y3 y4 y5 y6 y7)) ∧ (∀ y0 y1, LeO (impl_evalPart.j1 k y0 y1) (impl_evalPart.j1 (k + 1) y0 y1)) ∧ (∀ y0 y1 y2 y3, LeO (impl_evalPart.j2 k y0 y1 y2 y3) (impl_evalPart.j2 (k + 1) y0 y1 y2 y3))
  | 0 => ⟨fun _ _ _ r h => by simp [impl_evalPart.f] at h, fun _ _ _ _ _ _ _ _ r h => by simp [impl_evalPart.j0] at h, fun _ _ r h => by simp [impl_evalPart.j1] at h, fun _ _ _ _ r h => by simp [impl_evalPart.j2] at h⟩
  | k + 1 => by
    obtain ⟨ih0, ih1, ih2, ih3⟩ := impl_evalPart.mono_l k
    refine ⟨?_, ?_, ?_, ?_⟩
    · intro y0 y1 y2
      unfold impl_evalPart.f
      repeat' first
      | (with_reducible exact ih0 _ _ _)
      | (with_reducible exact ih1 _ _ _ _ _ _ _ _)
      | (with_reducible exact ih2 _ _)
      | (with_reducible exact ih3 _ _ _ _)
      | (with_reducible exact impl_partNeeds.mono _ _ _)
      | (with_reducible exact LeO.refl _)
      | (with_reducible exact LeO.none _)
      | (with_reducible refine LeO.ite ?_ ?_)
      | (with_reducible refine LeO.bind ?_ (fun _ => ?_))
      | exact ih0 _ _ _
      | exact ih1 _ _ _ _ _ _ _ _
      | exact ih2 _ _
      | exact ih3 _ _ _ _
      | exact impl_partNeeds.mono _ _ _
      | exact LeO.none _
      | refine LeO.ite ?_ ?_
      | refine LeO.bind ?_ (fun _ => ?_)
    · intro y0 y1 y2 y3 y4 y5 y6 y7
      unfold impl_evalPart.j0
      repeat' first
      | (with_reducible exact ih0 _ _ _)
      | (with_reducible exact ih1 _ _ _ _ _ _ _ _)
      | (with_reducible exact ih2 _ _)
      | (with_reducible exact ih3 _ _ _ _)
      | (with_reducible exact impl_partNeeds.mono _ _ _)
      | (with_reducible exact LeO.refl _)
      | (with_reducible exact LeO.none _)
      | (with_reducible refine LeO.ite ?_ ?_)
      | (with_reducible refine LeO.bind ?_ (fun _ => ?_))
      | exact ih0 _ _ _
      | exact ih1 _ _ _ _ _ _ _ _
      | exact ih2 _ _
      | exact ih3 _ _ _ _
      | exact impl_partNeeds.mono _ _ _
      | exact LeO.none _
      | refine LeO.ite ?_ ?_
      | refine LeO.bind ?_ (fun _ => ?_)
    · intro y0 y1
      unfold impl_evalPart.j1
      repeat' first
      | (with_reducible exact ih0 _ _ _)
      | (with_reducible exact ih1 _ _ _ _ _ _ _ _)
      | (with_reducible exact ih2 _ _)
      | (with_reducible exact ih3 _ _ _ _)
      | (with_reducible exact impl_partNeeds.mono _ _ _)
      | (with_reducible exact LeO.refl _)
      | (with_reducible exact LeO.none _)
      | (with_reducible refine LeO.ite ?_ ?_)
      | (with_reducible refine LeO.bind ?_ (fun _ => ?_))
      | exact ih0 _ _ _
      | exact ih1 _ _ _ _ _ _ _ _
      | exact ih2 _ _
      | exact ih3 _ _ _ _
      | exact impl_partNeeds.mono _ _ _
      | exact LeO.none _
      | refine LeO.ite ?_ ?_
      | refine LeO.bind ?_ (fun _ => ?_)
    · intro y0 y1 y2 y3
      unfold impl_evalPart.j2
      repeat' first
      | (with_reducible exact ih0 _ _ _)
      | (with_reducible exact ih1 _ _ _ _ _ _ _ _)
      | (with_reducible exact ih2 _ _)
      | (with_reducible exact ih3 _ _ _ _)
      | (with_reducible exact impl_partNeeds.mono _ _ _)
      | (with_reducible exact LeO.refl _)
      | (with_reducible exact LeO.none _)
      | (with_reducible refine LeO.ite ?_ ?_)
      | (with_reducible refine LeO.bind ?_ (fun _ => ?_))
      | exact ih0 _ _ _
      | exact ih1 _ _ _ _ _ _ _ _
      | exact ih2 _ _
      | exact ih3 _ _ _ _
      | exact impl_partNeeds.mono _ _ _
      | exact LeO.none _
      | refine LeO.ite ?_ ?_
      | refine LeO.bind ?_ (fun _ => ?_)
theorem impl_evalPart.mono : ∀ a0 a1 a2 k, LeO (impl_evalPart.f k a0 a1 a2) (impl_evalPart.f (k + 1) a0 a1 a2) := by
  intro a0 a1 a2 k
  obtain ⟨ih0, ih1, ih2, ih3⟩ := impl_evalPart.mono_l k
  exact ih0 a0 a1 a2
set_option maxHeartbeats 8000000 in
set_option maxRecDepth 100000 in
theorem impl_evalPart.calls (k : Nat) : ∀ (A0 : Option Addr) (c0 : Nat) (l0 : List (S53)) (a1 : Int) (A2 : Option Addr) (c2 : Nat) (l2 : List Int) (r1 : Int) (r2 : Bool) (w : World) (hr0 : Kd.C k53 w A0 l0.length l0) (hc0 : l0.length ≤ c0) (hr2 : Kd.C (Kd.int .i64) w A2 l2.length l2) (hc2 : l2.length ≤ c2) (h : impl_evalPart.f k l0 a1 l2 = some (r1, r2)),
    Calls Try.prog 51 #[.slice A0 l0.length c0, .int .i64 a1, .slice A2 l2.length c2] w fun e w' => e = .returned (.tuple #[.int .i64 r1, .bool r2]) ∧ Below w.heap.size w w' := by
  induction k using Nat.strongRecOn with
  | _ k ih =>
  intro A0 c0 l0 a1 A2 c2 l2 r1 r2 w hr0 hc0 hr2 hc2 h
  cases k with
  | zero => exact absurd h (by simp [impl_evalPart.f])
  | succ k =>
  simp only [impl_evalPart.f] at h
  have hu53 := Try.underlying53
  have HR0 := Aside0.mk hr0
  have HC0 := Aside0.mk hc0
  clear hr0 hc0
  have HR2 := Aside0.mk hr2
  have HC2 := Aside0.mk hc2
  clear hr2 hc2
  have HB := Aside0.mk (Below.refl w.heap.size w)
  have H : (if 0 ≤ a1 then (if a1 < (l0.length : Int) then (if ((rd_T53 l0 a1).f0) = 0 then (some ((rd_T53 l0 a1).f1, true)) else (if ((rd_T53 l0 a1).f0) = 1 then (if 0 ≤ ((rd_T53 l0 a1).f1) then (if ((rd_T53 l0 a1).f1) < (l2.length : Int) then (some (rd l2 ((rd_T53 l0 a1).f1), true)) else (none)) else (none)) else ((impl_partNeeds.f k l0 a1).bind fun t273 => (if 0 < (t273.length : Int) then ((impl_evalPart.f k l0 (rd t273 0) l2).bind fun bt277 => (if 1 < (t273.length : Int) then ((impl_evalPart.f k l0 (rd t273 1) l2).bind fun bt280 => (if bt277.2 = true then (impl_evalPart.j0 k l0 l2 t273 bt277.1 bt280.1 (!bt280.2) ((rd_T53 l0 a1).f0) ((rd_T53 l0 a1).f1)) else (impl_evalPart.j0 k l0 l2 t273 bt277.1 bt280.1 true ((rd_T53 l0 a1).f0) ((rd_T53 l0 a1).f1)))) else (none))) else (none))))) else (none)) else (none)) = some (r1, r2) := h
  clear h
  by_cases c4 : 0 ≤ a1
  · rw [if_pos c4] at H
    have c4b0 : decide (0 ≤ a1) = true := decide_eq_true c4
    clear c4
    by_cases c5 : a1 < (l0.length : Int)
    · rw [if_pos c5] at H
      have c5b0 : decide (a1 < (l0.length : Int)) = true := decide_eq_true c5
      clear c5
      by_cases c6 : ((rd_T53 l0 a1).f0) = 0
      · rw [if_pos c6] at H
        have c6b0 : (((rd_T53 l0 a1).f0) == 0) = true := beq_iff_eq.mpr c6
        have c6b1 : (((rd_T53 l0 a1).f0) != 0) = false := bne_eq_false_iff_eq.mpr c6
        clear c6
        simp only [Option.some.injEq, Prod.mk.injEq] at H
        obtain ⟨rfl, rfl⟩ := H
        have p270 : 0 ≤ (a1 : Int) := of_decide_eq_true (by first | (with_reducible assumption) | assumption)
        have q270 : a1 < (l0.length : Int) := of_decide_eq_true (by first | (with_reducible assumption) | assumption)
        obtain ⟨ad270, e270, hx270_0, hx270_1⟩ := at_T53 HR0.out a1 p270 q270
        cases e270
        replace p270 := eq_true p270
        replace q270 := eq_true q270
        go_enter Try.func51, Try.ntmps51
        go_wp2_with (first | ((with_reducible refine gate_dst (N := 8) rfl ?_); refine box_event ?hg (N := 8) ?hd (cs := #[.int .i64 0, .int .i64 0]) (t := 53) ?hr ?_; (case hd => rfl); (case hg => rfl); (case hr => first | (go_simp; done) | (go_simp; rfl)); intro gb271 hg w7 hbox hb; have n0_ := Aside0.mk (below_step (by repeat (first | (with_reducible first | exact HB.out | apply below_alloc | apply pw_below_drewN | apply below_drew1) | exact HB.out)) hb); have n1_ := Aside0.mk (hbox); have n2_ := Aside0.mk ((by rw [hg]; exact (below_size (by repeat (first | (with_reducible first | exact HB.out | apply below_alloc | apply pw_below_drewN | apply below_drew1) | exact HB.out))) : w.heap.size ≤ gb271)); have n3_ := Aside0.mk ((by rw [hg]; exact (below_size (by repeat (first | (with_reducible first | exact HB.out | apply below_alloc | apply pw_below_drewN | apply below_drew1) | exact HB.out))) : w.heap.size ≤ gb271)); clear HB; have HB := n0_; have BK271 := n1_; have GW271 := n2_; have GE271 := n3_; clear n0_ n1_ n2_ n3_; clear hb hbox hg; have hcz8_0 : w7.cell? ⟨gb271, 0, none⟩ = some (.int .i64 0) := (blk_cell BK271.out 0).trans rfl; have hcz8_1 : w7.cell? ⟨gb271, 1, none⟩ = some (.int .i64 0) := (blk_cell BK271.out 1).trans rfl; have hfz8_0 := blk_frozen BK271.out 0; have hfz8_1 := blk_frozen BK271.out 1))
        go_ret2
        exact ⟨by first | rfl | (simp [errW_none, errW_some] <;> rfl) | (simp [*, errW_none, errW_some] <;> rfl), by repeat (first | (with_reducible first | exact HB.out | apply below_alloc | apply pw_below_drewN | apply below_drew1 | refine below_set ?_ GE271.out) | exact HB.out)⟩
      · rw [if_neg c6] at H
        have c6b0 : (((rd_T53 l0 a1).f0) == 0) = false := beq_eq_false_iff_ne.mpr c6
        have c6b1 : (((rd_T53 l0 a1).f0) != 0) = true := bne_iff_ne.mpr c6
        by_cases c9 : ((rd_T53 l0 a1).f0) = 1
        · rw [if_pos c9] at H
          have c9b0 : (((rd_T53 l0 a1).f0) == 1) = true := beq_iff_eq.mpr c9
          have c9b1 : (((rd_T53 l0 a1).f0) != 1) = false := bne_eq_false_iff_eq.mpr c9
          clear c9
          by_cases c10 : 0 ≤ ((rd_T53 l0 a1).f1)
          · rw [if_pos c10] at H
            have c10b0 : decide (0 ≤ ((rd_T53 l0 a1).f1)) = true := decide_eq_true c10
            clear c10
            by_cases c11 : ((rd_T53 l0 a1).f1) < (l2.length : Int)
            · rw [if_pos c11] at H
              have c11b0 : decide (((rd_T53 l0 a1).f1) < (l2.length : Int)) = true := decide_eq_true c11
              clear c11
              simp only [Option.some.injEq, Prod.mk.injEq] at H
              obtain ⟨rfl, rfl⟩ := H
              have p270 : 0 ≤ (a1 : Int) := of_decide_eq_true (by first | (with_reducible assumption) | assumption)
              have q270 : a1 < (l0.length : Int) := of_decide_eq_true (by first | (with_reducible assumption) | assumption)
              obtain ⟨ad270, e270, hx270_0, hx270_1⟩ := at_T53 HR0.out a1 p270 q270
              cases e270
              replace p270 := eq_true p270
              replace q270 := eq_true q270
              go_enter Try.func51, Try.ntmps51
              go_wp2_with (first | ((with_reducible refine gate_dst (N := 8) rfl ?_); refine box_event ?hg (N := 8) ?hd (cs := #[.int .i64 0, .int .i64 0]) (t := 53) ?hr ?_; (case hd => rfl); (case hg => rfl); (case hr => first | (go_simp; done) | (go_simp; rfl)); intro gb271 hg w12 hbox hb; have n0_ := Aside0.mk (below_step (by repeat (first | (with_reducible first | exact HB.out | apply below_alloc | apply pw_below_drewN | apply below_drew1) | exact HB.out)) hb); have n1_ := Aside0.mk (hbox); have n2_ := Aside0.mk ((by rw [hg]; exact (below_size (by repeat (first | (with_reducible first | exact HB.out | apply below_alloc | apply pw_below_drewN | apply below_drew1) | exact HB.out))) : w.heap.size ≤ gb271)); have n3_ := Aside0.mk ((by rw [hg]; exact (below_size (by repeat (first | (with_reducible first | exact HB.out | apply below_alloc | apply pw_below_drewN | apply below_drew1) | exact HB.out))) : w.heap.size ≤ gb271)); clear HB; have HB := n0_; have BK271 := n1_; have GW271 := n2_; have GE271 := n3_; clear n0_ n1_ n2_ n3_; clear hb hbox hg; have hcz13_0 : w12.cell? ⟨gb271, 0, none⟩ = some (.int .i64 0) := (blk_cell BK271.out 0).trans rfl; have hcz13_1 : w12.cell? ⟨gb271, 1, none⟩ = some (.int .i64 0) := (blk_cell BK271.out 1).trans rfl; have hfz13_0 := blk_frozen BK271.out 0; have hfz13_1 := blk_frozen BK271.out 1; have p272 : 0 ≤ (((rd_T53 l0 a1).f1) : Int) := of_decide_eq_true (by first | (with_reducible assumption) | assumption); have q272 : ((rd_T53 l0 a1).f1) < (l2.length : Int) := of_decide_eq_true (by first | (with_reducible assumption) | assumption); obtain ⟨ad272, e272, hx272_0⟩ := Kd.at_int HR2.out ((rd_T53 l0 a1).f1) p272 q272; cases e272; have hn272_0 : ad272.block ≠ gb271 := Nat.ne_of_lt (Nat.lt_of_lt_of_le (by have := World.block_lt_of_cell? _ _ hx272_0; first | rwa [add_block] at this | exact this) GW271.out); have hn272_1 : ad272.block ≠ gb271 := Nat.ne_of_lt (Nat.lt_of_lt_of_le (by have := World.block_lt_of_cell? _ _ hx272_0; first | rwa [add_block] at this | exact this) GW271.out); replace hx272_0 := (HB.out.cell (World.block_lt_of_cell? w _ hx272_0)).trans hx272_0; replace hx272_0 := (cell_far (p := ⟨gb271, 0, none⟩) (by first | (rw [add_block]; exact hn272_0) | (show (Addr.add _ _).block ≠ _; rw [add_block]; exact hn272_0) | exact hn272_0) (.int .i64 ((rd_T53 l0 a1).f0))).trans hx272_0; replace hx272_0 := (cell_far (p := ⟨gb271, 1, none⟩) (by first | (rw [add_block]; exact hn272_1) | (show (Addr.add _ _).block ≠ _; rw [add_block]; exact hn272_1) | exact hn272_1) (.int .i64 ((rd_T53 l0 a1).f1))).trans hx272_0; clear hn272_0; clear hn272_1; replace p272 := eq_true p272; replace q272 := eq_true q272))
              go_ret2
              exact ⟨by first | rfl | (simp [errW_none, errW_some] <;> rfl) | (simp [*, errW_none, errW_some] <;> rfl), by repeat (first | (with_reducible first | exact HB.out | apply below_alloc | apply pw_below_drewN | apply below_drew1 | refine below_set ?_ GE271.out) | exact HB.out)⟩
            · rw [if_neg c11] at H
              exact absurd H (by simp)
          · rw [if_neg c10] at H
            exact absurd H (by simp)
        · rw [if_neg c9] at H
          have c9b0 : (((rd_T53 l0 a1).f0) == 1) = false := beq_eq_false_iff_ne.mpr c9
          have c9b1 : (((rd_T53 l0 a1).f0) != 1) = true := bne_iff_ne.mpr c9
          replace H := Option.bind_eq_some_iff.mp H
          obtain ⟨t273, A140, H⟩ := H
          replace H : (if 0 < (t273.length : Int) then ((impl_evalPart.f k l0 (rd t273 0) l2).bind fun bt277 => (if 1 < (t273.length : Int) then ((impl_evalPart.f k l0 (rd t273 1) l2).bind fun bt280 => (if bt277.2 = true then (impl_evalPart.j0 k l0 l2 t273 bt277.1 bt280.1 (!bt280.2) ((rd_T53 l0 a1).f0) ((rd_T53 l0 a1).f1)) else (impl_evalPart.j0 k l0 l2 t273 bt277.1 bt280.1 true ((rd_T53 l0 a1).f0) ((rd_T53 l0 a1).f1)))) else (none))) else (none)) = some (r1, r2) := H
          have A14 := Aside0.mk A140
          clear A140
          by_cases c15 : 0 < (t273.length : Int)
          · rw [if_pos c15] at H
            have c15b0 : decide (0 < (t273.length : Int)) = true := decide_eq_true c15
            have c15b1 : decide (0 < t273.length) = true := decide_eq_true (by omega)
            clear c15
            replace H := Option.bind_eq_some_iff.mp H
            obtain ⟨⟨t277, t278⟩, A160, H⟩ := H
            replace H : (if 1 < (t273.length : Int) then ((impl_evalPart.f k l0 (rd t273 1) l2).bind fun bt280 => (if t278 = true then (impl_evalPart.j0 k l0 l2 t273 t277 bt280.1 (!bt280.2) ((rd_T53 l0 a1).f0) ((rd_T53 l0 a1).f1)) else (impl_evalPart.j0 k l0 l2 t273 t277 bt280.1 true ((rd_T53 l0 a1).f0) ((rd_T53 l0 a1).f1)))) else (none)) = some (r1, r2) := H
            have A16 := Aside0.mk A160
            clear A160
            by_cases c17 : 1 < (t273.length : Int)
            · rw [if_pos c17] at H
              have c17b0 : decide (1 < (t273.length : Int)) = true := decide_eq_true c17
              have c17b1 : decide (1 < t273.length) = true := decide_eq_true (by omega)
              clear c17
              replace H := Option.bind_eq_some_iff.mp H
              obtain ⟨⟨t280, t281⟩, A180, H⟩ := H
              replace H : (if t278 = true then (impl_evalPart.j0 k l0 l2 t273 t277 t280 (!t281) ((rd_T53 l0 a1).f0) ((rd_T53 l0 a1).f1)) else (impl_evalPart.j0 k l0 l2 t273 t277 t280 true ((rd_T53 l0 a1).f0) ((rd_T53 l0 a1).f1))) = some (r1, r2) := H
              have A18 := Aside0.mk A180
              clear A180
              have HC19 := Aside0.mk H
              clear H
              have p270 : 0 ≤ (a1 : Int) := of_decide_eq_true (by first | (with_reducible assumption) | assumption)
              have q270 : a1 < (l0.length : Int) := of_decide_eq_true (by first | (with_reducible assumption) | assumption)
              obtain ⟨ad270, e270, hx270_0, hx270_1⟩ := at_T53 HR0.out a1 p270 q270
              cases e270
              replace p270 := eq_true p270
              replace q270 := eq_true q270
              go_enter Try.func51, Try.ntmps51
              go_upto_region 10 with (first | ((with_reducible refine gate_dst (N := 8) rfl ?_); refine box_event ?hg (N := 8) ?hd (cs := #[.int .i64 0, .int .i64 0]) (t := 53) ?hr ?_; (case hd => rfl); (case hg => rfl); (case hr => first | (go_simp; done) | (go_simp; rfl)); intro gb271 hg w20 hbox hb; have n0_ := Aside0.mk (below_step (by repeat (first | (with_reducible first | exact HB.out | apply below_alloc | apply pw_below_drewN | apply below_drew1) | exact HB.out)) hb); have n1_ := Aside0.mk (hbox); have n2_ := Aside0.mk ((by rw [hg]; exact (below_size (by repeat (first | (with_reducible first | exact HB.out | apply below_alloc | apply pw_below_drewN | apply below_drew1) | exact HB.out))) : w.heap.size ≤ gb271)); have n3_ := Aside0.mk ((by rw [hg]; exact (below_size (by repeat (first | (with_reducible first | exact HB.out | apply below_alloc | apply pw_below_drewN | apply below_drew1) | exact HB.out))) : w.heap.size ≤ gb271)); clear HB; have HB := n0_; have BK271 := n1_; have GW271 := n2_; have GE271 := n3_; clear n0_ n1_ n2_ n3_; clear hb hbox hg; have hcz21_0 : w20.cell? ⟨gb271, 0, none⟩ = some (.int .i64 0) := (blk_cell BK271.out 0).trans rfl; have hcz21_1 : w20.cell? ⟨gb271, 1, none⟩ = some (.int .i64 0) := (blk_cell BK271.out 1).trans rfl; have hfz21_0 := blk_frozen BK271.out 0; have hfz21_1 := blk_frozen BK271.out 1) | ((with_reducible refine gate_callee (f := 65) rfl ?_); refine goesL_ (some 35) rfl rfl Try.func65 (by kernel_rfl) rfl #[.slice (some ad270) l0.length c0, .int .i64 a1] rfl (by (try simp only [List.map_toArray, List.map_cons, List.map_nil]); first | done | rfl | (simp only [List.length_drop, List.length_take]; rfl)) ?_; (with_reducible refine (impl_partNeeds.calls k _ _ l0 a1 t273 _ ?side1 ?side2 A14.out).mono ?_); (case side1 => exact Kd.C_below HR0.out (by repeat (first | (with_reducible first | exact HB.out | apply below_alloc | apply pw_below_drewN | apply below_drew1 | refine below_set ?_ GE271.out) | exact HB.out))); (case side2 => exact HC0.out); rintro e w22 ⟨v274, rfl, ho0, hb⟩; refine ⟨_, rfl, ?_⟩; have n0_ := Aside0.mk (Kd.R_lower ho0 (below_size (by repeat (first | (with_reducible first | exact HB.out | apply below_alloc | apply pw_below_drewN | apply below_drew1 | refine below_set ?_ GE271.out) | exact HB.out)))); have n1_ := Aside0.mk (blk_below (g := gb271) (o := .cells #[.int .i64 ((rd_T53 l0 a1).f0), .int .i64 ((rd_T53 l0 a1).f1)] 53 (0, 0)) (by (with_reducible repeat (first | refine blk_drewN ?_ _ | refine blk_drew ?_ | refine blk_alloc ?_ _)); refine blk_put (cs := #[.int .i64 ((rd_T53 l0 a1).f0), .int .i64 0]) ?_ 1 _ rfl; (with_reducible repeat (first | refine blk_drewN ?_ _ | refine blk_drew ?_ | refine blk_alloc ?_ _)); refine blk_put (cs := #[.int .i64 0, .int .i64 0]) ?_ 0 _ rfl; (with_reducible repeat (first | refine blk_drewN ?_ _ | refine blk_drew ?_ | refine blk_alloc ?_ _)); exact BK271.out) hb); have n2_ := Aside0.mk (below_step (by repeat (first | (with_reducible first | exact HB.out | apply below_alloc | apply pw_below_drewN | apply below_drew1 | refine below_set ?_ GE271.out) | exact HB.out)) hb); clear BK271; clear HB; have HO275 := n0_; have BK271 := n1_; have HB := n2_; clear n0_ n1_ n2_; (try clear hb); (try clear hb2); (try clear hk); (try clear hi); (try clear ho0); obtain ⟨Ao23, co23, eo23⟩ := Kd.R_slice HO275.out; subst eo23; have p276 : 0 ≤ (0 : Int) := (by omega); have q276 : 0 < (t273.length : Int) := of_decide_eq_true (by first | (with_reducible assumption) | assumption); obtain ⟨ad276, e276, hx276_0⟩ := Kd.at_int (Kd.R_reads' HO275.out).2.2 0 p276 q276; cases e276; have qi276 : (0 < t273.length) = True := eq_true (by omega); (try rw [show ((0 : Int)).toNat = 0 from rfl] at hx276_0); (try rw [Addr.add_zero'] at hx276_0); replace p276 := eq_true p276; replace q276 := eq_true q276) | ((with_reducible refine gate_callee (f := 51) rfl ?_); refine goesL_ (some 42) rfl rfl Try.func51 (by kernel_rfl) rfl #[.slice (some ad270) l0.length c0, .int .i64 (rd t273 0), .slice A2 l2.length c2] rfl (by (try simp only [List.map_toArray, List.map_cons, List.map_nil]); first | done | rfl | (simp only [List.length_drop, List.length_take]; rfl)) ?_; (with_reducible refine (ih k (by omega) _ _ l0 (rd t273 0) _ _ l2 t277 t278 _ ?side1 ?side2 ?side3 ?side4 A16.out).mono ?_); (case side1 => repeat (first | exact (Kd.C_below HR0.out HB.out) | (with_reducible refine Kd.C_alloc ?_ _) | (with_reducible refine Kd.C_drewN ?_ _) | (with_reducible refine Kd.C_drew ?_))); (case side2 => exact HC0.out); (case side3 => repeat (first | exact (Kd.C_below HR2.out HB.out) | (with_reducible refine Kd.C_alloc ?_ _) | (with_reducible refine Kd.C_drewN ?_ _) | (with_reducible refine Kd.C_drew ?_))); (case side4 => exact HC2.out); rintro e w24 ⟨rfl, hb⟩; refine ⟨_, rfl, ?_⟩; have n0_ := Aside0.mk (Kd.R_below (by (with_reducible repeat (first | apply Kd.R_alloc | apply Kd.R_drewN | apply Kd.R_drew)); exact HO275.out) hb); have n1_ := Aside0.mk (blk_below (g := gb271) (o := .cells #[.int .i64 ((rd_T53 l0 a1).f0), .int .i64 ((rd_T53 l0 a1).f1)] 53 (0, 0)) (by (with_reducible repeat (first | refine blk_drewN ?_ _ | refine blk_drew ?_ | refine blk_alloc ?_ _)); exact BK271.out) hb); have n2_ := Aside0.mk (below_step (by repeat (first | (with_reducible first | exact HB.out | apply below_alloc | apply pw_below_drewN | apply below_drew1 | refine below_set ?_ GE271.out) | exact HB.out)) hb); clear HO275; clear BK271; clear HB; have HO275 := n0_; have BK271 := n1_; have HB := n2_; clear n0_ n1_ n2_; (try clear hb); (try clear hb2); (try clear hk); (try clear hi); have p279 : 0 ≤ (1 : Int) := (by omega); have q279 : 1 < (t273.length : Int) := of_decide_eq_true (by first | (with_reducible assumption) | assumption); obtain ⟨ad279, e279, hx279_0⟩ := Kd.at_int (Kd.R_reads' HO275.out).2.2 1 p279 q279; obtain rfl : ad276 = ad279 := (by injection e279); (try simp only [show (1 : Int).toNat = 1 from rfl, Nat.reduceMul, Nat.reduceEqDiff, Go.Addr.add, ↓reduceIte] at hx279_0); have qi279 : (1 < t273.length) = True := eq_true (by omega); (try rw [show ((1 : Int)).toNat = 1 from rfl] at hx279_0); replace p279 := eq_true p279; replace q279 := eq_true q279) | ((with_reducible refine gate_callee (f := 51) rfl ?_); refine goesL_ (some 51) rfl rfl Try.func51 (by kernel_rfl) rfl #[.slice (some ad270) l0.length c0, .int .i64 (rd t273 1), .slice A2 l2.length c2] rfl (by (try simp only [List.map_toArray, List.map_cons, List.map_nil]); first | done | rfl | (simp only [List.length_drop, List.length_take]; rfl)) ?_; (with_reducible refine (ih k (by omega) _ _ l0 (rd t273 1) _ _ l2 t280 t281 _ ?side1 ?side2 ?side3 ?side4 A18.out).mono ?_); (case side1 => repeat (first | exact (Kd.C_below HR0.out HB.out) | (with_reducible refine Kd.C_alloc ?_ _) | (with_reducible refine Kd.C_drewN ?_ _) | (with_reducible refine Kd.C_drew ?_))); (case side2 => exact HC0.out); (case side3 => repeat (first | exact (Kd.C_below HR2.out HB.out) | (with_reducible refine Kd.C_alloc ?_ _) | (with_reducible refine Kd.C_drewN ?_ _) | (with_reducible refine Kd.C_drew ?_))); (case side4 => exact HC2.out); rintro e w25 ⟨rfl, hb⟩; refine ⟨_, rfl, ?_⟩; have n0_ := Aside0.mk (Kd.R_below (by (with_reducible repeat (first | apply Kd.R_alloc | apply Kd.R_drewN | apply Kd.R_drew)); exact HO275.out) hb); have n1_ := Aside0.mk (blk_below (g := gb271) (o := .cells #[.int .i64 ((rd_T53 l0 a1).f0), .int .i64 ((rd_T53 l0 a1).f1)] 53 (0, 0)) (by (with_reducible repeat (first | refine blk_drewN ?_ _ | refine blk_drew ?_ | refine blk_alloc ?_ _)); exact BK271.out) hb); have n2_ := Aside0.mk (below_step (by repeat (first | (with_reducible first | exact HB.out | apply below_alloc | apply pw_below_drewN | apply below_drew1 | refine below_set ?_ GE271.out) | exact HB.out)) hb); clear HO275; clear BK271; clear HB; have HO275 := n0_; have BK271 := n1_; have HB := n2_; clear n0_ n1_ n2_; (try clear hb); (try clear hb2); (try clear hk); (try clear hi)))
              (try simp only [Act.put, List.setIfInBounds_toArray, List.set_cons_zero, List.set_cons_succ])
              go_cut [59] (fun v59 wc => ∃ (kq : Nat) (x59_18 : Bool), v59 = .bool x59_18 ∧ Aside0 (impl_evalPart.j0 kq l0 l2 t273 t277 t280 x59_18 ((rd_T53 l0 a1).f0) ((rd_T53 l0 a1).f1) = some (r1, r2)) ∧ Aside0 (kq ≤ k) ∧ Aside0 (Kd.R (Kd.int .i64) 3 wc w.heap.size (fun _ => True) (.slice (some ad276) t273.length co23) t273) ∧ Aside0 (wc.heap[gb271]? = some (.cells #[.int .i64 ((rd_T53 l0 a1).f0), .int .i64 ((rd_T53 l0 a1).f1)] 53 (0, 0))) ∧ Aside0 (Below w.heap.size w wc))
              case first =>
                have H := HC19.out
                clear HC19
                by_cases c26 : t278 = true
                · subst c26
                  have H1 : (impl_evalPart.j0 k l0 l2 t273 t277 t280 (!t281) ((rd_T53 l0 a1).f0) ((rd_T53 l0 a1).f1)) = some (r1, r2) := by rw [if_pos rfl] at H; exact H
                  clear H
                  have H := H1
                  clear H1
                  have H' := Aside0.mk H
                  clear H
                  go_wp2
                  go_meet
                  case rel => exact ⟨_, (!t281), (by first | rfl | (simp; done) | (simp [*]; done)), H', ⟨by first | omega | exact Nat.le_refl _⟩, ⟨by (with_reducible repeat (first | apply Kd.R_alloc | apply Kd.R_drewN | apply Kd.R_drew)); exact HO275.out⟩, ⟨by (with_reducible repeat (first | refine blk_drewN ?_ _ | refine blk_drew ?_ | refine blk_alloc ?_ _)); exact BK271.out⟩, ⟨by repeat (first | (with_reducible first | exact HB.out | apply below_alloc | apply pw_below_drewN | apply below_drew1 | refine below_set ?_ GE271.out) | exact HB.out)⟩⟩
                · replace c26 := Bool.eq_false_iff.mpr c26
                  subst c26
                  have H1 : (impl_evalPart.j0 k l0 l2 t273 t277 t280 true ((rd_T53 l0 a1).f0) ((rd_T53 l0 a1).f1)) = some (r1, r2) := by rw [if_neg (show ¬ (false = true) by decide)] at H; exact H
                  clear H
                  have H := H1
                  clear H1
                  have H' := Aside0.mk H
                  clear H
                  go_wp2
                  go_meet
                  case rel => exact ⟨_, (true), (by first | rfl | (simp; done) | (simp [*]; done)), H', ⟨by first | omega | exact Nat.le_refl _⟩, ⟨by (with_reducible repeat (first | apply Kd.R_alloc | apply Kd.R_drewN | apply Kd.R_drew)); exact HO275.out⟩, ⟨by (with_reducible repeat (first | refine blk_drewN ?_ _ | refine blk_drew ?_ | refine blk_alloc ?_ _)); exact BK271.out⟩, ⟨by repeat (first | (with_reducible first | exact HB.out | apply below_alloc | apply pw_below_drewN | apply below_drew1 | refine below_set ?_ GE271.out) | exact HB.out)⟩⟩
              case rest =>
                clear HC19
                try clear c1
                try clear c2
                try clear p2
                try clear q2
                try clear hx2
                try clear qi2
                try clear c4
                try clear c4b0
                try clear c5
                try clear c5b0
                try clear c6
                try clear c6b0
                try clear c6b1
                try clear c9
                try clear c9b0
                try clear c9b1
                try clear c10
                try clear c10b0
                try clear c11
                try clear c11b0
                try clear c15
                try clear c15b0
                try clear c15b1
                try clear c17
                try clear c17b0
                try clear c17b1
                try clear c26
                try clear hcz13_0
                try clear hcz13_1
                try clear hcz21_0
                try clear hcz21_1
                try clear hcz8_0
                try clear hcz8_1
                try clear hfz13_0
                try clear hfz13_1
                try clear hfz21_0
                try clear hfz21_1
                try clear hfz8_0
                try clear hfz8_1
                try clear hx270_0
                try clear hx270_1
                try clear hx272_0
                try clear hx276_0
                try clear hx279_0
                try clear p270
                try clear p272
                try clear p276
                try clear p279
                try clear q270
                try clear q272
                try clear q276
                try clear q279
                obtain ⟨kq, x59_18, rfl, HA, HJ18, HO_9, BK271, HB⟩ := hcut
                cases kq with
                | zero => exact absurd HA.out (by simp [impl_evalPart.j0])
                | succ kj18 =>
                  have H := HA.out
                  clear HA
                  simp only [impl_evalPart.j0] at H
                  by_cases c27 : x59_18 = true
                  · subst c27
                    have H1 : (some (0, false)) = some (r1, r2) := by rw [if_pos rfl] at H; exact H
                    clear H
                    have H := H1
                    clear H1
                    simp only [Option.some.injEq, Prod.mk.injEq] at H
                    obtain ⟨rfl, rfl⟩ := H
                    go_wp2
                    go_ret2
                    exact ⟨by first | rfl | (simp [errW_none, errW_some] <;> rfl) | (simp [*, errW_none, errW_some] <;> rfl), by repeat (first | (with_reducible first | exact HB.out | apply below_alloc | apply pw_below_drewN | apply below_drew1 | refine below_set ?_ GE271.out) | exact HB.out)⟩
                  · replace c27 := Bool.eq_false_iff.mpr c27
                    subst c27
                    have H1 : (if ((rd_T53 l0 a1).f0) = 2 then ((impl_abs.f (wrap64 (t277 + t280))).bind fun t282 => (if t282 > 1000000000 then (some (0, false)) else (some (wrap64 (t277 + t280), true)))) else (if ((rd_T53 l0 a1).f0) = 3 then ((impl_abs.f (wrap64 (t277 - t280))).bind fun t283 => (if t283 > 1000000000 then (some (0, false)) else (some (wrap64 (t277 - t280), true)))) else (if ((rd_T53 l0 a1).f0) = 4 then ((impl_abs.f (wrap64 (t277 * t280))).bind fun t284 => (if t284 > 1000000000 then (some (0, false)) else (some (wrap64 (t277 * t280), true)))) else (if ((rd_T53 l0 a1).f0) = 5 then (if t280 = 0 then (some (0, false)) else (if t280 < 0 then (impl_evalPart.j1 kj18 (wrap64 (-t277)) (wrap64 (-t280))) else (impl_evalPart.j1 kj18 t277 t280))) else (if ((rd_T53 l0 a1).f0) = 6 then (if t277 < t280 then (impl_evalPart.j2 kj18 l0 l2 t273 true) else (if ((rd_T53 l0 a1).f0) = 7 then (if t277 = t280 then (impl_evalPart.j2 kj18 l0 l2 t273 true) else (if ((rd_T53 l0 a1).f0) = 8 then (impl_evalPart.j2 kj18 l0 l2 t273 (decide (t277 > t280))) else (impl_evalPart.j2 kj18 l0 l2 t273 false))) else (if ((rd_T53 l0 a1).f0) = 8 then (impl_evalPart.j2 kj18 l0 l2 t273 (decide (t277 > t280))) else (impl_evalPart.j2 kj18 l0 l2 t273 false)))) else (if ((rd_T53 l0 a1).f0) = 7 then (if t277 = t280 then (impl_evalPart.j2 kj18 l0 l2 t273 true) else (if ((rd_T53 l0 a1).f0) = 8 then (impl_evalPart.j2 kj18 l0 l2 t273 (decide (t277 > t280))) else (impl_evalPart.j2 kj18 l0 l2 t273 false))) else (if ((rd_T53 l0 a1).f0) = 8 then (impl_evalPart.j2 kj18 l0 l2 t273 (decide (t277 > t280))) else (impl_evalPart.j2 kj18 l0 l2 t273 false)))))))) = some (r1, r2) := by rw [if_neg (show ¬ (false = true) by decide)] at H; exact H
                    clear H
                    have H := H1
                    clear H1
                    by_cases c28 : ((rd_T53 l0 a1).f0) = 2
                    · rw [if_pos c28] at H
                      have c28b0 : (((rd_T53 l0 a1).f0) == 2) = true := beq_iff_eq.mpr c28
                      have c28b1 : (((rd_T53 l0 a1).f0) != 2) = false := bne_eq_false_iff_eq.mpr c28
                      clear c28
                      replace H := Option.bind_eq_some_iff.mp H
                      obtain ⟨t282, A290, H⟩ := H
                      replace H : (if t282 > 1000000000 then (some (0, false)) else (some (wrap64 (t277 + t280), true))) = some (r1, r2) := H
                      have A29 := Aside0.mk A290
                      clear A290
                      by_cases c30 : t282 > 1000000000
                      · rw [if_pos c30] at H
                        have c30b0 : decide (1000000000 < t282) = true := decide_eq_true c30
                        clear c30
                        simp only [Option.some.injEq, Prod.mk.injEq] at H
                        obtain ⟨rfl, rfl⟩ := H
                        have hcz31_0 : wc.cell? ⟨gb271, 0, none⟩ = some (.int .i64 ((rd_T53 l0 a1).f0)) := (blk_cell BK271.out 0).trans rfl
                        have hcz31_1 : wc.cell? ⟨gb271, 1, none⟩ = some (.int .i64 ((rd_T53 l0 a1).f1)) := (blk_cell BK271.out 1).trans rfl
                        have hfz31_0 := blk_frozen BK271.out 0
                        have hfz31_1 := blk_frozen BK271.out 1
                        go_wp2_with (first | ((with_reducible refine gate_callee (f := 67) rfl ?_); refine goesL_ (some 136) rfl rfl Try.func67 (by kernel_rfl) rfl #[.int .i64 (wrap64 (t277 + t280))] rfl (by (try simp only [List.map_toArray, List.map_cons, List.map_nil]); first | done | rfl | (simp only [List.length_drop, List.length_take]; rfl)) ?_; (with_reducible refine (impl_abs.calls (wrap64 (t277 + t280)) t282 _ A29.out).mono ?_); rintro e w32 ⟨rfl, hb⟩; refine ⟨_, rfl, ?_⟩; have n0_ := Aside0.mk (Kd.R_below (by (with_reducible repeat (first | apply Kd.R_alloc | apply Kd.R_drewN | apply Kd.R_drew)); exact HO_9.out) hb); have n1_ := Aside0.mk (blk_below (g := gb271) (o := .cells #[.int .i64 ((rd_T53 l0 a1).f0), .int .i64 ((rd_T53 l0 a1).f1)] 53 (0, 0)) (by (with_reducible repeat (first | refine blk_drewN ?_ _ | refine blk_drew ?_ | refine blk_alloc ?_ _)); exact BK271.out) hb); have n2_ := Aside0.mk (below_step (by repeat (first | (with_reducible first | exact HB.out | apply below_alloc | apply pw_below_drewN | apply below_drew1 | refine below_set ?_ GE271.out) | exact HB.out)) hb); clear HO_9; clear BK271; clear HB; have HO_9 := n0_; have BK271 := n1_; have HB := n2_; clear n0_ n1_ n2_; (try clear hb); (try clear hb2); (try clear hk); (try clear hi)))
                        go_ret2
                        exact ⟨by first | rfl | (simp [errW_none, errW_some] <;> rfl) | (simp [*, errW_none, errW_some] <;> rfl), by repeat (first | (with_reducible first | exact HB.out | apply below_alloc | apply pw_below_drewN | apply below_drew1 | refine below_set ?_ GE271.out) | exact HB.out)⟩
                      · rw [if_neg c30] at H
                        have c30b0 : decide (1000000000 < t282) = false := decide_eq_false c30
                        clear c30
                        simp only [Option.some.injEq, Prod.mk.injEq] at H
                        obtain ⟨rfl, rfl⟩ := H
                        have hcz33_0 : wc.cell? ⟨gb271, 0, none⟩ = some (.int .i64 ((rd_T53 l0 a1).f0)) := (blk_cell BK271.out 0).trans rfl
                        have hcz33_1 : wc.cell? ⟨gb271, 1, none⟩ = some (.int .i64 ((rd_T53 l0 a1).f1)) := (blk_cell BK271.out 1).trans rfl
                        have hfz33_0 := blk_frozen BK271.out 0
                        have hfz33_1 := blk_frozen BK271.out 1
                        go_wp2_with (first | ((with_reducible refine gate_callee (f := 67) rfl ?_); refine goesL_ (some 136) rfl rfl Try.func67 (by kernel_rfl) rfl #[.int .i64 (wrap64 (t277 + t280))] rfl (by (try simp only [List.map_toArray, List.map_cons, List.map_nil]); first | done | rfl | (simp only [List.length_drop, List.length_take]; rfl)) ?_; (with_reducible refine (impl_abs.calls (wrap64 (t277 + t280)) t282 _ A29.out).mono ?_); rintro e w34 ⟨rfl, hb⟩; refine ⟨_, rfl, ?_⟩; have n0_ := Aside0.mk (Kd.R_below (by (with_reducible repeat (first | apply Kd.R_alloc | apply Kd.R_drewN | apply Kd.R_drew)); exact HO_9.out) hb); have n1_ := Aside0.mk (blk_below (g := gb271) (o := .cells #[.int .i64 ((rd_T53 l0 a1).f0), .int .i64 ((rd_T53 l0 a1).f1)] 53 (0, 0)) (by (with_reducible repeat (first | refine blk_drewN ?_ _ | refine blk_drew ?_ | refine blk_alloc ?_ _)); exact BK271.out) hb); have n2_ := Aside0.mk (below_step (by repeat (first | (with_reducible first | exact HB.out | apply below_alloc | apply pw_below_drewN | apply below_drew1 | refine below_set ?_ GE271.out) | exact HB.out)) hb); clear HO_9; clear BK271; clear HB; have HO_9 := n0_; have BK271 := n1_; have HB := n2_; clear n0_ n1_ n2_; (try clear hb); (try clear hb2); (try clear hk); (try clear hi)))
                        go_ret2
                        exact ⟨by first | rfl | (simp [errW_none, errW_some] <;> rfl) | (simp [*, errW_none, errW_some] <;> rfl), by repeat (first | (with_reducible first | exact HB.out | apply below_alloc | apply pw_below_drewN | apply below_drew1 | refine below_set ?_ GE271.out) | exact HB.out)⟩
                    · rw [if_neg c28] at H
                      have c28b0 : (((rd_T53 l0 a1).f0) == 2) = false := beq_eq_false_iff_ne.mpr c28
                      have c28b1 : (((rd_T53 l0 a1).f0) != 2) = true := bne_iff_ne.mpr c28
                      by_cases c35 : ((rd_T53 l0 a1).f0) = 3
                      · rw [if_pos c35] at H
                        have c35b0 : (((rd_T53 l0 a1).f0) == 3) = true := beq_iff_eq.mpr c35
                        have c35b1 : (((rd_T53 l0 a1).f0) != 3) = false := bne_eq_false_iff_eq.mpr c35
                        clear c35
                        replace H := Option.bind_eq_some_iff.mp H
                        obtain ⟨t283, A360, H⟩ := H
                        replace H : (if t283 > 1000000000 then (some (0, false)) else (some (wrap64 (t277 - t280), true))) = some (r1, r2) := H
                        have A36 := Aside0.mk A360
                        clear A360
                        by_cases c37 : t283 > 1000000000
                        · rw [if_pos c37] at H
                          have c37b0 : decide (1000000000 < t283) = true := decide_eq_true c37
                          clear c37
                          simp only [Option.some.injEq, Prod.mk.injEq] at H
                          obtain ⟨rfl, rfl⟩ := H
                          have hcz38_0 : wc.cell? ⟨gb271, 0, none⟩ = some (.int .i64 ((rd_T53 l0 a1).f0)) := (blk_cell BK271.out 0).trans rfl
                          have hcz38_1 : wc.cell? ⟨gb271, 1, none⟩ = some (.int .i64 ((rd_T53 l0 a1).f1)) := (blk_cell BK271.out 1).trans rfl
                          have hfz38_0 := blk_frozen BK271.out 0
                          have hfz38_1 := blk_frozen BK271.out 1
                          go_wp2_with (first | ((with_reducible refine gate_callee (f := 67) rfl ?_); refine goesL_ (some 136) rfl rfl Try.func67 (by kernel_rfl) rfl #[.int .i64 (wrap64 (t277 - t280))] rfl (by (try simp only [List.map_toArray, List.map_cons, List.map_nil]); first | done | rfl | (simp only [List.length_drop, List.length_take]; rfl)) ?_; (with_reducible refine (impl_abs.calls (wrap64 (t277 - t280)) t283 _ A36.out).mono ?_); rintro e w39 ⟨rfl, hb⟩; refine ⟨_, rfl, ?_⟩; have n0_ := Aside0.mk (Kd.R_below (by (with_reducible repeat (first | apply Kd.R_alloc | apply Kd.R_drewN | apply Kd.R_drew)); exact HO_9.out) hb); have n1_ := Aside0.mk (blk_below (g := gb271) (o := .cells #[.int .i64 ((rd_T53 l0 a1).f0), .int .i64 ((rd_T53 l0 a1).f1)] 53 (0, 0)) (by (with_reducible repeat (first | refine blk_drewN ?_ _ | refine blk_drew ?_ | refine blk_alloc ?_ _)); exact BK271.out) hb); have n2_ := Aside0.mk (below_step (by repeat (first | (with_reducible first | exact HB.out | apply below_alloc | apply pw_below_drewN | apply below_drew1 | refine below_set ?_ GE271.out) | exact HB.out)) hb); clear HO_9; clear BK271; clear HB; have HO_9 := n0_; have BK271 := n1_; have HB := n2_; clear n0_ n1_ n2_; (try clear hb); (try clear hb2); (try clear hk); (try clear hi)))
                          go_ret2
                          exact ⟨by first | rfl | (simp [errW_none, errW_some] <;> rfl) | (simp [*, errW_none, errW_some] <;> rfl), by repeat (first | (with_reducible first | exact HB.out | apply below_alloc | apply pw_below_drewN | apply below_drew1 | refine below_set ?_ GE271.out) | exact HB.out)⟩
                        · rw [if_neg c37] at H
                          have c37b0 : decide (1000000000 < t283) = false := decide_eq_false c37
                          clear c37
                          simp only [Option.some.injEq, Prod.mk.injEq] at H
                          obtain ⟨rfl, rfl⟩ := H
                          have hcz40_0 : wc.cell? ⟨gb271, 0, none⟩ = some (.int .i64 ((rd_T53 l0 a1).f0)) := (blk_cell BK271.out 0).trans rfl
                          have hcz40_1 : wc.cell? ⟨gb271, 1, none⟩ = some (.int .i64 ((rd_T53 l0 a1).f1)) := (blk_cell BK271.out 1).trans rfl
                          have hfz40_0 := blk_frozen BK271.out 0
                          have hfz40_1 := blk_frozen BK271.out 1
                          go_wp2_with (first | ((with_reducible refine gate_callee (f := 67) rfl ?_); refine goesL_ (some 136) rfl rfl Try.func67 (by kernel_rfl) rfl #[.int .i64 (wrap64 (t277 - t280))] rfl (by (try simp only [List.map_toArray, List.map_cons, List.map_nil]); first | done | rfl | (simp only [List.length_drop, List.length_take]; rfl)) ?_; (with_reducible refine (impl_abs.calls (wrap64 (t277 - t280)) t283 _ A36.out).mono ?_); rintro e w41 ⟨rfl, hb⟩; refine ⟨_, rfl, ?_⟩; have n0_ := Aside0.mk (Kd.R_below (by (with_reducible repeat (first | apply Kd.R_alloc | apply Kd.R_drewN | apply Kd.R_drew)); exact HO_9.out) hb); have n1_ := Aside0.mk (blk_below (g := gb271) (o := .cells #[.int .i64 ((rd_T53 l0 a1).f0), .int .i64 ((rd_T53 l0 a1).f1)] 53 (0, 0)) (by (with_reducible repeat (first | refine blk_drewN ?_ _ | refine blk_drew ?_ | refine blk_alloc ?_ _)); exact BK271.out) hb); have n2_ := Aside0.mk (below_step (by repeat (first | (with_reducible first | exact HB.out | apply below_alloc | apply pw_below_drewN | apply below_drew1 | refine below_set ?_ GE271.out) | exact HB.out)) hb); clear HO_9; clear BK271; clear HB; have HO_9 := n0_; have BK271 := n1_; have HB := n2_; clear n0_ n1_ n2_; (try clear hb); (try clear hb2); (try clear hk); (try clear hi)))
                          go_ret2
                          exact ⟨by first | rfl | (simp [errW_none, errW_some] <;> rfl) | (simp [*, errW_none, errW_some] <;> rfl), by repeat (first | (with_reducible first | exact HB.out | apply below_alloc | apply pw_below_drewN | apply below_drew1 | refine below_set ?_ GE271.out) | exact HB.out)⟩
                      · rw [if_neg c35] at H
                        have c35b0 : (((rd_T53 l0 a1).f0) == 3) = false := beq_eq_false_iff_ne.mpr c35
                        have c35b1 : (((rd_T53 l0 a1).f0) != 3) = true := bne_iff_ne.mpr c35
                        by_cases c42 : ((rd_T53 l0 a1).f0) = 4
                        · rw [if_pos c42] at H
                          have c42b0 : (((rd_T53 l0 a1).f0) == 4) = true := beq_iff_eq.mpr c42
                          have c42b1 : (((rd_T53 l0 a1).f0) != 4) = false := bne_eq_false_iff_eq.mpr c42
                          clear c42
                          replace H := Option.bind_eq_some_iff.mp H
                          obtain ⟨t284, A430, H⟩ := H
                          replace H : (if t284 > 1000000000 then (some (0, false)) else (some (wrap64 (t277 * t280), true))) = some (r1, r2) := H
                          have A43 := Aside0.mk A430
                          clear A430
                          by_cases c44 : t284 > 1000000000
                          · rw [if_pos c44] at H
                            have c44b0 : decide (1000000000 < t284) = true := decide_eq_true c44
                            clear c44
                            simp only [Option.some.injEq, Prod.mk.injEq] at H
                            obtain ⟨rfl, rfl⟩ := H
                            have hcz45_0 : wc.cell? ⟨gb271, 0, none⟩ = some (.int .i64 ((rd_T53 l0 a1).f0)) := (blk_cell BK271.out 0).trans rfl
                            have hcz45_1 : wc.cell? ⟨gb271, 1, none⟩ = some (.int .i64 ((rd_T53 l0 a1).f1)) := (blk_cell BK271.out 1).trans rfl
                            have hfz45_0 := blk_frozen BK271.out 0
                            have hfz45_1 := blk_frozen BK271.out 1
                            go_wp2_with (first | ((with_reducible refine gate_callee (f := 67) rfl ?_); refine goesL_ (some 136) rfl rfl Try.func67 (by kernel_rfl) rfl #[.int .i64 (wrap64 (t277 * t280))] rfl (by (try simp only [List.map_toArray, List.map_cons, List.map_nil]); first | done | rfl | (simp only [List.length_drop, List.length_take]; rfl)) ?_; (with_reducible refine (impl_abs.calls (wrap64 (t277 * t280)) t284 _ A43.out).mono ?_); rintro e w46 ⟨rfl, hb⟩; refine ⟨_, rfl, ?_⟩; have n0_ := Aside0.mk (Kd.R_below (by (with_reducible repeat (first | apply Kd.R_alloc | apply Kd.R_drewN | apply Kd.R_drew)); exact HO_9.out) hb); have n1_ := Aside0.mk (blk_below (g := gb271) (o := .cells #[.int .i64 ((rd_T53 l0 a1).f0), .int .i64 ((rd_T53 l0 a1).f1)] 53 (0, 0)) (by (with_reducible repeat (first | refine blk_drewN ?_ _ | refine blk_drew ?_ | refine blk_alloc ?_ _)); exact BK271.out) hb); have n2_ := Aside0.mk (below_step (by repeat (first | (with_reducible first | exact HB.out | apply below_alloc | apply pw_below_drewN | apply below_drew1 | refine below_set ?_ GE271.out) | exact HB.out)) hb); clear HO_9; clear BK271; clear HB; have HO_9 := n0_; have BK271 := n1_; have HB := n2_; clear n0_ n1_ n2_; (try clear hb); (try clear hb2); (try clear hk); (try clear hi)))
                            go_ret2
                            exact ⟨by first | rfl | (simp [errW_none, errW_some] <;> rfl) | (simp [*, errW_none, errW_some] <;> rfl), by repeat (first | (with_reducible first | exact HB.out | apply below_alloc | apply pw_below_drewN | apply below_drew1 | refine below_set ?_ GE271.out) | exact HB.out)⟩
                          · rw [if_neg c44] at H
                            have c44b0 : decide (1000000000 < t284) = false := decide_eq_false c44
                            clear c44
                            simp only [Option.some.injEq, Prod.mk.injEq] at H
                            obtain ⟨rfl, rfl⟩ := H
                            have hcz47_0 : wc.cell? ⟨gb271, 0, none⟩ = some (.int .i64 ((rd_T53 l0 a1).f0)) := (blk_cell BK271.out 0).trans rfl
                            have hcz47_1 : wc.cell? ⟨gb271, 1, none⟩ = some (.int .i64 ((rd_T53 l0 a1).f1)) := (blk_cell BK271.out 1).trans rfl
                            have hfz47_0 := blk_frozen BK271.out 0
                            have hfz47_1 := blk_frozen BK271.out 1
                            go_wp2_with (first | ((with_reducible refine gate_callee (f := 67) rfl ?_); refine goesL_ (some 136) rfl rfl Try.func67 (by kernel_rfl) rfl #[.int .i64 (wrap64 (t277 * t280))] rfl (by (try simp only [List.map_toArray, List.map_cons, List.map_nil]); first | done | rfl | (simp only [List.length_drop, List.length_take]; rfl)) ?_; (with_reducible refine (impl_abs.calls (wrap64 (t277 * t280)) t284 _ A43.out).mono ?_); rintro e w48 ⟨rfl, hb⟩; refine ⟨_, rfl, ?_⟩; have n0_ := Aside0.mk (Kd.R_below (by (with_reducible repeat (first | apply Kd.R_alloc | apply Kd.R_drewN | apply Kd.R_drew)); exact HO_9.out) hb); have n1_ := Aside0.mk (blk_below (g := gb271) (o := .cells #[.int .i64 ((rd_T53 l0 a1).f0), .int .i64 ((rd_T53 l0 a1).f1)] 53 (0, 0)) (by (with_reducible repeat (first | refine blk_drewN ?_ _ | refine blk_drew ?_ | refine blk_alloc ?_ _)); exact BK271.out) hb); have n2_ := Aside0.mk (below_step (by repeat (first | (with_reducible first | exact HB.out | apply below_alloc | apply pw_below_drewN | apply below_drew1 | refine below_set ?_ GE271.out) | exact HB.out)) hb); clear HO_9; clear BK271; clear HB; have HO_9 := n0_; have BK271 := n1_; have HB := n2_; clear n0_ n1_ n2_; (try clear hb); (try clear hb2); (try clear hk); (try clear hi)))
                            go_ret2
                            exact ⟨by first | rfl | (simp [errW_none, errW_some] <;> rfl) | (simp [*, errW_none, errW_some] <;> rfl), by repeat (first | (with_reducible first | exact HB.out | apply below_alloc | apply pw_below_drewN | apply below_drew1 | refine below_set ?_ GE271.out) | exact HB.out)⟩
                        · rw [if_neg c42] at H
                          have c42b0 : (((rd_T53 l0 a1).f0) == 4) = false := beq_eq_false_iff_ne.mpr c42
                          have c42b1 : (((rd_T53 l0 a1).f0) != 4) = true := bne_iff_ne.mpr c42
                          by_cases c49 : ((rd_T53 l0 a1).f0) = 5
                          · rw [if_pos c49] at H
                            have c49b0 : (((rd_T53 l0 a1).f0) == 5) = true := beq_iff_eq.mpr c49
                            have c49b1 : (((rd_T53 l0 a1).f0) != 5) = false := bne_eq_false_iff_eq.mpr c49
                            clear c49
                            by_cases c50 : t280 = 0
                            · rw [if_pos c50] at H
                              have c50b0 : (t280 == 0) = true := beq_iff_eq.mpr c50
                              have c50b1 : (t280 != 0) = false := bne_eq_false_iff_eq.mpr c50
                              clear c50
                              simp only [Option.some.injEq, Prod.mk.injEq] at H
                              obtain ⟨rfl, rfl⟩ := H
                              have hcz51_0 : wc.cell? ⟨gb271, 0, none⟩ = some (.int .i64 ((rd_T53 l0 a1).f0)) := (blk_cell BK271.out 0).trans rfl
                              have hcz51_1 : wc.cell? ⟨gb271, 1, none⟩ = some (.int .i64 ((rd_T53 l0 a1).f1)) := (blk_cell BK271.out 1).trans rfl
                              have hfz51_0 := blk_frozen BK271.out 0
                              have hfz51_1 := blk_frozen BK271.out 1
                              go_wp2
                              go_ret2
                              exact ⟨by first | rfl | (simp [errW_none, errW_some] <;> rfl) | (simp [*, errW_none, errW_some] <;> rfl), by repeat (first | (with_reducible first | exact HB.out | apply below_alloc | apply pw_below_drewN | apply below_drew1 | refine below_set ?_ GE271.out) | exact HB.out)⟩
                            · rw [if_neg c50] at H
                              have c50b0 : (t280 == 0) = false := beq_eq_false_iff_ne.mpr c50
                              have c50b1 : (t280 != 0) = true := bne_iff_ne.mpr c50
                              have HC52 := Aside0.mk H
                              clear H
                              have hcz53_0 : wc.cell? ⟨gb271, 0, none⟩ = some (.int .i64 ((rd_T53 l0 a1).f0)) := (blk_cell BK271.out 0).trans rfl
                              have hcz53_1 : wc.cell? ⟨gb271, 1, none⟩ = some (.int .i64 ((rd_T53 l0 a1).f1)) := (blk_cell BK271.out 1).trans rfl
                              have hfz53_0 := blk_frozen BK271.out 0
                              have hfz53_1 := blk_frozen BK271.out 1
                              go_upto_if 127 with (fail)
                              go_cut [10, 12] (fun v10 v12 wc => ∃ (kq : Nat) (x10_51 : Int) (x12_51 : Int), v10 = .int .i64 x10_51 ∧ v12 = .int .i64 x12_51 ∧ Aside0 (impl_evalPart.j1 kq x10_51 x12_51 = some (r1, r2)) ∧ Aside0 (kq ≤ kj18) ∧ Aside0 (wc.heap[gb271]? = some (.cells #[.int .i64 ((rd_T53 l0 a1).f0), .int .i64 ((rd_T53 l0 a1).f1)] 53 (0, 0))) ∧ Aside0 (Below w.heap.size w wc))
                              case first =>
                                have H := HC52.out
                                clear HC52
                                by_cases c54 : t280 < 0
                                · rw [if_pos c54] at H
                                  have c54b0 : decide (t280 < 0) = true := decide_eq_true c54
                                  clear c54
                                  (first | rw [c54b0] | (simp only [i64_w, i32_w]; rw [c54b0]) | skip)
                                  have H' := Aside0.mk H
                                  clear H
                                  go_wp2
                                  go_meet
                                  case rel => exact ⟨_, (wrap64 (-t277)), (wrap64 (-t280)), (by first | rfl | (simp; done) | (simp [*]; done)), (by first | rfl | (simp; done) | (simp [*]; done)), H', ⟨by have := HJ18.out; first | omega | exact Nat.le_refl _⟩, ⟨by (with_reducible repeat (first | refine blk_drewN ?_ _ | refine blk_drew ?_ | refine blk_alloc ?_ _)); exact BK271.out⟩, ⟨by repeat (first | (with_reducible first | exact HB.out | apply below_alloc | apply pw_below_drewN | apply below_drew1 | refine below_set ?_ GE271.out) | exact HB.out)⟩⟩
                                · rw [if_neg c54] at H
                                  have c54b0 : decide (t280 < 0) = false := decide_eq_false c54
                                  clear c54
                                  (first | rw [c54b0] | (simp only [i64_w, i32_w]; rw [c54b0]) | skip)
                                  have H' := Aside0.mk H
                                  clear H
                                  go_wp2
                                  go_meet
                                  case rel => exact ⟨_, (t277), (t280), (by first | rfl | (simp; done) | (simp [*]; done)), (by first | rfl | (simp; done) | (simp [*]; done)), H', ⟨by have := HJ18.out; first | omega | exact Nat.le_refl _⟩, ⟨by (with_reducible repeat (first | refine blk_drewN ?_ _ | refine blk_drew ?_ | refine blk_alloc ?_ _)); exact BK271.out⟩, ⟨by repeat (first | (with_reducible first | exact HB.out | apply below_alloc | apply pw_below_drewN | apply below_drew1 | refine below_set ?_ GE271.out) | exact HB.out)⟩⟩
                              case rest =>
                                clear HC52
                                try clear c1
                                try clear c2
                                try clear p2
                                try clear q2
                                try clear hx2
                                try clear qi2
                                try clear c3
                                try clear c4
                                try clear c4b0
                                try clear c5
                                try clear c5b0
                                try clear c6
                                try clear c6b0
                                try clear c6b1
                                try clear p6
                                try clear c9
                                try clear c9b0
                                try clear c9b1
                                try clear c10
                                try clear c10b0
                                try clear c11
                                try clear c11b0
                                try clear c15
                                try clear c15b0
                                try clear c15b1
                                try clear c17
                                try clear c17b0
                                try clear c17b1
                                try clear c26
                                try clear c27
                                try clear p27
                                try clear q27
                                try clear hx27
                                try clear qi27
                                try clear c28
                                try clear c28b0
                                try clear c28b1
                                try clear c30
                                try clear c30b0
                                try clear c35
                                try clear c35b0
                                try clear c35b1
                                try clear c37
                                try clear c37b0
                                try clear c42
                                try clear c42b0
                                try clear c42b1
                                try clear c44
                                try clear c44b0
                                try clear c49
                                try clear c49b0
                                try clear c49b1
                                try clear c50
                                try clear c50b0
                                try clear c50b1
                                try clear c51
                                try clear c54
                                try clear c54b0
                                try clear hcz13_0
                                try clear hcz13_1
                                try clear hcz21_0
                                try clear hcz21_1
                                try clear hcz31_0
                                try clear hcz31_1
                                try clear hcz33_0
                                try clear hcz33_1
                                try clear hcz38_0
                                try clear hcz38_1
                                try clear hcz40_0
                                try clear hcz40_1
                                try clear hcz45_0
                                try clear hcz45_1
                                try clear hcz47_0
                                try clear hcz47_1
                                try clear hcz51_0
                                try clear hcz51_1
                                try clear hcz53_0
                                try clear hcz53_1
                                try clear hcz8_0
                                try clear hcz8_1
                                try clear hfz13_0
                                try clear hfz13_1
                                try clear hfz21_0
                                try clear hfz21_1
                                try clear hfz31_0
                                try clear hfz31_1
                                try clear hfz33_0
                                try clear hfz33_1
                                try clear hfz38_0
                                try clear hfz38_1
                                try clear hfz40_0
                                try clear hfz40_1
                                try clear hfz45_0
                                try clear hfz45_1
                                try clear hfz47_0
                                try clear hfz47_1
                                try clear hfz51_0
                                try clear hfz51_1
                                try clear hfz53_0
                                try clear hfz53_1
                                try clear hfz8_0
                                try clear hfz8_1
                                try clear hx270_0
                                try clear hx270_1
                                try clear hx272_0
                                try clear hx276_0
                                try clear hx279_0
                                try clear p2
                                try clear p270
                                try clear p272
                                try clear p276
                                try clear p279
                                try clear q2
                                try clear q270
                                try clear q272
                                try clear q276
                                try clear q279
                                obtain ⟨kq, x10_51, x12_51, rfl, rfl, HA, HJ51, BK271, HB⟩ := hcut
                                cases kq with
                                | zero => exact absurd HA.out (by simp [impl_evalPart.j1])
                                | succ kj51 =>
                                  have H := HA.out
                                  clear HA
                                  simp only [impl_evalPart.j1] at H
                                  replace H := Option.bind_eq_some_iff.mp H
                                  obtain ⟨t285, A550, H⟩ := H
                                  replace H : ((impl_abs.f t285).bind fun t286 => (if t286 > 1000000000 then (some (0, false)) else (some (t285, true)))) = some (r1, r2) := H
                                  have A55 := Aside0.mk A550
                                  clear A550
                                  replace H := Option.bind_eq_some_iff.mp H
                                  obtain ⟨t286, A560, H⟩ := H
                                  replace H : (if t286 > 1000000000 then (some (0, false)) else (some (t285, true))) = some (r1, r2) := H
                                  have A56 := Aside0.mk A560
                                  clear A560
                                  by_cases c57 : t286 > 1000000000
                                  · rw [if_pos c57] at H
                                    have c57b0 : decide (1000000000 < t286) = true := decide_eq_true c57
                                    clear c57
                                    simp only [Option.some.injEq, Prod.mk.injEq] at H
                                    obtain ⟨rfl, rfl⟩ := H
                                    go_wp2_with (first | ((with_reducible refine gate_callee (f := 66) rfl ?_); refine goesL_ (some 134) rfl rfl Try.func66 (by kernel_rfl) rfl #[.int .i64 x10_51, .int .i64 x12_51] rfl (by (try simp only [List.map_toArray, List.map_cons, List.map_nil]); first | done | rfl | (simp only [List.length_drop, List.length_take]; rfl)) ?_; (with_reducible refine (impl_floorDiv.calls x10_51 x12_51 t285 _ A55.out).mono ?_); rintro e w' ⟨rfl, ⟨nd, rfl⟩⟩; refine ⟨_, rfl, ?_⟩) | ((with_reducible refine gate_callee (f := 67) rfl ?_); refine goesL_ (some 136) rfl rfl Try.func67 (by kernel_rfl) rfl #[.int .i64 t285] rfl (by (try simp only [List.map_toArray, List.map_cons, List.map_nil]); first | done | rfl | (simp only [List.length_drop, List.length_take]; rfl)) ?_; (with_reducible refine (impl_abs.calls t285 t286 _ A56.out).mono ?_); rintro e w58 ⟨rfl, hb⟩; refine ⟨_, rfl, ?_⟩; have n0_ := Aside0.mk (blk_below (g := gb271) (o := .cells #[.int .i64 ((rd_T53 l0 a1).f0), .int .i64 ((rd_T53 l0 a1).f1)] 53 (0, 0)) (by (with_reducible repeat (first | refine blk_drewN ?_ _ | refine blk_drew ?_ | refine blk_alloc ?_ _)); exact BK271.out) hb); have n1_ := Aside0.mk (below_step (by repeat (first | (with_reducible first | exact HB.out | apply below_alloc | apply pw_below_drewN | apply below_drew1 | refine below_set ?_ GE271.out) | exact HB.out)) hb); clear BK271; clear HB; have BK271 := n0_; have HB := n1_; clear n0_ n1_; (try clear hb); (try clear hb2); (try clear hk); (try clear hi)))
                                    go_ret2
                                    exact ⟨by first | rfl | (simp [errW_none, errW_some] <;> rfl) | (simp [*, errW_none, errW_some] <;> rfl), by repeat (first | (with_reducible first | exact HB.out | apply below_alloc | apply pw_below_drewN | apply below_drew1 | refine below_set ?_ GE271.out) | exact HB.out)⟩
                                  · rw [if_neg c57] at H
                                    have c57b0 : decide (1000000000 < t286) = false := decide_eq_false c57
                                    clear c57
                                    simp only [Option.some.injEq, Prod.mk.injEq] at H
                                    obtain ⟨rfl, rfl⟩ := H
                                    go_wp2_with (first | ((with_reducible refine gate_callee (f := 66) rfl ?_); refine goesL_ (some 134) rfl rfl Try.func66 (by kernel_rfl) rfl #[.int .i64 x10_51, .int .i64 x12_51] rfl (by (try simp only [List.map_toArray, List.map_cons, List.map_nil]); first | done | rfl | (simp only [List.length_drop, List.length_take]; rfl)) ?_; (with_reducible refine (impl_floorDiv.calls x10_51 x12_51 t285 _ A55.out).mono ?_); rintro e w' ⟨rfl, ⟨nd, rfl⟩⟩; refine ⟨_, rfl, ?_⟩) | ((with_reducible refine gate_callee (f := 67) rfl ?_); refine goesL_ (some 136) rfl rfl Try.func67 (by kernel_rfl) rfl #[.int .i64 t285] rfl (by (try simp only [List.map_toArray, List.map_cons, List.map_nil]); first | done | rfl | (simp only [List.length_drop, List.length_take]; rfl)) ?_; (with_reducible refine (impl_abs.calls t285 t286 _ A56.out).mono ?_); rintro e w59 ⟨rfl, hb⟩; refine ⟨_, rfl, ?_⟩; have n0_ := Aside0.mk (blk_below (g := gb271) (o := .cells #[.int .i64 ((rd_T53 l0 a1).f0), .int .i64 ((rd_T53 l0 a1).f1)] 53 (0, 0)) (by (with_reducible repeat (first | refine blk_drewN ?_ _ | refine blk_drew ?_ | refine blk_alloc ?_ _)); exact BK271.out) hb); have n1_ := Aside0.mk (below_step (by repeat (first | (with_reducible first | exact HB.out | apply below_alloc | apply pw_below_drewN | apply below_drew1 | refine below_set ?_ GE271.out) | exact HB.out)) hb); clear BK271; clear HB; have BK271 := n0_; have HB := n1_; clear n0_ n1_; (try clear hb); (try clear hb2); (try clear hk); (try clear hi)))
                                    go_ret2
                                    exact ⟨by first | rfl | (simp [errW_none, errW_some] <;> rfl) | (simp [*, errW_none, errW_some] <;> rfl), by repeat (first | (with_reducible first | exact HB.out | apply below_alloc | apply pw_below_drewN | apply below_drew1 | refine below_set ?_ GE271.out) | exact HB.out)⟩
                          · rw [if_neg c49] at H
                            have c49b0 : (((rd_T53 l0 a1).f0) == 5) = false := beq_eq_false_iff_ne.mpr c49
                            have c49b1 : (((rd_T53 l0 a1).f0) != 5) = true := bne_iff_ne.mpr c49
                            have HC60 := Aside0.mk H
                            clear H
                            have hcz61_0 : wc.cell? ⟨gb271, 0, none⟩ = some (.int .i64 ((rd_T53 l0 a1).f0)) := (blk_cell BK271.out 0).trans rfl
                            have hcz61_1 : wc.cell? ⟨gb271, 1, none⟩ = some (.int .i64 ((rd_T53 l0 a1).f1)) := (blk_cell BK271.out 1).trans rfl
                            have hfz61_0 := blk_frozen BK271.out 0
                            have hfz61_1 := blk_frozen BK271.out 1
                            go_upto_region 14 with (fail)
                            go_cut [15] (fun v15 wc => ∃ (kq : Nat) (x15_59 : Bool), v15 = .bool x15_59 ∧ Aside0 (impl_evalPart.j2 kq l0 l2 t273 x15_59 = some (r1, r2)) ∧ Aside0 (kq ≤ kj18) ∧ Aside0 (Kd.R (Kd.int .i64) 3 wc w.heap.size (fun _ => True) (.slice (some ad276) t273.length co23) t273) ∧ Aside0 (wc.heap[gb271]? = some (.cells #[.int .i64 ((rd_T53 l0 a1).f0), .int .i64 ((rd_T53 l0 a1).f1)] 53 (0, 0))) ∧ Aside0 (Below w.heap.size w wc))
                            case first =>
                              have H := HC60.out
                              clear HC60
                              by_cases c62 : ((rd_T53 l0 a1).f0) = 6
                              · rw [if_pos c62] at H
                                have c62b0 : (((rd_T53 l0 a1).f0) == 6) = true := beq_iff_eq.mpr c62
                                have c62b1 : (((rd_T53 l0 a1).f0) != 6) = false := bne_eq_false_iff_eq.mpr c62
                                clear c62
                                (first | rw [c62b0] | (simp only [i64_w, i32_w]; rw [c62b0]) | skip)
                                by_cases c63 : t277 < t280
                                · rw [if_pos c63] at H
                                  have c63b0 : decide (t277 < t280) = true := decide_eq_true c63
                                  clear c63
                                  have H' := Aside0.mk H
                                  clear H
                                  have hcz64_0 : wc.cell? ⟨gb271, 0, none⟩ = some (.int .i64 ((rd_T53 l0 a1).f0)) := (blk_cell BK271.out 0).trans rfl
                                  have hcz64_1 : wc.cell? ⟨gb271, 1, none⟩ = some (.int .i64 ((rd_T53 l0 a1).f1)) := (blk_cell BK271.out 1).trans rfl
                                  have hfz64_0 := blk_frozen BK271.out 0
                                  have hfz64_1 := blk_frozen BK271.out 1
                                  go_wp2
                                  go_meet
                                  case rel => exact ⟨_, (true), (by first | rfl | (simp; done) | (simp [*]; done)), H', ⟨by have := HJ18.out; first | omega | exact Nat.le_refl _⟩, ⟨by (with_reducible repeat (first | apply Kd.R_alloc | apply Kd.R_drewN | apply Kd.R_drew)); exact HO_9.out⟩, ⟨by (with_reducible repeat (first | refine blk_drewN ?_ _ | refine blk_drew ?_ | refine blk_alloc ?_ _)); exact BK271.out⟩, ⟨by repeat (first | (with_reducible first | exact HB.out | apply below_alloc | apply pw_below_drewN | apply below_drew1 | refine below_set ?_ GE271.out) | exact HB.out)⟩⟩
                                · rw [if_neg c63] at H
                                  have c63b0 : decide (t277 < t280) = false := decide_eq_false c63
                                  clear c63
                                  by_cases c65 : ((rd_T53 l0 a1).f0) = 7
                                  · rw [if_pos c65] at H
                                    have c65b0 : (((rd_T53 l0 a1).f0) == 7) = true := beq_iff_eq.mpr c65
                                    have c65b1 : (((rd_T53 l0 a1).f0) != 7) = false := bne_eq_false_iff_eq.mpr c65
                                    clear c65
                                    by_cases c66 : t277 = t280
                                    · rw [if_pos c66] at H
                                      have c66b0 : (t277 == t280) = true := beq_iff_eq.mpr c66
                                      have c66b1 : (t277 != t280) = false := bne_eq_false_iff_eq.mpr c66
                                      clear c66
                                      have H' := Aside0.mk H
                                      clear H
                                      have hcz67_0 : wc.cell? ⟨gb271, 0, none⟩ = some (.int .i64 ((rd_T53 l0 a1).f0)) := (blk_cell BK271.out 0).trans rfl
                                      have hcz67_1 : wc.cell? ⟨gb271, 1, none⟩ = some (.int .i64 ((rd_T53 l0 a1).f1)) := (blk_cell BK271.out 1).trans rfl
                                      have hfz67_0 := blk_frozen BK271.out 0
                                      have hfz67_1 := blk_frozen BK271.out 1
                                      go_wp2
                                      go_meet
                                      case rel => exact ⟨_, (true), (by first | rfl | (simp; done) | (simp [*]; done)), H', ⟨by have := HJ18.out; first | omega | exact Nat.le_refl _⟩, ⟨by (with_reducible repeat (first | apply Kd.R_alloc | apply Kd.R_drewN | apply Kd.R_drew)); exact HO_9.out⟩, ⟨by (with_reducible repeat (first | refine blk_drewN ?_ _ | refine blk_drew ?_ | refine blk_alloc ?_ _)); exact BK271.out⟩, ⟨by repeat (first | (with_reducible first | exact HB.out | apply below_alloc | apply pw_below_drewN | apply below_drew1 | refine below_set ?_ GE271.out) | exact HB.out)⟩⟩
                                    · rw [if_neg c66] at H
                                      have c66b0 : (t277 == t280) = false := beq_eq_false_iff_ne.mpr c66
                                      have c66b1 : (t277 != t280) = true := bne_iff_ne.mpr c66
                                      by_cases c68 : ((rd_T53 l0 a1).f0) = 8
                                      · rw [if_pos c68] at H
                                        have c68b0 : (((rd_T53 l0 a1).f0) == 8) = true := beq_iff_eq.mpr c68
                                        have c68b1 : (((rd_T53 l0 a1).f0) != 8) = false := bne_eq_false_iff_eq.mpr c68
                                        clear c68
                                        have H' := Aside0.mk H
                                        clear H
                                        have hcz69_0 : wc.cell? ⟨gb271, 0, none⟩ = some (.int .i64 ((rd_T53 l0 a1).f0)) := (blk_cell BK271.out 0).trans rfl
                                        have hcz69_1 : wc.cell? ⟨gb271, 1, none⟩ = some (.int .i64 ((rd_T53 l0 a1).f1)) := (blk_cell BK271.out 1).trans rfl
                                        have hfz69_0 := blk_frozen BK271.out 0
                                        have hfz69_1 := blk_frozen BK271.out 1
                                        go_wp2
                                        go_meet
                                        case rel => exact ⟨_, (decide (t277 > t280)), (by first | rfl | (simp; done) | (simp [*]; done)), H', ⟨by have := HJ18.out; first | omega | exact Nat.le_refl _⟩, ⟨by (with_reducible repeat (first | apply Kd.R_alloc | apply Kd.R_drewN | apply Kd.R_drew)); exact HO_9.out⟩, ⟨by (with_reducible repeat (first | refine blk_drewN ?_ _ | refine blk_drew ?_ | refine blk_alloc ?_ _)); exact BK271.out⟩, ⟨by repeat (first | (with_reducible first | exact HB.out | apply below_alloc | apply pw_below_drewN | apply below_drew1 | refine below_set ?_ GE271.out) | exact HB.out)⟩⟩
                                      · rw [if_neg c68] at H
                                        have c68b0 : (((rd_T53 l0 a1).f0) == 8) = false := beq_eq_false_iff_ne.mpr c68
                                        have c68b1 : (((rd_T53 l0 a1).f0) != 8) = true := bne_iff_ne.mpr c68
                                        have H' := Aside0.mk H
                                        clear H
                                        have hcz70_0 : wc.cell? ⟨gb271, 0, none⟩ = some (.int .i64 ((rd_T53 l0 a1).f0)) := (blk_cell BK271.out 0).trans rfl
                                        have hcz70_1 : wc.cell? ⟨gb271, 1, none⟩ = some (.int .i64 ((rd_T53 l0 a1).f1)) := (blk_cell BK271.out 1).trans rfl
                                        have hfz70_0 := blk_frozen BK271.out 0
                                        have hfz70_1 := blk_frozen BK271.out 1
                                        go_wp2
                                        go_meet
                                        case rel => exact ⟨_, (false), (by first | rfl | (simp; done) | (simp [*]; done)), H', ⟨by have := HJ18.out; first | omega | exact Nat.le_refl _⟩, ⟨by (with_reducible repeat (first | apply Kd.R_alloc | apply Kd.R_drewN | apply Kd.R_drew)); exact HO_9.out⟩, ⟨by (with_reducible repeat (first | refine blk_drewN ?_ _ | refine blk_drew ?_ | refine blk_alloc ?_ _)); exact BK271.out⟩, ⟨by repeat (first | (with_reducible first | exact HB.out | apply below_alloc | apply pw_below_drewN | apply below_drew1 | refine below_set ?_ GE271.out) | exact HB.out)⟩⟩
                                  · rw [if_neg c65] at H
                                    have c65b0 : (((rd_T53 l0 a1).f0) == 7) = false := beq_eq_false_iff_ne.mpr c65
                                    have c65b1 : (((rd_T53 l0 a1).f0) != 7) = true := bne_iff_ne.mpr c65
                                    by_cases c71 : ((rd_T53 l0 a1).f0) = 8
                                    · rw [if_pos c71] at H
                                      have c71b0 : (((rd_T53 l0 a1).f0) == 8) = true := beq_iff_eq.mpr c71
                                      have c71b1 : (((rd_T53 l0 a1).f0) != 8) = false := bne_eq_false_iff_eq.mpr c71
                                      clear c71
                                      have H' := Aside0.mk H
                                      clear H
                                      have hcz72_0 : wc.cell? ⟨gb271, 0, none⟩ = some (.int .i64 ((rd_T53 l0 a1).f0)) := (blk_cell BK271.out 0).trans rfl
                                      have hcz72_1 : wc.cell? ⟨gb271, 1, none⟩ = some (.int .i64 ((rd_T53 l0 a1).f1)) := (blk_cell BK271.out 1).trans rfl
                                      have hfz72_0 := blk_frozen BK271.out 0
                                      have hfz72_1 := blk_frozen BK271.out 1
                                      go_wp2
                                      go_meet
                                      case rel => exact ⟨_, (decide (t277 > t280)), (by first | rfl | (simp; done) | (simp [*]; done)), H', ⟨by have := HJ18.out; first | omega | exact Nat.le_refl _⟩, ⟨by (with_reducible repeat (first | apply Kd.R_alloc | apply Kd.R_drewN | apply Kd.R_drew)); exact HO_9.out⟩, ⟨by (with_reducible repeat (first | refine blk_drewN ?_ _ | refine blk_drew ?_ | refine blk_alloc ?_ _)); exact BK271.out⟩, ⟨by repeat (first | (with_reducible first | exact HB.out | apply below_alloc | apply pw_below_drewN | apply below_drew1 | refine below_set ?_ GE271.out) | exact HB.out)⟩⟩
                                    · rw [if_neg c71] at H
                                      have c71b0 : (((rd_T53 l0 a1).f0) == 8) = false := beq_eq_false_iff_ne.mpr c71
                                      have c71b1 : (((rd_T53 l0 a1).f0) != 8) = true := bne_iff_ne.mpr c71
                                      have H' := Aside0.mk H
                                      clear H
                                      have hcz73_0 : wc.cell? ⟨gb271, 0, none⟩ = some (.int .i64 ((rd_T53 l0 a1).f0)) := (blk_cell BK271.out 0).trans rfl
                                      have hcz73_1 : wc.cell? ⟨gb271, 1, none⟩ = some (.int .i64 ((rd_T53 l0 a1).f1)) := (blk_cell BK271.out 1).trans rfl
                                      have hfz73_0 := blk_frozen BK271.out 0
                                      have hfz73_1 := blk_frozen BK271.out 1
                                      go_wp2
                                      go_meet
                                      case rel => exact ⟨_, (false), (by first | rfl | (simp; done) | (simp [*]; done)), H', ⟨by have := HJ18.out; first | omega | exact Nat.le_refl _⟩, ⟨by (with_reducible repeat (first | apply Kd.R_alloc | apply Kd.R_drewN | apply Kd.R_drew)); exact HO_9.out⟩, ⟨by (with_reducible repeat (first | refine blk_drewN ?_ _ | refine blk_drew ?_ | refine blk_alloc ?_ _)); exact BK271.out⟩, ⟨by repeat (first | (with_reducible first | exact HB.out | apply below_alloc | apply pw_below_drewN | apply below_drew1 | refine below_set ?_ GE271.out) | exact HB.out)⟩⟩
                              · rw [if_neg c62] at H
                                have c62b0 : (((rd_T53 l0 a1).f0) == 6) = false := beq_eq_false_iff_ne.mpr c62
                                have c62b1 : (((rd_T53 l0 a1).f0) != 6) = true := bne_iff_ne.mpr c62
                                (first | rw [c62b0] | (simp only [i64_w, i32_w]; rw [c62b0]) | skip)
                                by_cases c74 : ((rd_T53 l0 a1).f0) = 7
                                · rw [if_pos c74] at H
                                  have c74b0 : (((rd_T53 l0 a1).f0) == 7) = true := beq_iff_eq.mpr c74
                                  have c74b1 : (((rd_T53 l0 a1).f0) != 7) = false := bne_eq_false_iff_eq.mpr c74
                                  clear c74
                                  by_cases c75 : t277 = t280
                                  · rw [if_pos c75] at H
                                    have c75b0 : (t277 == t280) = true := beq_iff_eq.mpr c75
                                    have c75b1 : (t277 != t280) = false := bne_eq_false_iff_eq.mpr c75
                                    clear c75
                                    have H' := Aside0.mk H
                                    clear H
                                    have hcz76_0 : wc.cell? ⟨gb271, 0, none⟩ = some (.int .i64 ((rd_T53 l0 a1).f0)) := (blk_cell BK271.out 0).trans rfl
                                    have hcz76_1 : wc.cell? ⟨gb271, 1, none⟩ = some (.int .i64 ((rd_T53 l0 a1).f1)) := (blk_cell BK271.out 1).trans rfl
                                    have hfz76_0 := blk_frozen BK271.out 0
                                    have hfz76_1 := blk_frozen BK271.out 1
                                    go_wp2
                                    go_meet
                                    case rel => exact ⟨_, (true), (by first | rfl | (simp; done) | (simp [*]; done)), H', ⟨by have := HJ18.out; first | omega | exact Nat.le_refl _⟩, ⟨by (with_reducible repeat (first | apply Kd.R_alloc | apply Kd.R_drewN | apply Kd.R_drew)); exact HO_9.out⟩, ⟨by (with_reducible repeat (first | refine blk_drewN ?_ _ | refine blk_drew ?_ | refine blk_alloc ?_ _)); exact BK271.out⟩, ⟨by repeat (first | (with_reducible first | exact HB.out | apply below_alloc | apply pw_below_drewN | apply below_drew1 | refine below_set ?_ GE271.out) | exact HB.out)⟩⟩
                                  · rw [if_neg c75] at H
                                    have c75b0 : (t277 == t280) = false := beq_eq_false_iff_ne.mpr c75
                                    have c75b1 : (t277 != t280) = true := bne_iff_ne.mpr c75
                                    by_cases c77 : ((rd_T53 l0 a1).f0) = 8
                                    · rw [if_pos c77] at H
                                      have c77b0 : (((rd_T53 l0 a1).f0) == 8) = true := beq_iff_eq.mpr c77
                                      have c77b1 : (((rd_T53 l0 a1).f0) != 8) = false := bne_eq_false_iff_eq.mpr c77
                                      clear c77
                                      have H' := Aside0.mk H
                                      clear H
                                      have hcz78_0 : wc.cell? ⟨gb271, 0, none⟩ = some (.int .i64 ((rd_T53 l0 a1).f0)) := (blk_cell BK271.out 0).trans rfl
                                      have hcz78_1 : wc.cell? ⟨gb271, 1, none⟩ = some (.int .i64 ((rd_T53 l0 a1).f1)) := (blk_cell BK271.out 1).trans rfl
                                      have hfz78_0 := blk_frozen BK271.out 0
                                      have hfz78_1 := blk_frozen BK271.out 1
                                      go_wp2
                                      go_meet
                                      case rel => exact ⟨_, (decide (t277 > t280)), (by first | rfl | (simp; done) | (simp [*]; done)), H', ⟨by have := HJ18.out; first | omega | exact Nat.le_refl _⟩, ⟨by (with_reducible repeat (first | apply Kd.R_alloc | apply Kd.R_drewN | apply Kd.R_drew)); exact HO_9.out⟩, ⟨by (with_reducible repeat (first | refine blk_drewN ?_ _ | refine blk_drew ?_ | refine blk_alloc ?_ _)); exact BK271.out⟩, ⟨by repeat (first | (with_reducible first | exact HB.out | apply below_alloc | apply pw_below_drewN | apply below_drew1 | refine below_set ?_ GE271.out) | exact HB.out)⟩⟩
                                    · rw [if_neg c77] at H
                                      have c77b0 : (((rd_T53 l0 a1).f0) == 8) = false := beq_eq_false_iff_ne.mpr c77
                                      have c77b1 : (((rd_T53 l0 a1).f0) != 8) = true := bne_iff_ne.mpr c77
                                      have H' := Aside0.mk H
                                      clear H
                                      have hcz79_0 : wc.cell? ⟨gb271, 0, none⟩ = some (.int .i64 ((rd_T53 l0 a1).f0)) := (blk_cell BK271.out 0).trans rfl
                                      have hcz79_1 : wc.cell? ⟨gb271, 1, none⟩ = some (.int .i64 ((rd_T53 l0 a1).f1)) := (blk_cell BK271.out 1).trans rfl
                                      have hfz79_0 := blk_frozen BK271.out 0
                                      have hfz79_1 := blk_frozen BK271.out 1
                                      go_wp2
                                      go_meet
                                      case rel => exact ⟨_, (false), (by first | rfl | (simp; done) | (simp [*]; done)), H', ⟨by have := HJ18.out; first | omega | exact Nat.le_refl _⟩, ⟨by (with_reducible repeat (first | apply Kd.R_alloc | apply Kd.R_drewN | apply Kd.R_drew)); exact HO_9.out⟩, ⟨by (with_reducible repeat (first | refine blk_drewN ?_ _ | refine blk_drew ?_ | refine blk_alloc ?_ _)); exact BK271.out⟩, ⟨by repeat (first | (with_reducible first | exact HB.out | apply below_alloc | apply pw_below_drewN | apply below_drew1 | refine below_set ?_ GE271.out) | exact HB.out)⟩⟩
                                · rw [if_neg c74] at H
                                  have c74b0 : (((rd_T53 l0 a1).f0) == 7) = false := beq_eq_false_iff_ne.mpr c74
                                  have c74b1 : (((rd_T53 l0 a1).f0) != 7) = true := bne_iff_ne.mpr c74
                                  by_cases c80 : ((rd_T53 l0 a1).f0) = 8
                                  · rw [if_pos c80] at H
                                    have c80b0 : (((rd_T53 l0 a1).f0) == 8) = true := beq_iff_eq.mpr c80
                                    have c80b1 : (((rd_T53 l0 a1).f0) != 8) = false := bne_eq_false_iff_eq.mpr c80
                                    clear c80
                                    have H' := Aside0.mk H
                                    clear H
                                    have hcz81_0 : wc.cell? ⟨gb271, 0, none⟩ = some (.int .i64 ((rd_T53 l0 a1).f0)) := (blk_cell BK271.out 0).trans rfl
                                    have hcz81_1 : wc.cell? ⟨gb271, 1, none⟩ = some (.int .i64 ((rd_T53 l0 a1).f1)) := (blk_cell BK271.out 1).trans rfl
                                    have hfz81_0 := blk_frozen BK271.out 0
                                    have hfz81_1 := blk_frozen BK271.out 1
                                    go_wp2
                                    go_meet
                                    case rel => exact ⟨_, (decide (t277 > t280)), (by first | rfl | (simp; done) | (simp [*]; done)), H', ⟨by have := HJ18.out; first | omega | exact Nat.le_refl _⟩, ⟨by (with_reducible repeat (first | apply Kd.R_alloc | apply Kd.R_drewN | apply Kd.R_drew)); exact HO_9.out⟩, ⟨by (with_reducible repeat (first | refine blk_drewN ?_ _ | refine blk_drew ?_ | refine blk_alloc ?_ _)); exact BK271.out⟩, ⟨by repeat (first | (with_reducible first | exact HB.out | apply below_alloc | apply pw_below_drewN | apply below_drew1 | refine below_set ?_ GE271.out) | exact HB.out)⟩⟩
                                  · rw [if_neg c80] at H
                                    have c80b0 : (((rd_T53 l0 a1).f0) == 8) = false := beq_eq_false_iff_ne.mpr c80
                                    have c80b1 : (((rd_T53 l0 a1).f0) != 8) = true := bne_iff_ne.mpr c80
                                    have H' := Aside0.mk H
                                    clear H
                                    have hcz82_0 : wc.cell? ⟨gb271, 0, none⟩ = some (.int .i64 ((rd_T53 l0 a1).f0)) := (blk_cell BK271.out 0).trans rfl
                                    have hcz82_1 : wc.cell? ⟨gb271, 1, none⟩ = some (.int .i64 ((rd_T53 l0 a1).f1)) := (blk_cell BK271.out 1).trans rfl
                                    have hfz82_0 := blk_frozen BK271.out 0
                                    have hfz82_1 := blk_frozen BK271.out 1
                                    go_wp2
                                    go_meet
                                    case rel => exact ⟨_, (false), (by first | rfl | (simp; done) | (simp [*]; done)), H', ⟨by have := HJ18.out; first | omega | exact Nat.le_refl _⟩, ⟨by (with_reducible repeat (first | apply Kd.R_alloc | apply Kd.R_drewN | apply Kd.R_drew)); exact HO_9.out⟩, ⟨by (with_reducible repeat (first | refine blk_drewN ?_ _ | refine blk_drew ?_ | refine blk_alloc ?_ _)); exact BK271.out⟩, ⟨by repeat (first | (with_reducible first | exact HB.out | apply below_alloc | apply pw_below_drewN | apply below_drew1 | refine below_set ?_ GE271.out) | exact HB.out)⟩⟩
                            case rest =>
                              clear HC60
                              try clear c1
                              try clear c2
                              try clear p2
                              try clear q2
                              try clear hx2
                              try clear qi2
                              try clear c3
                              try clear c4
                              try clear c4b0
                              try clear c5
                              try clear c5b0
                              try clear c6
                              try clear c6b0
                              try clear c6b1
                              try clear p6
                              try clear c7
                              try clear c8
                              try clear c9
                              try clear c9b0
                              try clear c9b1
                              try clear c10
                              try clear c10b0
                              try clear c11
                              try clear c11b0
                              try clear c15
                              try clear c15b0
                              try clear c15b1
                              try clear c17
                              try clear c17b0
                              try clear c17b1
                              try clear c26
                              try clear c27
                              try clear p27
                              try clear q27
                              try clear hx27
                              try clear qi27
                              try clear c28
                              try clear c28b0
                              try clear c28b1
                              try clear c30
                              try clear c30b0
                              try clear c35
                              try clear c35b0
                              try clear c35b1
                              try clear c37
                              try clear c37b0
                              try clear c42
                              try clear c42b0
                              try clear c42b1
                              try clear c44
                              try clear c44b0
                              try clear c49
                              try clear c49b0
                              try clear c49b1
                              try clear c50
                              try clear c50b0
                              try clear c50b1
                              try clear c51
                              try clear c54
                              try clear c54b0
                              try clear c57
                              try clear c57b0
                              try clear c62
                              try clear c62b0
                              try clear c62b1
                              try clear c63
                              try clear c63b0
                              try clear p64
                              try clear c65
                              try clear c65b0
                              try clear c65b1
                              try clear c66
                              try clear c66b0
                              try clear c66b1
                              try clear c67
                              try clear c68
                              try clear c68b0
                              try clear c68b1
                              try clear c71
                              try clear c71b0
                              try clear c71b1
                              try clear c74
                              try clear c74b0
                              try clear c74b1
                              try clear c75
                              try clear c75b0
                              try clear c75b1
                              try clear c77
                              try clear c77b0
                              try clear c77b1
                              try clear c80
                              try clear c80b0
                              try clear c80b1
                              try clear hcz13_0
                              try clear hcz13_1
                              try clear hcz21_0
                              try clear hcz21_1
                              try clear hcz31_0
                              try clear hcz31_1
                              try clear hcz33_0
                              try clear hcz33_1
                              try clear hcz38_0
                              try clear hcz38_1
                              try clear hcz40_0
                              try clear hcz40_1
                              try clear hcz45_0
                              try clear hcz45_1
                              try clear hcz47_0
                              try clear hcz47_1
                              try clear hcz51_0
                              try clear hcz51_1
                              try clear hcz53_0
                              try clear hcz53_1
                              try clear hcz61_0
                              try clear hcz61_1
                              try clear hcz64_0
                              try clear hcz64_1
                              try clear hcz67_0
                              try clear hcz67_1
                              try clear hcz69_0
                              try clear hcz69_1
                              try clear hcz70_0
                              try clear hcz70_1
                              try clear hcz72_0
                              try clear hcz72_1
                              try clear hcz73_0
                              try clear hcz73_1
                              try clear hcz76_0
                              try clear hcz76_1
                              try clear hcz78_0
                              try clear hcz78_1
                              try clear hcz79_0
                              try clear hcz79_1
                              try clear hcz81_0
                              try clear hcz81_1
                              try clear hcz82_0
                              try clear hcz82_1
                              try clear hcz8_0
                              try clear hcz8_1
                              try clear hfz13_0
                              try clear hfz13_1
                              try clear hfz21_0
                              try clear hfz21_1
                              try clear hfz31_0
                              try clear hfz31_1
                              try clear hfz33_0
                              try clear hfz33_1
                              try clear hfz38_0
                              try clear hfz38_1
                              try clear hfz40_0
                              try clear hfz40_1
                              try clear hfz45_0
                              try clear hfz45_1
                              try clear hfz47_0
                              try clear hfz47_1
                              try clear hfz51_0
                              try clear hfz51_1
                              try clear hfz53_0
                              try clear hfz53_1
                              try clear hfz61_0
                              try clear hfz61_1
                              try clear hfz64_0
                              try clear hfz64_1
                              try clear hfz67_0
                              try clear hfz67_1
                              try clear hfz69_0
                              try clear hfz69_1
                              try clear hfz70_0
                              try clear hfz70_1
                              try clear hfz72_0
                              try clear hfz72_1
                              try clear hfz73_0
                              try clear hfz73_1
                              try clear hfz76_0
                              try clear hfz76_1
                              try clear hfz78_0
                              try clear hfz78_1
                              try clear hfz79_0
                              try clear hfz79_1
                              try clear hfz81_0
                              try clear hfz81_1
                              try clear hfz82_0
                              try clear hfz82_1
                              try clear hfz8_0
                              try clear hfz8_1
                              try clear hx270_0
                              try clear hx270_1
                              try clear hx272_0
                              try clear hx276_0
                              try clear hx279_0
                              try clear p2
                              try clear p27
                              try clear p270
                              try clear p272
                              try clear p276
                              try clear p279
                              try clear p6
                              try clear q2
                              try clear q27
                              try clear q270
                              try clear q272
                              try clear q276
                              try clear q279
                              obtain ⟨kq, x15_59, rfl, HA, HJ59, HO_9, BK271, HB⟩ := hcut
                              cases kq with
                              | zero => exact absurd HA.out (by simp [impl_evalPart.j2])
                              | succ kj59 =>
                                have H := HA.out
                                clear HA
                                simp only [impl_evalPart.j2] at H
                                by_cases c83 : x15_59 = true
                                · subst c83
                                  have H1 : (if 2 < (t273.length : Int) then ((impl_evalPart.f kj59 l0 (rd t273 2) l2).bind fun bt288 => (some (bt288.1, bt288.2))) else (none)) = some (r1, r2) := by rw [if_pos rfl] at H; exact H
                                  clear H
                                  have H := H1
                                  clear H1
                                  by_cases c84 : 2 < (t273.length : Int)
                                  · rw [if_pos c84] at H
                                    have c84b0 : decide (2 < (t273.length : Int)) = true := decide_eq_true c84
                                    have c84b1 : decide (2 < t273.length) = true := decide_eq_true (by omega)
                                    clear c84
                                    replace H := Option.bind_eq_some_iff.mp H
                                    obtain ⟨⟨t288, t289⟩, A850, H⟩ := H
                                    replace H : (some (t288, t289)) = some (r1, r2) := H
                                    have A85 := Aside0.mk A850
                                    clear A850
                                    simp only [Option.some.injEq, Prod.mk.injEq] at H
                                    obtain ⟨rfl, rfl⟩ := H
                                    have p287 : 0 ≤ (2 : Int) := (by omega)
                                    have q287 : 2 < (t273.length : Int) := of_decide_eq_true (by first | (with_reducible assumption) | assumption)
                                    obtain ⟨ad287, e287, hx287_0⟩ := Kd.at_int (Kd.R_reads' HO_9.out).2.2 2 p287 q287
                                    obtain rfl : ad276 = ad287 := (by injection e287)
                                    (try simp only [show (2 : Int).toNat = 2 from rfl, Nat.reduceMul, Nat.reduceEqDiff, Go.Addr.add, ↓reduceIte] at hx287_0)
                                    have qi287 : (2 < t273.length) = True := eq_true (by omega)
                                    (try rw [show ((2 : Int)).toNat = 2 from rfl] at hx287_0)
                                    replace p287 := eq_true p287
                                    replace q287 := eq_true q287
                                    go_wp2_with (first | ((with_reducible refine gate_callee (f := 51) rfl ?_); refine goesL_ (some 96) rfl rfl Try.func51 (by kernel_rfl) rfl #[.slice (some ad270) l0.length c0, .int .i64 (rd t273 2), .slice A2 l2.length c2] rfl (by (try simp only [List.map_toArray, List.map_cons, List.map_nil]); first | done | rfl | (simp only [List.length_drop, List.length_take]; rfl)) ?_; (with_reducible refine (ih kj59 (by have := HJ18.out; have := HJ59.out; omega) _ _ l0 (rd t273 2) _ _ l2 t288 t289 _ ?side1 ?side2 ?side3 ?side4 A85.out).mono ?_); (case side1 => repeat (first | exact (Kd.C_below HR0.out HB.out) | (with_reducible refine Kd.C_alloc ?_ _) | (with_reducible refine Kd.C_drewN ?_ _) | (with_reducible refine Kd.C_drew ?_))); (case side2 => exact HC0.out); (case side3 => repeat (first | exact (Kd.C_below HR2.out HB.out) | (with_reducible refine Kd.C_alloc ?_ _) | (with_reducible refine Kd.C_drewN ?_ _) | (with_reducible refine Kd.C_drew ?_))); (case side4 => exact HC2.out); rintro e w86 ⟨rfl, hb⟩; refine ⟨_, rfl, ?_⟩; have n0_ := Aside0.mk (Kd.R_below (by (with_reducible repeat (first | apply Kd.R_alloc | apply Kd.R_drewN | apply Kd.R_drew)); exact HO_9.out) hb); have n1_ := Aside0.mk (blk_below (g := gb271) (o := .cells #[.int .i64 ((rd_T53 l0 a1).f0), .int .i64 ((rd_T53 l0 a1).f1)] 53 (0, 0)) (by (with_reducible repeat (first | refine blk_drewN ?_ _ | refine blk_drew ?_ | refine blk_alloc ?_ _)); exact BK271.out) hb); have n2_ := Aside0.mk (below_step (by repeat (first | (with_reducible first | exact HB.out | apply below_alloc | apply pw_below_drewN | apply below_drew1 | refine below_set ?_ GE271.out) | exact HB.out)) hb); clear HO_9; clear BK271; clear HB; have HO_9 := n0_; have BK271 := n1_; have HB := n2_; clear n0_ n1_ n2_; (try clear hb); (try clear hb2); (try clear hk); (try clear hi)))
                                    go_ret2
                                    exact ⟨by first | rfl | (simp [errW_none, errW_some] <;> rfl) | (simp [*, errW_none, errW_some] <;> rfl), by repeat (first | (with_reducible first | exact HB.out | apply below_alloc | apply pw_below_drewN | apply below_drew1 | refine below_set ?_ GE271.out) | exact HB.out)⟩
                                  · rw [if_neg c84] at H
                                    exact absurd H (by simp)
                                · replace c83 := Bool.eq_false_iff.mpr c83
                                  subst c83
                                  have H1 : (if 3 < (t273.length : Int) then ((impl_evalPart.f kj59 l0 (rd t273 3) l2).bind fun bt291 => (some (bt291.1, bt291.2))) else (none)) = some (r1, r2) := by rw [if_neg (show ¬ (false = true) by decide)] at H; exact H
                                  clear H
                                  have H := H1
                                  clear H1
                                  by_cases c87 : 3 < (t273.length : Int)
                                  · rw [if_pos c87] at H
                                    have c87b0 : decide (3 < (t273.length : Int)) = true := decide_eq_true c87
                                    have c87b1 : decide (3 < t273.length) = true := decide_eq_true (by omega)
                                    clear c87
                                    replace H := Option.bind_eq_some_iff.mp H
                                    obtain ⟨⟨t291, t292⟩, A880, H⟩ := H
                                    replace H : (some (t291, t292)) = some (r1, r2) := H
                                    have A88 := Aside0.mk A880
                                    clear A880
                                    simp only [Option.some.injEq, Prod.mk.injEq] at H
                                    obtain ⟨rfl, rfl⟩ := H
                                    have p290 : 0 ≤ (3 : Int) := (by omega)
                                    have q290 : 3 < (t273.length : Int) := of_decide_eq_true (by first | (with_reducible assumption) | assumption)
                                    obtain ⟨ad290, e290, hx290_0⟩ := Kd.at_int (Kd.R_reads' HO_9.out).2.2 3 p290 q290
                                    obtain rfl : ad276 = ad290 := (by injection e290)
                                    (try simp only [show (3 : Int).toNat = 3 from rfl, Nat.reduceMul, Nat.reduceEqDiff, Go.Addr.add, ↓reduceIte] at hx290_0)
                                    have qi290 : (3 < t273.length) = True := eq_true (by omega)
                                    (try rw [show ((3 : Int)).toNat = 3 from rfl] at hx290_0)
                                    replace p290 := eq_true p290
                                    replace q290 := eq_true q290
                                    go_wp2_with (first | ((with_reducible refine gate_callee (f := 51) rfl ?_); refine goesL_ (some 104) rfl rfl Try.func51 (by kernel_rfl) rfl #[.slice (some ad270) l0.length c0, .int .i64 (rd t273 3), .slice A2 l2.length c2] rfl (by (try simp only [List.map_toArray, List.map_cons, List.map_nil]); first | done | rfl | (simp only [List.length_drop, List.length_take]; rfl)) ?_; (with_reducible refine (ih kj59 (by have := HJ18.out; have := HJ59.out; omega) _ _ l0 (rd t273 3) _ _ l2 t291 t292 _ ?side1 ?side2 ?side3 ?side4 A88.out).mono ?_); (case side1 => repeat (first | exact (Kd.C_below HR0.out HB.out) | (with_reducible refine Kd.C_alloc ?_ _) | (with_reducible refine Kd.C_drewN ?_ _) | (with_reducible refine Kd.C_drew ?_))); (case side2 => exact HC0.out); (case side3 => repeat (first | exact (Kd.C_below HR2.out HB.out) | (with_reducible refine Kd.C_alloc ?_ _) | (with_reducible refine Kd.C_drewN ?_ _) | (with_reducible refine Kd.C_drew ?_))); (case side4 => exact HC2.out); rintro e w89 ⟨rfl, hb⟩; refine ⟨_, rfl, ?_⟩; have n0_ := Aside0.mk (Kd.R_below (by (with_reducible repeat (first | apply Kd.R_alloc | apply Kd.R_drewN | apply Kd.R_drew)); exact HO_9.out) hb); have n1_ := Aside0.mk (blk_below (g := gb271) (o := .cells #[.int .i64 ((rd_T53 l0 a1).f0), .int .i64 ((rd_T53 l0 a1).f1)] 53 (0, 0)) (by (with_reducible repeat (first | refine blk_drewN ?_ _ | refine blk_drew ?_ | refine blk_alloc ?_ _)); exact BK271.out) hb); have n2_ := Aside0.mk (below_step (by repeat (first | (with_reducible first | exact HB.out | apply below_alloc | apply pw_below_drewN | apply below_drew1 | refine below_set ?_ GE271.out) | exact HB.out)) hb); clear HO_9; clear BK271; clear HB; have HO_9 := n0_; have BK271 := n1_; have HB := n2_; clear n0_ n1_ n2_; (try clear hb); (try clear hb2); (try clear hk); (try clear hi)))
                                    go_ret2
                                    exact ⟨by first | rfl | (simp [errW_none, errW_some] <;> rfl) | (simp [*, errW_none, errW_some] <;> rfl), by repeat (first | (with_reducible first | exact HB.out | apply below_alloc | apply pw_below_drewN | apply below_drew1 | refine below_set ?_ GE271.out) | exact HB.out)⟩
                                  · rw [if_neg c87] at H
                                    exact absurd H (by simp)
            · rw [if_neg c17] at H
              exact absurd H (by simp)
          · rw [if_neg c15] at H
            exact absurd H (by simp)
    · rw [if_neg c5] at H
      exact absurd H (by simp)
  · rw [if_neg c4] at H
    exact absurd H (by simp)

end Go.Proofs.Ythakfnnbamiklaa.PFnExactFoldRule
