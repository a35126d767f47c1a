-- Laid for this claim by wip/tools/print2.sh, a changed copy of the kit's print (wip/tools/patch_print.py): not by print.sh.
import Derived.Test.YtmhalgeoaccchaaPFnFoldedx0
import Derived.Test.YtmhalgeoaccchaaPFnFoldedx7
namespace Go.Proofs.Ytmhalgeoaccchaa.PFnFolded
open Go.RowKit Go.Proofs.YtmhalgeoaccchaaW.PrintWords Go.Proofs.YtmhalgeoaccchaaW.PrintLast Go.Proofs.YtmhalgeoaccchaaW.PrintMore
attribute [local go_sem] max2_int min2_int max_two min_two max_three min_three max_four min_four   -- for this text's walks alone
set_option linter.unusedVariables false
set_option linter.unusedSimpArgs false

/-! ### impl_ruleDepth: function 28 -/
mutual
def impl_ruleDepth.j0 : Nat → List (S52) → Bool → Option (Int × Bool)
 | 0, _, _ => none
 | k + 1, x0, x18 => if x18 = true then (some (0, false)) else (impl_ruleDepth.l0 k (([] : List Int)) x0 (x0.length : Int) 0)
def impl_ruleDepth.l0 : Nat → List Int → List (S52) → Int → Int → Option (Int × Bool)
 | 0, _, _, _, _ => none
 | k + 1, x4, x20, x21, x22 => if x22 < x21 then (if 0 ≤ x22 then (if x22 < (x20.length : Int) then ((impl_needsOf.f k ((rd_T52 x20 x22).f0)).bind fun t377 => (if t377 < 0 then (impl_ruleDepth.j2 k x4 t377 x20 x21 x22 true) else (if t377 > (x4.length : Int) then (impl_ruleDepth.j2 k x4 t377 x20 x21 x22 true) else (if ((rd_T52 x20 x22).f1) < 0 then (impl_ruleDepth.j2 k x4 t377 x20 x21 x22 true) else (if t377 > 0 then (if ((rd_T52 x20 x22).f1) = 0 then (if ((rd_T52 x20 x22).f0) = 0 then (if ((rd_T52 x20 x22).f1) > 1000000 then (impl_ruleDepth.j2 k x4 t377 x20 x21 x22 true) else (if ((rd_T52 x20 x22).f0) = 1 then (impl_ruleDepth.j2 k x4 t377 x20 x21 x22 (decide (((rd_T52 x20 x22).f1) > 4))) else (impl_ruleDepth.j2 k x4 t377 x20 x21 x22 false))) else (if ((rd_T52 x20 x22).f0) = 1 then (impl_ruleDepth.j2 k x4 t377 x20 x21 x22 (decide (((rd_T52 x20 x22).f1) > 4))) else (impl_ruleDepth.j2 k x4 t377 x20 x21 x22 false))) else (impl_ruleDepth.j2 k x4 t377 x20 x21 x22 true)) else (if ((rd_T52 x20 x22).f0) = 0 then (if ((rd_T52 x20 x22).f1) > 1000000 then (impl_ruleDepth.j2 k x4 t377 x20 x21 x22 true) else (if ((rd_T52 x20 x22).f0) = 1 then (impl_ruleDepth.j2 k x4 t377 x20 x21 x22 (decide (((rd_T52 x20 x22).f1) > 4))) else (impl_ruleDepth.j2 k x4 t377 x20 x21 x22 false))) else (if ((rd_T52 x20 x22).f0) = 1 then (impl_ruleDepth.j2 k x4 t377 x20 x21 x22 (decide (((rd_T52 x20 x22).f1) > 4))) else (impl_ruleDepth.j2 k x4 t377 x20 x21 x22 false)))))))) else (none)) else (none)) else (if 0 < (x4.length : Int) then (some (rd x4 0, ((x4.length : Int) == 1))) else (none))
def impl_ruleDepth.j2 : Nat → List Int → Int → List (S52) → Int → Int → Bool → Option (Int × Bool)
 | 0, _, _, _, _, _, _ => none
 | k + 1, x4, x7, x20, x21, x22, x70 => if x70 = true then (some (0, false)) else (if 0 ≤ (wrap64 ((x4.length : Int) - x7)) then (if (wrap64 ((x4.length : Int) - x7)) ≤ (x4.length : Int) then ((some (x4.drop ((wrap64 ((x4.length : Int) - x7)) : Int).toNat : List Int)).bind fun y378 => (impl_ruleDepth.l1 k x4 x7 0 x20 x21 x22 y378 (y378.length : Int) 0)) else (none)) else (none))
def impl_ruleDepth.l1 : Nat → List Int → Int → Int → List (S52) → Int → Int → List Int → Int → Int → Option (Int × Bool)
 | 0, _, _, _, _, _, _, _, _, _ => none
 | k + 1, x4, x7, x8, x20, x21, x22, x76, x77, x78 => if x78 < x77 then (if 0 ≤ x78 then (if x78 < (x76.length : Int) then (impl_ruleDepth.l1 k x4 x7 (mx x8 (rd x76 x78)) x20 x21 x22 x76 x77 (wrap64 (x78 + 1))) else (none)) else (none)) else (if 0 ≤ (wrap64 ((x4.length : Int) - x7)) then (if (wrap64 ((x4.length : Int) - x7)) ≤ (x4.length : Int) then ((some (x4.take ((wrap64 ((x4.length : Int) - x7)) : Int).toNat : List Int)).bind fun y383 => (if y383.length < 17592186044416 then (impl_ruleDepth.l0 k (y383 ++ [wrap64 (x8 + 1)]) x20 x21 (wrap64 (x22 + 1))) else (none))) else (none)) else (none))
end
def impl_ruleDepth.f (k : Nat) (l0 : List (S52)) : Option (Int × Bool) := if (l0.length : Int) < 1 then (impl_ruleDepth.j0 k l0 true) else (impl_ruleDepth.j0 k l0 (decide ((l0.length : Int) > 39)))
set_option maxHeartbeats 8000000 in
set_option maxRecDepth 100000 in
theorem impl_ruleDepth.calls (k : Nat) (A0 : Option Addr) (c0 : Nat) (l0 : List (S52)) (r1 : Int) (r2 : Bool) (w : World) (hr0 : Kd.C k52 w A0 l0.length l0) (hc0 : l0.length ≤ c0) (h : impl_ruleDepth.f k l0 = some (r1, r2)) :
  Calls Try.prog 28 #[.slice A0 l0.length c0] w fun e w' => e = .returned (.tuple #[.int .i64 r1, .bool r2]) ∧ Below w.heap.size w w' := by
 have hu52 := Try.underlying52
 have HR0 := Aside0.mk hr0
 have HC0 := Aside0.mk hc0
 clear hr0 hc0
 have HB := Aside0.mk (Below.refl w.heap.size w)
 have H : (if (l0.length : Int) < 1 then (impl_ruleDepth.j0 k l0 true) else (impl_ruleDepth.j0 k l0 (decide ((l0.length : Int) > 39)))) = some (r1, r2) := h
 clear h
 have HC2 := Aside0.mk H
 clear H
 go_enter Try.func28, Try.ntmps28
 go_upto_region 1 with (fail)
 go_cut [18] (fun v18 wc => ∃ (kq : Nat) (x18_1 : Bool), v18 = .bool x18_1 ∧ Aside0 (impl_ruleDepth.j0 kq l0 x18_1 = some (r1, r2)) ∧ Aside0 (kq ≤ k) ∧ Aside0 (Below w.heap.size w wc))
 case first =>
  have H := HC2.out
  clear HC2
  by_cases c3 : (l0.length : Int) < 1
  ·rw [if_pos c3] at H
   have c3b0 : decide ((l0.length : Int) < 1) = true := decide_eq_true c3
   have c3b1 : decide (l0.length < 1) = true := decide_eq_true (by omega)
   clear c3
   (first | rw [c3b0] | (simp only [i64_w, i32_w]; rw [c3b0]) | skip)
   have H' := Aside0.mk H
   clear H
   go_wp2
   go_meet
   case rel => exact ⟨_, (true), (by first | rfl | (simp; done) | (simp [*]; done)), H', ⟨by first | omega | exact Nat.le_refl _⟩, ⟨hb_ HB⟩⟩
  ·rw [if_neg c3] at H
   have c3b0 : decide ((l0.length : Int) < 1) = false := decide_eq_false c3
   have c3b1 : decide (l0.length < 1) = false := decide_eq_false (by omega)
   clear c3
   (first | rw [c3b0] | (simp only [i64_w, i32_w]; rw [c3b0]) | skip)
   have H' := Aside0.mk H
   clear H
   go_wp2
   go_meet
   case rel => exact ⟨_, (decide ((l0.length : Int) > 39)), (by first | rfl | (simp; done) | (simp [*]; done)), H', ⟨by first | omega | exact Nat.le_refl _⟩, ⟨hb_ HB⟩⟩
 case rest =>
  clear HC2
  (try clear c2); (try clear p2); (try clear c3); (try clear c3b0); (try clear c3b1)
  obtain ⟨kq, x18_1, rfl, HA, HJ1, HB⟩ := hcut
  cases kq with
  | zero => exact absurd HA.out (by simp [impl_ruleDepth.j0])
  | succ kj1 =>
   have H := HA.out
   clear HA
   simp only [impl_ruleDepth.j0] at H
   by_cases c4 : x18_1 = true
   ·subst c4
    have H1 : (some (0, false)) = some (r1, r2) := by rw [if_pos rfl] at H; exact H
    clear H
    have H := H1
    clear H1
    simp only [Option.some.injEq, Prod.mk.injEq] at H
    obtain ⟨rfl, rfl⟩ := H
    go_wp2
    go_ret2
    exact ⟨by first | rfl | (simp [errW_none, errW_some] <;> rfl) | (simp [*, errW_none, errW_some] <;> rfl), hb_ HB⟩
   ·replace c4 := Bool.eq_false_iff.mpr c4
    subst c4
    have H1 : (impl_ruleDepth.l0 kj1 (([] : List Int)) l0 (l0.length : Int) 0) = some (r1, r2) := by rw [if_neg (show ¬ (false = true) by decide)] at H; exact H
    clear H
    have H := H1
    clear H1
    obtain ⟨y371, hy371⟩ : ∃ y_ : List Int, y_ = (([] : List Int)) := ⟨_, rfl⟩
    replace H : (impl_ruleDepth.l0 kj1 y371 l0 (l0.length : Int) 0) = some (r1, r2) := by first | (rw [hy371]; with_reducible exact H) | (have H2_ := (Option.bind_some _ _).symm.trans H; rw [hy371]; with_reducible exact H2_) | (have H2_ := (Option.bind_some _ _).symm.trans H; with_reducible exact H2_) | with_reducible exact H | (rw [hy371]; exact H) | exact H
    have Ny371 := Aside0.mk hy371
    clear hy371
    have H' := Aside0.mk H
    clear H
    go_wp2_with (first | ((with_reducible refine gate_dst (N := 19) rfl ?_); (try (refine gate_guard (by rfl) ?_; dsimp only)); refine Kd.R_lit (Kd.int .i64) _ 3 ?hg (N := 19) ?hd (xs := ([] : List Int)) (inner := []) (ok := fun _ => True) (okp := fun _ => True) ?hr ?hp (fun _ hk => hk) trivial (Below.refl _ _) (Nat.le_refl _) (by simp) ?_; (case hd => rfl); (case hg => rfl); (case hr => first | (go_simp; done) | (go_simp; rfl)); (case hp => exact (Reps.none _ _)); intro v372 w5 ho6 hb hg_ hnew_; clear hg_ hnew_; (first | rw [← Ny371.out] at ho6 | (simp only [Int.reduceToNat] at ho6; rw [← Ny371.out] at ho6)); have HO373 := Kd.R_lo ho6 HB; replace HB := hbs_ HB hb; clear hb ho6))
    go_loopg [4, 22] kj1 (fun kq v4 v22 w' => ∃ (x4_2 : List Int) (x22_2 : Int), v22 = .int .i64 x22_2 ∧ Aside0 (impl_ruleDepth.l0 kq x4_2 l0 (l0.length : Int) x22_2 = some (r1, r2)) ∧ Aside0 (kq ≤ kj1) ∧ Aside0 (Kd.R (Kd.int .i64) 3 w' w.heap.size (fun _ => True) v4 x4_2) ∧ Aside0 (Below w.heap.size w w'))
    case atStart => exact ⟨(y371), (0), (by first | rfl | (simp; done) | (simp [*]; done)), H', ⟨Nat.le_refl _⟩, ⟨Kd.R_p HO373⟩, ⟨hb_ HB⟩⟩
    case round =>
     clear H'
     (try clear c2); (try clear p2); (try clear c3); (try clear c3b0); (try clear c3b1); (try clear c4)
     obtain ⟨x4_2, x22_2, rfl, HA, HK2, HO_4, HB⟩ := hrel
     cases gk with
     | zero => exact absurd HA.out (by simp [impl_ruleDepth.l0])
     | succ k2 =>
      have H := HA.out
      clear HA
      simp only [impl_ruleDepth.l0] at H
      by_cases c7 : x22_2 < (l0.length : Int)
      ·rw [if_pos c7] at H
       have c7b0 : decide (x22_2 < (l0.length : Int)) = true := decide_eq_true c7
       clear c7
       by_cases c8 : 0 ≤ x22_2
       ·rw [if_pos c8] at H
        have c8b0 : decide (0 ≤ x22_2) = true := decide_eq_true c8
        clear c8
        by_cases c9 : x22_2 < (l0.length : Int)
        ·rw [if_pos c9] at H
         have c9b0 : decide (x22_2 < (l0.length : Int)) = true := decide_eq_true c9
         clear c9
         replace H := Option.bind_eq_some_iff.mp H
         obtain ⟨t377, A100, H⟩ := H
         replace H : (if t377 < 0 then (impl_ruleDepth.j2 k2 x4_2 t377 l0 (l0.length : Int) x22_2 true) else (if t377 > (x4_2.length : Int) then (impl_ruleDepth.j2 k2 x4_2 t377 l0 (l0.length : Int) x22_2 true) else (if ((rd_T52 l0 x22_2).f1) < 0 then (impl_ruleDepth.j2 k2 x4_2 t377 l0 (l0.length : Int) x22_2 true) else (if t377 > 0 then (if ((rd_T52 l0 x22_2).f1) = 0 then (if ((rd_T52 l0 x22_2).f0) = 0 then (if ((rd_T52 l0 x22_2).f1) > 1000000 then (impl_ruleDepth.j2 k2 x4_2 t377 l0 (l0.length : Int) x22_2 true) else (if ((rd_T52 l0 x22_2).f0) = 1 then (impl_ruleDepth.j2 k2 x4_2 t377 l0 (l0.length : Int) x22_2 (decide (((rd_T52 l0 x22_2).f1) > 4))) else (impl_ruleDepth.j2 k2 x4_2 t377 l0 (l0.length : Int) x22_2 false))) else (if ((rd_T52 l0 x22_2).f0) = 1 then (impl_ruleDepth.j2 k2 x4_2 t377 l0 (l0.length : Int) x22_2 (decide (((rd_T52 l0 x22_2).f1) > 4))) else (impl_ruleDepth.j2 k2 x4_2 t377 l0 (l0.length : Int) x22_2 false))) else (impl_ruleDepth.j2 k2 x4_2 t377 l0 (l0.length : Int) x22_2 true)) else (if ((rd_T52 l0 x22_2).f0) = 0 then (if ((rd_T52 l0 x22_2).f1) > 1000000 then (impl_ruleDepth.j2 k2 x4_2 t377 l0 (l0.length : Int) x22_2 true) else (if ((rd_T52 l0 x22_2).f0) = 1 then (impl_ruleDepth.j2 k2 x4_2 t377 l0 (l0.length : Int) x22_2 (decide (((rd_T52 l0 x22_2).f1) > 4))) else (impl_ruleDepth.j2 k2 x4_2 t377 l0 (l0.length : Int) x22_2 false))) else (if ((rd_T52 l0 x22_2).f0) = 1 then (impl_ruleDepth.j2 k2 x4_2 t377 l0 (l0.length : Int) x22_2 (decide (((rd_T52 l0 x22_2).f1) > 4))) else (impl_ruleDepth.j2 k2 x4_2 t377 l0 (l0.length : Int) x22_2 false))))))) = some (r1, r2) := H
         have A10 := Aside0.mk A100
         clear A100
         have HC11 := Aside0.mk H
         clear H
         have p375 : 0 ≤ (x22_2 : Int) := of_decide_eq_true (by first | (with_reducible assumption) | assumption)
         have q375 : x22_2 < (l0.length : Int) := of_decide_eq_true (by first | (with_reducible assumption) | assumption)
         obtain ⟨ad375, e375, hx375_0, hx375_1⟩ := at_T52 HR0.out x22_2 p375 q375
         cases e375
         replace hx375_0 := (HB.out.cell (World.block_lt_of_cell? w _ hx375_0)).trans hx375_0
         replace hx375_1 := (HB.out.cell (World.block_lt_of_cell? w _ hx375_1)).trans hx375_1
         replace p375 := eq_true p375
         replace q375 := eq_true q375
         go_upto_region 8 with (first | ((with_reducible refine gate_dst (N := 6) rfl ?_); (try (refine gate_guard (by rfl) ?_; dsimp only)); refine box_event ?hg (N := 6) ?hd (cs := #[.int .i64 0, .int .i64 0]) (t := 52) ?hr ?_; (case hd => rfl); (case hg => rfl); (case hr => first | (go_simp; done) | (go_simp; rfl)); intro gb376 hg w12 hbox hb; have BK376 := Aside0.mk (hbox); have GW376 := gs_ hg HB; have GE376 := gs_ hg HB; replace HO_4 := Kd.R_b HO_4 hb; replace HB := hbs_ HB hb; clear hb hbox hg; obtain ⟨hcz13_0, hcz13_1, hfz13_0, hfz13_1⟩ := bx2 BK376) | ((with_reducible refine gate_callee (f := 43) rfl ?_); refine gl_ (some 28) Try.func43 #[.int .i64 ((rd_T52 l0 x22_2).f0)] rfl rfl rfl ?_; (with_reducible refine (impl_needsOf.calls k2 ((rd_T52 l0 x22_2).f0) t377 _ A10.out).mono ?_); rintro e w' ⟨rfl, ⟨nd, rfl⟩⟩; refine ⟨_, rfl, ?_⟩))
         (try simp only [Act.put, List.setIfInBounds_toArray, List.set_cons_zero, List.set_cons_succ])
         go_cut [70] (fun v70 wc => ∃ (kq : Nat) (x70_10 : Bool), v70 = .bool x70_10 ∧ Aside0 (impl_ruleDepth.j2 kq x4_2 t377 l0 (l0.length : Int) x22_2 x70_10 = some (r1, r2)) ∧ Aside0 (kq ≤ k2) ∧ Aside0 (Kd.R (Kd.int .i64) 3 wc w.heap.size (fun _ => True) u4 x4_2) ∧ Aside0 (wc.heap[gb376]? = some (.cells #[.int .i64 ((rd_T52 l0 x22_2).f0), .int .i64 ((rd_T52 l0 x22_2).f1)] 52 (0, 0))) ∧ Aside0 (Below w.heap.size w wc))
         case first =>
          have H := HC11.out
          clear HC11
          by_cases c14 : t377 < 0
          ·rw [if_pos c14] at H
           have c14b0 : decide (t377 < 0) = true := decide_eq_true c14
           clear c14
           (first | rw [c14b0] | (simp only [i64_w, i32_w]; rw [c14b0]) | skip)
           have H' := Aside0.mk H
           clear H
           go_wp2
           go_meet
           case rel => exact ⟨_, (true), (by first | rfl | (simp; done) | (simp [*]; done)), H', ⟨by have := HJ1.out; have := HK2.out; first | omega | exact Nat.le_refl _⟩, ⟨Kd.R_mono (Kd.R_s HO_4 BK376) (fun _ hk => trivial)⟩, ⟨kpq_ (kputs BK376 [(0, _), (1, _)])⟩, ⟨hb_ HB⟩⟩
          ·rw [if_neg c14] at H
           have c14b0 : decide (t377 < 0) = false := decide_eq_false c14
           clear c14
           (first | rw [c14b0] | (simp only [i64_w, i32_w]; rw [c14b0]) | skip)
           by_cases c15 : t377 > (x4_2.length : Int)
           ·rw [if_pos c15] at H
            have c15b0 : decide ((x4_2.length : Int) < t377) = true := decide_eq_true c15
            clear c15
            have H' := Aside0.mk H
            clear H
            obtain ⟨Ao16, co16, eo16⟩ := Kd.R_slice HO_4.out
            subst eo16
            go_wp2
            go_meet
            case rel => exact ⟨_, (true), (by first | rfl | (simp; done) | (simp [*]; done)), H', ⟨by have := HJ1.out; have := HK2.out; first | omega | exact Nat.le_refl _⟩, ⟨Kd.R_mono (Kd.R_s HO_4 BK376) (fun _ hk => trivial)⟩, ⟨kpq_ (kputs BK376 [(0, _), (1, _)])⟩, ⟨hb_ HB⟩⟩
           ·rw [if_neg c15] at H
            have c15b0 : decide ((x4_2.length : Int) < t377) = false := decide_eq_false c15
            clear c15
            by_cases c17 : ((rd_T52 l0 x22_2).f1) < 0
            ·rw [if_pos c17] at H
             have c17b0 : decide (((rd_T52 l0 x22_2).f1) < 0) = true := decide_eq_true c17
             clear c17
             have H' := Aside0.mk H
             clear H
             obtain ⟨Ao18, co18, eo18⟩ := Kd.R_slice HO_4.out
             subst eo18
             have hcz19_0 : w12.cell? ⟨gb376, 0, none⟩ = some (.int .i64 0) := (blk_cell BK376.out 0).trans rfl
             have hcz19_1 : w12.cell? ⟨gb376, 1, none⟩ = some (.int .i64 0) := (blk_cell BK376.out 1).trans rfl
             have hfz19_0 := blk_frozen BK376.out 0
             have hfz19_1 := blk_frozen BK376.out 1
             go_wp2
             go_meet
             case rel => exact ⟨_, (true), (by first | rfl | (simp; done) | (simp [*]; done)), H', ⟨by have := HJ1.out; have := HK2.out; first | omega | exact Nat.le_refl _⟩, ⟨Kd.R_mono (Kd.R_s HO_4 BK376) (fun _ hk => trivial)⟩, ⟨kpq_ (kputs BK376 [(0, _), (1, _)])⟩, ⟨hb_ HB⟩⟩
            ·rw [if_neg c17] at H
             have c17b0 : decide (((rd_T52 l0 x22_2).f1) < 0) = false := decide_eq_false c17
             clear c17
             by_cases c20 : t377 > 0
             ·rw [if_pos c20] at H
              have c20b0 : decide (0 < t377) = true := decide_eq_true c20
              clear c20
              by_cases c21 : ((rd_T52 l0 x22_2).f1) = 0
              ·rw [if_pos c21] at H
               have c21b0 : (((rd_T52 l0 x22_2).f1) == 0) = true := beq_iff_eq.mpr c21
               have c21b1 : (((rd_T52 l0 x22_2).f1) != 0) = false := bne_eq_false_iff_eq.mpr c21
               clear c21
               by_cases c22 : ((rd_T52 l0 x22_2).f0) = 0
               ·rw [if_pos c22] at H
                have c22b0 : (((rd_T52 l0 x22_2).f0) == 0) = true := beq_iff_eq.mpr c22
                have c22b1 : (((rd_T52 l0 x22_2).f0) != 0) = false := bne_eq_false_iff_eq.mpr c22
                clear c22
                by_cases c23 : ((rd_T52 l0 x22_2).f1) > 1000000
                ·rw [if_pos c23] at H
                 have c23b0 : decide (1000000 < ((rd_T52 l0 x22_2).f1)) = true := decide_eq_true c23
                 clear c23
                 have H' := Aside0.mk H
                 clear H
                 obtain ⟨Ao24, co24, eo24⟩ := Kd.R_slice HO_4.out
                 subst eo24
                 have hcz25_0 : w12.cell? ⟨gb376, 0, none⟩ = some (.int .i64 0) := (blk_cell BK376.out 0).trans rfl
                 have hcz25_1 : w12.cell? ⟨gb376, 1, none⟩ = some (.int .i64 0) := (blk_cell BK376.out 1).trans rfl
                 have hfz25_0 := blk_frozen BK376.out 0
                 have hfz25_1 := blk_frozen BK376.out 1
                 go_wp2
                 go_meet
                 case rel => exact ⟨_, (true), (by first | rfl | (simp; done) | (simp [*]; done)), H', ⟨by have := HJ1.out; have := HK2.out; first | omega | exact Nat.le_refl _⟩, ⟨Kd.R_mono (Kd.R_s HO_4 BK376) (fun _ hk => trivial)⟩, ⟨kpq_ (kputs BK376 [(0, _), (1, _)])⟩, ⟨hb_ HB⟩⟩
                ·rw [if_neg c23] at H
                 have c23b0 : decide (1000000 < ((rd_T52 l0 x22_2).f1)) = false := decide_eq_false c23
                 clear c23
                 by_cases c26 : ((rd_T52 l0 x22_2).f0) = 1
                 ·rw [if_pos c26] at H
                  have c26b0 : (((rd_T52 l0 x22_2).f0) == 1) = true := beq_iff_eq.mpr c26
                  have c26b1 : (((rd_T52 l0 x22_2).f0) != 1) = false := bne_eq_false_iff_eq.mpr c26
                  clear c26
                  have H' := Aside0.mk H
                  clear H
                  obtain ⟨Ao27, co27, eo27⟩ := Kd.R_slice HO_4.out
                  subst eo27
                  have hcz28_0 : w12.cell? ⟨gb376, 0, none⟩ = some (.int .i64 0) := (blk_cell BK376.out 0).trans rfl
                  have hcz28_1 : w12.cell? ⟨gb376, 1, none⟩ = some (.int .i64 0) := (blk_cell BK376.out 1).trans rfl
                  have hfz28_0 := blk_frozen BK376.out 0
                  have hfz28_1 := blk_frozen BK376.out 1
                  go_wp2
                  go_meet
                  case rel => exact ⟨_, (decide (((rd_T52 l0 x22_2).f1) > 4)), (by first | rfl | (simp; done) | (simp [*]; done)), H', ⟨by have := HJ1.out; have := HK2.out; first | omega | exact Nat.le_refl _⟩, ⟨Kd.R_mono (Kd.R_s HO_4 BK376) (fun _ hk => trivial)⟩, ⟨kpq_ (kputs BK376 [(0, _), (1, _)])⟩, ⟨hb_ HB⟩⟩
                 ·rw [if_neg c26] at H
                  have c26b0 : (((rd_T52 l0 x22_2).f0) == 1) = false := beq_eq_false_iff_ne.mpr c26
                  have c26b1 : (((rd_T52 l0 x22_2).f0) != 1) = true := bne_iff_ne.mpr c26
                  have H' := Aside0.mk H
                  clear H
                  obtain ⟨Ao29, co29, eo29⟩ := Kd.R_slice HO_4.out
                  subst eo29
                  have hcz30_0 : w12.cell? ⟨gb376, 0, none⟩ = some (.int .i64 0) := (blk_cell BK376.out 0).trans rfl
                  have hcz30_1 : w12.cell? ⟨gb376, 1, none⟩ = some (.int .i64 0) := (blk_cell BK376.out 1).trans rfl
                  have hfz30_0 := blk_frozen BK376.out 0
                  have hfz30_1 := blk_frozen BK376.out 1
                  go_wp2
                  go_meet
                  case rel => exact ⟨_, (false), (by first | rfl | (simp; done) | (simp [*]; done)), H', ⟨by have := HJ1.out; have := HK2.out; first | omega | exact Nat.le_refl _⟩, ⟨Kd.R_mono (Kd.R_s HO_4 BK376) (fun _ hk => trivial)⟩, ⟨kpq_ (kputs BK376 [(0, _), (1, _)])⟩, ⟨hb_ HB⟩⟩
               ·rw [if_neg c22] at H
                have c22b0 : (((rd_T52 l0 x22_2).f0) == 0) = false := beq_eq_false_iff_ne.mpr c22
                have c22b1 : (((rd_T52 l0 x22_2).f0) != 0) = true := bne_iff_ne.mpr c22
                by_cases c31 : ((rd_T52 l0 x22_2).f0) = 1
                ·rw [if_pos c31] at H
                 have c31b0 : (((rd_T52 l0 x22_2).f0) == 1) = true := beq_iff_eq.mpr c31
                 have c31b1 : (((rd_T52 l0 x22_2).f0) != 1) = false := bne_eq_false_iff_eq.mpr c31
                 clear c31
                 have H' := Aside0.mk H
                 clear H
                 obtain ⟨Ao32, co32, eo32⟩ := Kd.R_slice HO_4.out
                 subst eo32
                 have hcz33_0 : w12.cell? ⟨gb376, 0, none⟩ = some (.int .i64 0) := (blk_cell BK376.out 0).trans rfl
                 have hcz33_1 : w12.cell? ⟨gb376, 1, none⟩ = some (.int .i64 0) := (blk_cell BK376.out 1).trans rfl
                 have hfz33_0 := blk_frozen BK376.out 0
                 have hfz33_1 := blk_frozen BK376.out 1
                 go_wp2
                 go_meet
                 case rel => exact ⟨_, (decide (((rd_T52 l0 x22_2).f1) > 4)), (by first | rfl | (simp; done) | (simp [*]; done)), H', ⟨by have := HJ1.out; have := HK2.out; first | omega | exact Nat.le_refl _⟩, ⟨Kd.R_mono (Kd.R_s HO_4 BK376) (fun _ hk => trivial)⟩, ⟨kpq_ (kputs BK376 [(0, _), (1, _)])⟩, ⟨hb_ HB⟩⟩
                ·rw [if_neg c31] at H
                 have c31b0 : (((rd_T52 l0 x22_2).f0) == 1) = false := beq_eq_false_iff_ne.mpr c31
                 have c31b1 : (((rd_T52 l0 x22_2).f0) != 1) = true := bne_iff_ne.mpr c31
                 have H' := Aside0.mk H
                 clear H
                 obtain ⟨Ao34, co34, eo34⟩ := Kd.R_slice HO_4.out
                 subst eo34
                 have hcz35_0 : w12.cell? ⟨gb376, 0, none⟩ = some (.int .i64 0) := (blk_cell BK376.out 0).trans rfl
                 have hcz35_1 : w12.cell? ⟨gb376, 1, none⟩ = some (.int .i64 0) := (blk_cell BK376.out 1).trans rfl
                 have hfz35_0 := blk_frozen BK376.out 0
                 have hfz35_1 := blk_frozen BK376.out 1
                 go_wp2
                 go_meet
                 case rel => exact ⟨_, (false), (by first | rfl | (simp; done) | (simp [*]; done)), H', ⟨by have := HJ1.out; have := HK2.out; first | omega | exact Nat.le_refl _⟩, ⟨Kd.R_mono (Kd.R_s HO_4 BK376) (fun _ hk => trivial)⟩, ⟨kpq_ (kputs BK376 [(0, _), (1, _)])⟩, ⟨hb_ HB⟩⟩
              ·rw [if_neg c21] at H
               have c21b0 : (((rd_T52 l0 x22_2).f1) == 0) = false := beq_eq_false_iff_ne.mpr c21
               have c21b1 : (((rd_T52 l0 x22_2).f1) != 0) = true := bne_iff_ne.mpr c21
               have H' := Aside0.mk H
               clear H
               obtain ⟨Ao36, co36, eo36⟩ := Kd.R_slice HO_4.out
               subst eo36
               have hcz37_0 : w12.cell? ⟨gb376, 0, none⟩ = some (.int .i64 0) := (blk_cell BK376.out 0).trans rfl
               have hcz37_1 : w12.cell? ⟨gb376, 1, none⟩ = some (.int .i64 0) := (blk_cell BK376.out 1).trans rfl
               have hfz37_0 := blk_frozen BK376.out 0
               have hfz37_1 := blk_frozen BK376.out 1
               go_wp2
               go_meet
               case rel => exact ⟨_, (true), (by first | rfl | (simp; done) | (simp [*]; done)), H', ⟨by have := HJ1.out; have := HK2.out; first | omega | exact Nat.le_refl _⟩, ⟨Kd.R_mono (Kd.R_s HO_4 BK376) (fun _ hk => trivial)⟩, ⟨kpq_ (kputs BK376 [(0, _), (1, _)])⟩, ⟨hb_ HB⟩⟩
             ·rw [if_neg c20] at H
              have c20b0 : decide (0 < t377) = false := decide_eq_false c20
              clear c20
              by_cases c38 : ((rd_T52 l0 x22_2).f0) = 0
              ·rw [if_pos c38] at H
               have c38b0 : (((rd_T52 l0 x22_2).f0) == 0) = true := beq_iff_eq.mpr c38
               have c38b1 : (((rd_T52 l0 x22_2).f0) != 0) = false := bne_eq_false_iff_eq.mpr c38
               clear c38
               by_cases c39 : ((rd_T52 l0 x22_2).f1) > 1000000
               ·rw [if_pos c39] at H
                have c39b0 : decide (1000000 < ((rd_T52 l0 x22_2).f1)) = true := decide_eq_true c39
                clear c39
                have H' := Aside0.mk H
                clear H
                obtain ⟨Ao40, co40, eo40⟩ := Kd.R_slice HO_4.out
                subst eo40
                have hcz41_0 : w12.cell? ⟨gb376, 0, none⟩ = some (.int .i64 0) := (blk_cell BK376.out 0).trans rfl
                have hcz41_1 : w12.cell? ⟨gb376, 1, none⟩ = some (.int .i64 0) := (blk_cell BK376.out 1).trans rfl
                have hfz41_0 := blk_frozen BK376.out 0
                have hfz41_1 := blk_frozen BK376.out 1
                go_wp2
                go_meet
                case rel => exact ⟨_, (true), (by first | rfl | (simp; done) | (simp [*]; done)), H', ⟨by have := HJ1.out; have := HK2.out; first | omega | exact Nat.le_refl _⟩, ⟨Kd.R_mono (Kd.R_s HO_4 BK376) (fun _ hk => trivial)⟩, ⟨kpq_ (kputs BK376 [(0, _), (1, _)])⟩, ⟨hb_ HB⟩⟩
               ·rw [if_neg c39] at H
                have c39b0 : decide (1000000 < ((rd_T52 l0 x22_2).f1)) = false := decide_eq_false c39
                clear c39
                by_cases c42 : ((rd_T52 l0 x22_2).f0) = 1
                ·rw [if_pos c42] at H
                 have c42b0 : (((rd_T52 l0 x22_2).f0) == 1) = true := beq_iff_eq.mpr c42
                 have c42b1 : (((rd_T52 l0 x22_2).f0) != 1) = false := bne_eq_false_iff_eq.mpr c42
                 clear c42
                 have H' := Aside0.mk H
                 clear H
                 obtain ⟨Ao43, co43, eo43⟩ := Kd.R_slice HO_4.out
                 subst eo43
                 have hcz44_0 : w12.cell? ⟨gb376, 0, none⟩ = some (.int .i64 0) := (blk_cell BK376.out 0).trans rfl
                 have hcz44_1 : w12.cell? ⟨gb376, 1, none⟩ = some (.int .i64 0) := (blk_cell BK376.out 1).trans rfl
                 have hfz44_0 := blk_frozen BK376.out 0
                 have hfz44_1 := blk_frozen BK376.out 1
                 go_wp2
                 go_meet
                 case rel => exact ⟨_, (decide (((rd_T52 l0 x22_2).f1) > 4)), (by first | rfl | (simp; done) | (simp [*]; done)), H', ⟨by have := HJ1.out; have := HK2.out; first | omega | exact Nat.le_refl _⟩, ⟨Kd.R_mono (Kd.R_s HO_4 BK376) (fun _ hk => trivial)⟩, ⟨kpq_ (kputs BK376 [(0, _), (1, _)])⟩, ⟨hb_ HB⟩⟩
                ·rw [if_neg c42] at H
                 have c42b0 : (((rd_T52 l0 x22_2).f0) == 1) = false := beq_eq_false_iff_ne.mpr c42
                 have c42b1 : (((rd_T52 l0 x22_2).f0) != 1) = true := bne_iff_ne.mpr c42
                 have H' := Aside0.mk H
                 clear H
                 obtain ⟨Ao45, co45, eo45⟩ := Kd.R_slice HO_4.out
                 subst eo45
                 have hcz46_0 : w12.cell? ⟨gb376, 0, none⟩ = some (.int .i64 0) := (blk_cell BK376.out 0).trans rfl
                 have hcz46_1 : w12.cell? ⟨gb376, 1, none⟩ = some (.int .i64 0) := (blk_cell BK376.out 1).trans rfl
                 have hfz46_0 := blk_frozen BK376.out 0
                 have hfz46_1 := blk_frozen BK376.out 1
                 go_wp2
                 go_meet
                 case rel => exact ⟨_, (false), (by first | rfl | (simp; done) | (simp [*]; done)), H', ⟨by have := HJ1.out; have := HK2.out; first | omega | exact Nat.le_refl _⟩, ⟨Kd.R_mono (Kd.R_s HO_4 BK376) (fun _ hk => trivial)⟩, ⟨kpq_ (kputs BK376 [(0, _), (1, _)])⟩, ⟨hb_ HB⟩⟩
              ·rw [if_neg c38] at H
               have c38b0 : (((rd_T52 l0 x22_2).f0) == 0) = false := beq_eq_false_iff_ne.mpr c38
               have c38b1 : (((rd_T52 l0 x22_2).f0) != 0) = true := bne_iff_ne.mpr c38
               by_cases c47 : ((rd_T52 l0 x22_2).f0) = 1
               ·rw [if_pos c47] at H
                have c47b0 : (((rd_T52 l0 x22_2).f0) == 1) = true := beq_iff_eq.mpr c47
                have c47b1 : (((rd_T52 l0 x22_2).f0) != 1) = false := bne_eq_false_iff_eq.mpr c47
                clear c47
                have H' := Aside0.mk H
                clear H
                obtain ⟨Ao48, co48, eo48⟩ := Kd.R_slice HO_4.out
                subst eo48
                have hcz49_0 : w12.cell? ⟨gb376, 0, none⟩ = some (.int .i64 0) := (blk_cell BK376.out 0).trans rfl
                have hcz49_1 : w12.cell? ⟨gb376, 1, none⟩ = some (.int .i64 0) := (blk_cell BK376.out 1).trans rfl
                have hfz49_0 := blk_frozen BK376.out 0
                have hfz49_1 := blk_frozen BK376.out 1
                go_wp2
                go_meet
                case rel => exact ⟨_, (decide (((rd_T52 l0 x22_2).f1) > 4)), (by first | rfl | (simp; done) | (simp [*]; done)), H', ⟨by have := HJ1.out; have := HK2.out; first | omega | exact Nat.le_refl _⟩, ⟨Kd.R_mono (Kd.R_s HO_4 BK376) (fun _ hk => trivial)⟩, ⟨kpq_ (kputs BK376 [(0, _), (1, _)])⟩, ⟨hb_ HB⟩⟩
               ·rw [if_neg c47] at H
                have c47b0 : (((rd_T52 l0 x22_2).f0) == 1) = false := beq_eq_false_iff_ne.mpr c47
                have c47b1 : (((rd_T52 l0 x22_2).f0) != 1) = true := bne_iff_ne.mpr c47
                have H' := Aside0.mk H
                clear H
                obtain ⟨Ao50, co50, eo50⟩ := Kd.R_slice HO_4.out
                subst eo50
                have hcz51_0 : w12.cell? ⟨gb376, 0, none⟩ = some (.int .i64 0) := (blk_cell BK376.out 0).trans rfl
                have hcz51_1 : w12.cell? ⟨gb376, 1, none⟩ = some (.int .i64 0) := (blk_cell BK376.out 1).trans rfl
                have hfz51_0 := blk_frozen BK376.out 0
                have hfz51_1 := blk_frozen BK376.out 1
                go_wp2
                go_meet
                case rel => exact ⟨_, (false), (by first | rfl | (simp; done) | (simp [*]; done)), H', ⟨by have := HJ1.out; have := HK2.out; first | omega | exact Nat.le_refl _⟩, ⟨Kd.R_mono (Kd.R_s HO_4 BK376) (fun _ hk => trivial)⟩, ⟨kpq_ (kputs BK376 [(0, _), (1, _)])⟩, ⟨hb_ HB⟩⟩
         case rest =>
          clear HC11
          (try clear c1); (try clear c2); (try clear p2); (try clear c3); (try clear c3b0); (try clear c3b1); (try clear p3); (try clear q3); (try clear hx3); (try clear c4); (try clear c7); (try clear c7b0); (try clear c8); (try clear c8b0); (try clear c9); (try clear c9b0); (try clear c14); (try clear c14b0); (try clear c15); (try clear c15b0); (try clear c17); (try clear c17b0); (try clear c20); (try clear c20b0); (try clear c21); (try clear c21b0); (try clear c21b1); (try clear c22); (try clear c22b0); (try clear c22b1); (try clear c23); (try clear c23b0); (try clear c26); (try clear c26b0); (try clear c26b1); (try clear c28); (try clear c31); (try clear c31b0); (try clear c31b1); (try clear p37); (try clear q37); (try clear hx37); (try clear c38); (try clear c38b0); (try clear c38b1); (try clear c39); (try clear c39b0); (try clear c42); (try clear c42b0); (try clear c42b1); (try clear c43); (try clear c47); (try clear c47b0); (try clear c47b1); (try clear hcz13_0); (try clear hcz13_1); (try clear hfz13_0); (try clear hfz13_1); (try clear hx375_0); (try clear hx375_1); (try clear p375); (try clear q375)
          obtain ⟨kq, x70_10, rfl, HA, HJ10, HO_4, BK376, HB⟩ := hcut
          cases kq with
          | zero => exact absurd HA.out (by simp [impl_ruleDepth.j2])
          | succ kj10 =>
           have H := HA.out
           clear HA
           simp only [impl_ruleDepth.j2] at H
           by_cases c52 : x70_10 = true
           ·subst c52
            have H1 : (some (0, false)) = some (r1, r2) := by rw [if_pos rfl] at H; exact H
            clear H
            have H := H1
            clear H1
            simp only [Option.some.injEq, Prod.mk.injEq] at H
            obtain ⟨rfl, rfl⟩ := H
            go_wp2
            go_ret2
            exact ⟨by first | rfl | (simp [errW_none, errW_some] <;> rfl) | (simp [*, errW_none, errW_some] <;> rfl), hb_ HB⟩
           ·replace c52 := Bool.eq_false_iff.mpr c52
            subst c52
            have H1 : (if 0 ≤ (wrap64 ((x4_2.length : Int) - t377)) then (if (wrap64 ((x4_2.length : Int) - t377)) ≤ (x4_2.length : Int) then ((some (x4_2.drop ((wrap64 ((x4_2.length : Int) - t377)) : Int).toNat : List Int)).bind fun y378 => (impl_ruleDepth.l1 kj10 x4_2 t377 0 l0 (l0.length : Int) x22_2 y378 (y378.length : Int) 0)) else (none)) else (none)) = some (r1, r2) := by rw [if_neg (show ¬ (false = true) by decide)] at H; exact H
            clear H
            have H := H1
            clear H1
            obtain ⟨ji53, hji53⟩ : ∃ j_ : Int, (wrap64 ((x4_2.length : Int) - t377)) = j_ := ⟨_, rfl⟩
            replace H : (if 0 ≤ (ji53) then (if (ji53) ≤ (x4_2.length : Int) then ((some (x4_2.drop ((ji53) : Int).toNat : List Int)).bind fun y378 => (impl_ruleDepth.l1 kj10 x4_2 t377 0 l0 (l0.length : Int) x22_2 y378 (y378.length : Int) 0)) else (none)) else (none)) = some (r1, r2) := by first | (rw [hji53] at H; exact H) | (simp only [hji53] at H ⊢; exact H)
            have hji53w : (IntKind.i64.wrap ((x4_2.length : Int) - t377)) = ji53 := (i64_w _).trans hji53
            by_cases c54 : 0 ≤ (ji53)
            ·rw [if_pos c54] at H
             have c54b0 := eq_true c54
             have c54b1 : decide (0 ≤ (ji53)) = true := decide_eq_true c54
             clear c54
             by_cases c55 : (ji53) ≤ (x4_2.length : Int)
             ·rw [if_pos c55] at H
              have c55b0 := eq_true c55
              have c55b1 : decide ((ji53) ≤ (x4_2.length : Int)) = true := decide_eq_true c55
              clear c55
              obtain ⟨y378, hy378⟩ : ∃ y_ : List Int, y_ = (x4_2.drop ((ji53) : Int).toNat) := ⟨_, rfl⟩
              replace H : (impl_ruleDepth.l1 kj10 x4_2 t377 0 l0 (l0.length : Int) x22_2 y378 (y378.length : Int) 0) = some (r1, r2) := by first | (rw [hy378]; with_reducible exact H) | (have H2_ := (Option.bind_some _ _).symm.trans H; rw [hy378]; with_reducible exact H2_) | (have H2_ := (Option.bind_some _ _).symm.trans H; with_reducible exact H2_) | with_reducible exact H | (rw [hy378]; exact H) | exact H
              have Ny378 := Aside0.mk hy378
              clear hy378
              have H' := Aside0.mk H
              clear H
              obtain ⟨Ao56, co56, eo56⟩ := Kd.R_slice HO_4.out
              subst eo56
              have q57 : ((ji53) : Int) ≤ ((x4_2.length : Int) : Int) := of_decide_eq_true (by first | (with_reducible assumption) | assumption)
              obtain ⟨i057, hi057, _, hsz57, _⟩ := info_parts info3
              have hroom57 : x4_2.length ≤ co56 := (Kd.R_reads' HO_4.out).2.1
              have hC57 : Kd.C (Kd.int .i64) _ Ao56 x4_2.length x4_2 := (Kd.R_reads' HO_4.out).2.2
              have q057 : (0 : Int) ≤ ((ji53) : Int) := of_decide_eq_true (by first | (with_reducible assumption) | assumption)
              have hcut57 := cut_from (P := Try.prog) 24 3 .i64 Try.underlying24 hi057 1 hsz57 Ao56 x4_2.length co56 (ji53) q057 q57
              have hr57 := Kd.C_drop (m := ((ji53) : Int).toNat) (c := co56) hC57 (by omega) hroom57
              obtain ⟨A57, hA57⟩ : ∃ A1, A1 = (if co56 = ((ji53) : Int).toNat then Ao56 else (Ao56 : Option Addr).map (·.add (((ji53) : Int).toNat * 1))) := ⟨_, rfl⟩
              obtain ⟨c57, hc57⟩ : ∃ c1, c1 = co56 - ((ji53) : Int).toNat := ⟨_, rfl⟩
              have hy57 : y378.length = x4_2.length - ((ji53) : Int).toNat := (by rw [Ny378.out, List.length_drop] <;> omega)
              rw [show (x4_2).drop ((ji53) : Int).toNat = y378 from Ny378.out.symm] at hr57
              replace hr57 : Kd.C (Kd.int .i64) _ A57 y378.length y378 := (by rw [hA57]; exact hr57)
              rw [← hy57, ← hA57, ← hc57] at hcut57
              have HR381 := Aside0.mk hr57
              have HC381 := Aside0.mk (show y378.length ≤ c57 from by rw [hy57, hc57]; exact Nat.sub_le_sub_right hroom57 _)
              clear hr57 hC57 hroom57 hi057 hsz57 hc57
              have KY57 := Aside0.mk hy57
              have KA57 := Aside0.mk hA57
              clear hy57 hA57
              have KL57 := Aside0.mk (show ((ji53) : Int).toNat ≤ x4_2.length from by omega)
              replace q57 := eq_true q57
              go_wp2
              go_loopg [8, 78] kj10 (fun kq v8 v78 w' => ∃ (x8_4 : Int) (x78_4 : Int), v8 = .int .i64 x8_4 ∧ v78 = .int .i64 x78_4 ∧ Aside0 (impl_ruleDepth.l1 kq x4_2 t377 x8_4 l0 (l0.length : Int) x22_2 y378 (y378.length : Int) x78_4 = some (r1, r2)) ∧ Aside0 (kq ≤ kj10) ∧ Aside0 (Kd.R (Kd.int .i64) 3 w' w.heap.size (fun _ => True) (.slice Ao56 x4_2.length co56) x4_2) ∧ Aside0 (w'.heap[gb376]? = some (.cells #[.int .i64 ((rd_T52 l0 x22_2).f0), .int .i64 ((rd_T52 l0 x22_2).f1)] 52 (0, 0))) ∧ Aside0 (Kd.C (Kd.int .i64) w' A57 y378.length y378) ∧ Aside0 (Below w.heap.size w w'))
              case atStart => exact ⟨(0), (0), (by first | rfl | (simp; done) | (simp [*]; done)), (by first | rfl | (simp; done) | (simp [*]; done)), H', ⟨Nat.le_refl _⟩, ⟨Kd.R_p HO_4⟩, ⟨kp_ BK376⟩, ⟨by repeat (first | (with_reducible exact HR381.out) | (with_reducible refine Kd.C_alloc ?_ _) | (with_reducible refine Kd.C_drewN ?_ _) | (with_reducible refine Kd.C_drew ?_) | exact HR381.out)⟩, ⟨hb_ HB⟩⟩
              case round =>
               clear H'
               (try clear c1); (try clear c2); (try clear p2); (try clear c3); (try clear c3b0); (try clear c3b1); (try clear p3); (try clear q3); (try clear hx3); (try clear c4); (try clear c5); (try clear q5); (try clear p6); (try clear c7); (try clear c7b0); (try clear c8); (try clear c8b0); (try clear c9); (try clear c9b0); (try clear c14); (try clear c14b0); (try clear c15); (try clear c15b0); (try clear c17); (try clear c17b0); (try clear c20); (try clear c20b0); (try clear c21); (try clear c21b0); (try clear c21b1); (try clear c22); (try clear c22b0); (try clear c22b1); (try clear c23); (try clear c23b0); (try clear c26); (try clear c26b0); (try clear c26b1); (try clear c28); (try clear c31); (try clear c31b0); (try clear c31b1); (try clear p37); (try clear q37); (try clear hx37); (try clear c38); (try clear c38b0); (try clear c38b1); (try clear c39); (try clear c39b0); (try clear c42); (try clear c42b0); (try clear c42b1); (try clear c43); (try clear c47); (try clear c47b0); (try clear c47b1); (try clear c52); (try clear c54); (try clear c54b0); (try clear c54b1); (try clear c55); (try clear c55b0); (try clear c55b1); (try clear c57); (try clear q57); (try clear q057); (try clear q57)
               obtain ⟨x8_4, x78_4, rfl, rfl, HA, HK4, HO_4, BK376, HR381, HB⟩ := hrel
               cases gk with
               | zero => exact absurd HA.out (by simp [impl_ruleDepth.l1])
               | succ k4 =>
                have H := HA.out
                clear HA
                simp only [impl_ruleDepth.l1] at H
                by_cases c58 : x78_4 < (y378.length : Int)
                ·rw [if_pos c58] at H
                 have c58b0 : decide (x78_4 < (y378.length : Int)) = true := decide_eq_true c58
                 clear c58
                 by_cases c59 : 0 ≤ x78_4
                 ·rw [if_pos c59] at H
                  have c59b0 : decide (0 ≤ x78_4) = true := decide_eq_true c59
                  clear c59
                  by_cases c60 : x78_4 < (y378.length : Int)
                  ·rw [if_pos c60] at H
                   have c60b0 : decide (x78_4 < (y378.length : Int)) = true := decide_eq_true c60
                   clear c60
                   obtain ⟨ji61, hji61⟩ : ∃ j_ : Int, (mx x8_4 (rd y378 x78_4)) = j_ := ⟨_, rfl⟩
                   replace H : (impl_ruleDepth.l1 k4 x4_2 t377 ji61 l0 (l0.length : Int) x22_2 y378 (y378.length : Int) (wrap64 (x78_4 + 1))) = some (r1, r2) := by first | (rw [hji61] at H; exact H) | (simp only [hji61] at H ⊢; exact H)
                   have hji61_ : (if x8_4 < (rd y378 x78_4) then (rd y378 x78_4) else x8_4) = ji61 := hji61
                   have H' := Aside0.mk H
                   clear H
                   have p382 : 0 ≤ (x78_4 : Int) := of_decide_eq_true (by first | (with_reducible assumption) | assumption)
                   have q382 : x78_4 < (y378.length : Int) := of_decide_eq_true (by first | (with_reducible assumption) | assumption)
                   obtain ⟨ad382, e382, hx382_0⟩ := Kd.at_int HR381.out x78_4 p382 q382
                   cases e382
                   try replace hx382_0 := (HB.out.cell (World.block_lt_of_cell? w _ hx382_0)).trans hx382_0
                   replace p382 := eq_true p382
                   replace q382 := eq_true q382
                   go_wp2
                   go_roundg k4
                   case measure => have := HJ1.out; have := HK2.out; have := HJ10.out; have := HK4.out; omega
                   case rel => exact ⟨(ji61), (wrap64 (x78_4 + 1)), (by first | rfl | (simp; done) | (simp only [← hji61] <;> (first | rfl | simp)) | (simp [*]; done)), (by first | rfl | (simp; done) | (simp [*]; done)), H', ⟨by have := HJ1.out; have := HK2.out; have := HJ10.out; have := HK4.out; omega⟩, ⟨Kd.R_p HO_4⟩, ⟨kp_ BK376⟩, ⟨by repeat (first | (with_reducible exact HR381.out) | (with_reducible refine Kd.C_alloc ?_ _) | (with_reducible refine Kd.C_drewN ?_ _) | (with_reducible refine Kd.C_drew ?_) | exact HR381.out)⟩, ⟨hb_ HB⟩⟩
                  ·rw [if_neg c60] at H
                   exact absurd H (by simp)
                 ·rw [if_neg c59] at H
                  exact absurd H (by simp)
                ·rw [if_neg c58] at H
                 have c58b0 : decide (x78_4 < (y378.length : Int)) = false := decide_eq_false c58
                 clear c58
                 obtain ⟨ji62, hji62⟩ : ∃ j_ : Int, (wrap64 ((x4_2.length : Int) - t377)) = j_ := ⟨_, rfl⟩
                 replace H : (if 0 ≤ (ji62) then (if (ji62) ≤ (x4_2.length : Int) then ((some (x4_2.take ((ji62) : Int).toNat : List Int)).bind fun y383 => (if y383.length < 17592186044416 then (impl_ruleDepth.l0 k4 (y383 ++ [wrap64 (x8_4 + 1)]) l0 (l0.length : Int) (wrap64 (x22_2 + 1))) else (none))) else (none)) else (none)) = some (r1, r2) := by first | (rw [hji62] at H; exact H) | (simp only [hji62] at H ⊢; exact H)
                 have hji62w : (IntKind.i64.wrap ((x4_2.length : Int) - t377)) = ji62 := (i64_w _).trans hji62
                 have hjj_ : ji62 = ji53 := hji62.symm.trans hji53
                 subst hjj_
                 by_cases c63 : 0 ≤ (ji62)
                 ·rw [if_pos c63] at H
                  have c63b0 := eq_true c63
                  have c63b1 : decide (0 ≤ (ji62)) = true := decide_eq_true c63
                  clear c63
                  by_cases c64 : (ji62) ≤ (x4_2.length : Int)
                  ·rw [if_pos c64] at H
                   have c64b0 := eq_true c64
                   have c64b1 : decide ((ji62) ≤ (x4_2.length : Int)) = true := decide_eq_true c64
                   clear c64
                   obtain ⟨y383, hy383⟩ : ∃ y_ : List Int, y_ = (x4_2.take ((ji62) : Int).toNat) := ⟨_, rfl⟩
                   replace H : (if y383.length < 17592186044416 then (impl_ruleDepth.l0 k4 (y383 ++ [wrap64 (x8_4 + 1)]) l0 (l0.length : Int) (wrap64 (x22_2 + 1))) else (none)) = some (r1, r2) := by first | (rw [hy383]; with_reducible exact H) | (have H2_ := (Option.bind_some _ _).symm.trans H; rw [hy383]; with_reducible exact H2_) | (have H2_ := (Option.bind_some _ _).symm.trans H; with_reducible exact H2_) | with_reducible exact H | (rw [hy383]; exact H) | exact H
                   have Ny383 := Aside0.mk hy383
                   clear hy383
                   by_cases c65 : y383.length < 17592186044416
                   ·rw [if_pos c65] at H
                    have LMc65 := Aside0.mk c65
                    clear c65
                    obtain ⟨y386, hy386⟩ : ∃ y_ : List Int, y_ = (y383 ++ [wrap64 (x8_4 + 1)]) := ⟨_, rfl⟩
                    replace H : (impl_ruleDepth.l0 k4 y386 l0 (l0.length : Int) (wrap64 (x22_2 + 1))) = some (r1, r2) := by first | (rw [hy386]; with_reducible exact H) | (have H2_ := (Option.bind_some _ _).symm.trans H; rw [hy386]; with_reducible exact H2_) | (have H2_ := (Option.bind_some _ _).symm.trans H; with_reducible exact H2_) | with_reducible exact H | (rw [hy386]; exact H) | exact H
                    have Ny386 := Aside0.mk hy386
                    clear hy386
                    have H' := Aside0.mk H
                    clear H
                    (try clear HR381)
                    have q66 : ((ji62) : Int) ≤ ((x4_2.length : Int) : Int) := of_decide_eq_true (by first | (with_reducible assumption) | assumption)
                    obtain ⟨i066, hi066, _, hsz66, _⟩ := info_parts info3
                    have hcut66 := cut_to (P := Try.prog) 24 3 .i64 Try.underlying24 hi066 Ao56 x4_2.length co56 (ji62) (of_decide_eq_true (by first | (with_reducible assumption) | assumption)) q66 (Kd.R_reads' HO_4.out).2.1
                    have hr66 := Kd.R_take (m := ((ji62) : Int).toNat) HO_4.out (by omega)
                    have hy66 : y383.length = ((ji62) : Int).toNat := (by rw [Ny383.out, List.length_take]; omega)
                    rw [← Ny383.out] at hr66
                    rw [← hy66] at hr66 hcut66
                    clear hy66 hi066 hsz66 HO_4
                    have HO385 := Aside0.mk hr66
                    clear hr66
                    replace q66 := eq_true q66
                    go_wp2_with (first | ((with_reducible refine gate_builtin (b := .append) (xs := #[.tmp 91, .tmp 94]) rfl ?_); (try (refine gate_guard (by rfl) ?_; dsimp only)); at_builtin; refine Kd.R_append (Kd.int .i64) (w0 := w) w.heap.size rfl (.tmp 91) (.tmp 94) 24 3 (.int .i64 0) 8 rfl Try.underlying24 info3 rfl (by decide) (by omega) (.slice Ao56 y383.length co56) y383 (wrap64 (x8_4 + 1)) [.int .i64 (wrap64 (x8_4 + 1))] (fun _ => True) (fun _ => False) rfl rfl ?aP (fun _ hk => hk.elim) ?aF ?aO ?aB ?aS ?aL ?_; (case aP => exact rfl); (case aB => exact (hb_ HB)); (case aF => exact (fun _ _ => trivial)); (case aO => exact (Kd.R_p HO385)); (case aS => exact (below_size (hb_ HB))); (case aL => have := LMc65.out; omega); intro v387 w67 ho hb hg hat; rw [← Ny386.out] at ho; have HO388 := Aside0.mk (ho); replace BK376 := Aside0.mk (blk_grown (kp_ BK376) hg (Kd.R_ne HO385.out BK376.out (by decide))); replace HB := Aside0.mk (hb); clear HO385; clear ho hb hg hat))
                    go_roundg k4
                    case measure => have := HJ1.out; have := HK2.out; have := HJ10.out; have := HK4.out; omega
                    case rel => exact ⟨(y386), (wrap64 (x22_2 + 1)), (by first | rfl | (simp; done) | (simp [*]; done)), H', ⟨by have := HJ1.out; have := HK2.out; have := HJ10.out; have := HK4.out; omega⟩, ⟨Kd.R_p HO388⟩, ⟨hb_ HB⟩⟩
                   ·rw [if_neg c65] at H
                    exact absurd H (by simp)
                  ·rw [if_neg c64] at H
                   exact absurd H (by simp)
                 ·rw [if_neg c63] at H
                  exact absurd H (by simp)
             ·rw [if_neg c55] at H
              exact absurd H (by simp)
            ·rw [if_neg c54] at H
             exact absurd H (by simp)
        ·rw [if_neg c9] at H
         exact absurd H (by simp)
       ·rw [if_neg c8] at H
        exact absurd H (by simp)
      ·rw [if_neg c7] at H
       have c7b0 : decide (x22_2 < (l0.length : Int)) = false := decide_eq_false c7
       clear c7
       by_cases c68 : 0 < (x4_2.length : Int)
       ·rw [if_pos c68] at H
        have c68b0 : decide (0 < (x4_2.length : Int)) = true := decide_eq_true c68
        have c68b1 : decide (0 < x4_2.length) = true := decide_eq_true (by omega)
        clear c68
        simp only [Option.some.injEq, Prod.mk.injEq] at H
        obtain ⟨rfl, rfl⟩ := H
        obtain ⟨Ao69, co69, eo69⟩ := Kd.R_slice HO_4.out
        subst eo69
        have p374 : 0 ≤ (0 : Int) := (by omega)
        have q374 : 0 < (x4_2.length : Int) := of_decide_eq_true (by first | (with_reducible assumption) | assumption)
        obtain ⟨ad374, e374, hx374_0⟩ := Kd.at_int (Kd.R_reads' HO_4.out).2.2 0 p374 q374
        cases e374
        have qi374 : (0 < x4_2.length) = True := eq_true (by omega)
        (try rw [show ((0 : Int)).toNat = 0 from rfl] at hx374_0)
        (try rw [Addr.add_zero'] at hx374_0)
        replace p374 := eq_true p374
        replace q374 := eq_true q374
        go_wp2
        go_ret2
        exact ⟨by first | rfl | (simp [errW_none, errW_some] <;> rfl) | (simp [*, errW_none, errW_some] <;> rfl), hb_ HB⟩
       ·rw [if_neg c68] at H
        exact absurd H (by simp)

/-! ### impl_isRule: function 16 -/
def impl_isRule.f (k : Nat) (l0 : List (S52)) : Option (Bool) := (impl_ruleDepth.f k l0).bind fun bt389 => (if bt389.2 = true then (some (decide (bt389.1 ≤ 12))) else (some false))
set_option maxHeartbeats 8000000 in
set_option maxRecDepth 100000 in
theorem impl_isRule.calls (k : Nat) (A0 : Option Addr) (c0 : Nat) (l0 : List (S52)) (r : Bool) (w : World) (hr0 : Kd.C k52 w A0 l0.length l0) (hc0 : l0.length ≤ c0) (h : impl_isRule.f k l0 = some r) :
  Calls Try.prog 16 #[.slice A0 l0.length c0] w fun e w' => e = .returned (.bool r) ∧ Below w.heap.size w w' := by
 have HR0 := Aside0.mk hr0
 have HC0 := Aside0.mk hc0
 clear hr0 hc0
 have HB := Aside0.mk (Below.refl w.heap.size w)
 have H : ((impl_ruleDepth.f k l0).bind fun bt389 => (if bt389.2 = true then (some (decide (bt389.1 ≤ 12))) else (some false))) = some r := h
 clear h
 replace H := Option.bind_eq_some_iff.mp H
 obtain ⟨⟨t389, t390⟩, A20, H⟩ := H
 replace H : (if t390 = true then (some (decide (t389 ≤ 12))) else (some false)) = some r := H
 have A2 := Aside0.mk A20
 clear A20
 by_cases c3 : t390 = true
 ·subst c3
  have H1 : (some (decide (t389 ≤ 12))) = some r := by rw [if_pos rfl] at H; exact H
  clear H
  have H := H1
  clear H1
  obtain rfl := Option.some.inj H
  go_enter Try.func16, Try.ntmps16
  go_wp2_with (first | ((with_reducible refine gate_callee (f := 28) rfl ?_); refine gl_ (some 7) Try.func28 #[.slice A0 l0.length c0] rfl rfl rfl ?_; (with_reducible refine (impl_ruleDepth.calls k _ _ l0 t389 true _ ?side1 ?side2 A2.out).mono ?_); (case side1 => repeat (first | exact HR0.out | (with_reducible refine Kd.C_alloc ?_ _) | (with_reducible refine Kd.C_drewN ?_ _) | (with_reducible refine Kd.C_drew ?_))); (case side2 => exact HC0.out); rintro e w4 ⟨rfl, hb⟩; refine ⟨_, rfl, ?_⟩; replace HB := hbs_ HB hb; (try clear hb); (try clear hb2); (try clear hk); (try clear hi)))
  go_ret
  exact ⟨by first | rfl | (simp [errW_none, errW_some] <;> rfl) | (simp [*, errW_none, errW_some] <;> rfl), hb_ HB⟩
 ·replace c3 := Bool.eq_false_iff.mpr c3
  subst c3
  have H1 : (some false) = some r := by rw [if_neg (show ¬ (false = true) by decide)] at H; exact H
  clear H
  have H := H1
  clear H1
  obtain rfl := Option.some.inj H
  go_enter Try.func16, Try.ntmps16
  go_wp2_with (first | ((with_reducible refine gate_callee (f := 28) rfl ?_); refine gl_ (some 7) Try.func28 #[.slice A0 l0.length c0] rfl rfl rfl ?_; (with_reducible refine (impl_ruleDepth.calls k _ _ l0 t389 false _ ?side1 ?side2 A2.out).mono ?_); (case side1 => repeat (first | exact HR0.out | (with_reducible refine Kd.C_alloc ?_ _) | (with_reducible refine Kd.C_drewN ?_ _) | (with_reducible refine Kd.C_drew ?_))); (case side2 => exact HC0.out); rintro e w5 ⟨rfl, hb⟩; refine ⟨_, rfl, ?_⟩; replace HB := hbs_ HB hb; (try clear hb); (try clear hb2); (try clear hk); (try clear hi)))
  go_ret
  exact ⟨by first | rfl | (simp [errW_none, errW_some] <;> rfl) | (simp [*, errW_none, errW_some] <;> rfl), hb_ HB⟩

end Go.Proofs.Ytmhalgeoaccchaa.PFnFolded
