-- Laid for this claim by wip/tools/print2.sh, a changed copy of the kit's print (wip/tools/patch_print.py): not by print.sh.
import Derived.Test.YtmhalgeoaccchaaPFnFoldedx0
import Derived.Test.YtmhalgeoaccchaaPFnFoldedx1
import Derived.Test.YtmhalgeoaccchaaPFnFoldedx2
import Derived.Test.YtmhalgeoaccchaaPFnFoldedx3
import Derived.Test.YtmhalgeoaccchaaPFnFoldedx8
namespace Go.Proofs.Ytmhalgeoaccchaa.PFnFolded
open Go.RowKit Go.Proofs.YtmhalgeoaccchaaW.PrintWords Go.Proofs.YtmhalgeoaccchaaW.PrintLast Go.Proofs.YtmhalgeoaccchaaW.PrintMore
attribute [local go_sem] max2_int min2_int max_two min_two max_three min_three max_four min_four   -- for this text's walks alone
set_option linter.unusedVariables false
set_option linter.unusedSimpArgs false

attribute [local go_sem high] eqA52
/-! ### impl_PutField: function 10 -/
mutual
def impl_PutField.j0 : Nat → List (S52) → Int → List (S52) → Bool → Option ((List (S52)) × Bool)
 | 0, _, _, _, _ => none
 | k + 1, x0, x1, x2, x26 => if x26 = true then (some (([] : List (S52)), false)) else (impl_PutField.l0 k x1 x2 (([] : List (S52))) x0 (x0.length : Int) 0)
def impl_PutField.l0 : Nat → Int → List (S52) → List (S52) → List (S52) → Int → Int → Option ((List (S52)) × Bool)
 | 0, _, _, _, _, _, _ => none
 | k + 1, x1, x2, x8, x28, x29, x30 => if x30 < x29 then (if 0 ≤ x30 then (if x30 < (x28.length : Int) then (if (((rd_T52 x28 x30).f0) == 1 && (((rd_T52 x28 x30).f1) == x1)) = true then (if x8.length + x2.length < 8796093022208 then (impl_PutField.l0 k x1 x2 (x8 ++ x2) x28 x29 (wrap64 (x30 + 1))) else (none)) else (if x8.length < 8796093022208 then (impl_PutField.l0 k x1 x2 (x8 ++ [(⟨(rd_T52 x28 x30).f0, (rd_T52 x28 x30).f1⟩ : S52)]) x28 x29 (wrap64 (x30 + 1))) else (none))) else (none)) else (none)) else ((impl_isRule.f k x8).bind fun t569 => (if t569 = true then (some (x8, true)) else (some (([] : List (S52)), false))))
end
def impl_PutField.f (k : Nat) (l0 : List (S52)) (a1 : Int) (l2 : List (S52)) : Option ((List (S52)) × Bool) := (impl_isRule.f k l0).bind fun t556 => (if t556 = true then ((impl_isRule.f k l2).bind fun t557 => (if t557 = true then (if a1 < 0 then (impl_PutField.j0 k l0 a1 l2 true) else (impl_PutField.j0 k l0 a1 l2 (decide (a1 > 4)))) else (impl_PutField.j0 k l0 a1 l2 true))) else (impl_PutField.j0 k l0 a1 l2 true))
set_option maxHeartbeats 8000000 in
set_option maxRecDepth 100000 in
theorem impl_PutField.calls (k : Nat) (A0 : Option Addr) (c0 : Nat) (l0 : List (S52)) (a1 : Int) (A2 : Option Addr) (c2 : Nat) (l2 : List (S52)) (r1 : List (S52)) (r2 : Bool) (w : World) (hr0 : Kd.C k52 w A0 l0.length l0) (hc0 : l0.length ≤ c0) (hr2 : Kd.C k52 w A2 l2.length l2) (hc2 : l2.length ≤ c2) (h : impl_PutField.f k l0 a1 l2 = some (r1, r2)) :
  Calls Try.prog 10 #[.slice A0 l0.length c0, .int .i64 a1, .slice A2 l2.length c2] w fun e w' => ∃ v0_ : Value, e = .returned (.tuple #[v0_, .bool r2]) ∧ Kd.R k52 52 w' w.heap.size (fun _ => True) v0_ r1 ∧ Below w.heap.size w w' := by
 have hu52 := Try.underlying52
 have HR0 := Aside0.mk hr0
 have HC0 := Aside0.mk hc0
 clear hr0 hc0
 have HR2 := Aside0.mk hr2
 have HC2 := Aside0.mk hc2
 clear hr2 hc2
 have HB := Aside0.mk (Below.refl w.heap.size w)
 have H : ((impl_isRule.f k l0).bind fun t556 => (if t556 = true then ((impl_isRule.f k l2).bind fun t557 => (if t557 = true then (if a1 < 0 then (impl_PutField.j0 k l0 a1 l2 true) else (impl_PutField.j0 k l0 a1 l2 (decide (a1 > 4)))) else (impl_PutField.j0 k l0 a1 l2 true))) else (impl_PutField.j0 k l0 a1 l2 true))) = some (r1, r2) := h
 clear h
 have HC4 := Aside0.mk H
 clear H
 go_enter Try.func10, Try.ntmps10
 go_upto_region 1 with (fail)
 go_cut [26] (fun v26 wc => ∃ (kq : Nat) (x26_3 : Bool), v26 = .bool x26_3 ∧ Aside0 (impl_PutField.j0 kq l0 a1 l2 x26_3 = some (r1, r2)) ∧ Aside0 (kq ≤ k) ∧ Aside0 (Below w.heap.size w wc))
 case first =>
  have H := HC4.out
  clear HC4
  replace H := Option.bind_eq_some_iff.mp H
  obtain ⟨t556, A50, H⟩ := H
  replace H : (if t556 = true then ((impl_isRule.f k l2).bind fun t557 => (if t557 = true then (if a1 < 0 then (impl_PutField.j0 k l0 a1 l2 true) else (impl_PutField.j0 k l0 a1 l2 (decide (a1 > 4)))) else (impl_PutField.j0 k l0 a1 l2 true))) else (impl_PutField.j0 k l0 a1 l2 true)) = some (r1, r2) := H
  have A5 := Aside0.mk A50
  clear A50
  by_cases c6 : t556 = true
  ·subst c6
   have H1 : ((impl_isRule.f k l2).bind fun t557 => (if t557 = true then (if a1 < 0 then (impl_PutField.j0 k l0 a1 l2 true) else (impl_PutField.j0 k l0 a1 l2 (decide (a1 > 4)))) else (impl_PutField.j0 k l0 a1 l2 true))) = some (r1, r2) := by rw [if_pos rfl] at H; exact H
   clear H
   have H := H1
   clear H1
   replace H := Option.bind_eq_some_iff.mp H
   obtain ⟨t557, A70, H⟩ := H
   replace H : (if t557 = true then (if a1 < 0 then (impl_PutField.j0 k l0 a1 l2 true) else (impl_PutField.j0 k l0 a1 l2 (decide (a1 > 4)))) else (impl_PutField.j0 k l0 a1 l2 true)) = some (r1, r2) := H
   have A7 := Aside0.mk A70
   clear A70
   by_cases c8 : t557 = true
   ·subst c8
    have H1 : (if a1 < 0 then (impl_PutField.j0 k l0 a1 l2 true) else (impl_PutField.j0 k l0 a1 l2 (decide (a1 > 4)))) = some (r1, r2) := by rw [if_pos rfl] at H; exact H
    clear H
    have H := H1
    clear H1
    by_cases c9 : a1 < 0
    ·rw [if_pos c9] at H
     have c9b0 : decide (a1 < 0) = true := decide_eq_true c9
     clear c9
     (first | rw [c9b0] | (simp only [i64_w, i32_w]; rw [c9b0]) | skip)
     have H' := Aside0.mk H
     clear H
     go_wp2_with (first | ((with_reducible refine gate_callee (f := 16) rfl ?_); refine gl_ (some 12) Try.func16 #[.slice A0 l0.length c0] rfl rfl rfl ?_; (with_reducible refine (impl_isRule.calls k _ _ l0 true _ ?side1 ?side2 A5.out).mono ?_); (case side1 => exact Kd.C_w HR0 HB); (case side2 => exact HC0.out); rintro e w10 ⟨rfl, hb⟩; refine ⟨_, rfl, ?_⟩; replace HB := hbs_ HB hb; (try clear hb); (try clear hb2); (try clear hk); (try clear hi)) | (go_at_call 16; (with_reducible refine (impl_isRule.calls k _ _ l2 true _ ?side1 ?side2 A7.out).mono ?_); (case side1 => exact Kd.C_w HR2 HB); (case side2 => exact HC2.out); rintro e w11 ⟨rfl, hb⟩; have n0_ := Aside0.mk (below_step (hb_ HB) hb); clear HB; have HB := n0_; clear n0_; (try clear hb); (try clear hb2); (try clear hk); (try clear hi)))
     go_meet
     case rel => exact ⟨_, (true), (by first | rfl | (simp; done) | (simp [*]; done)), H', ⟨by first | omega | exact Nat.le_refl _⟩, ⟨hb_ HB⟩⟩
    ·rw [if_neg c9] at H
     have c9b0 : decide (a1 < 0) = false := decide_eq_false c9
     clear c9
     (first | rw [c9b0] | (simp only [i64_w, i32_w]; rw [c9b0]) | skip)
     have H' := Aside0.mk H
     clear H
     go_wp2_with (first | ((with_reducible refine gate_callee (f := 16) rfl ?_); refine gl_ (some 12) Try.func16 #[.slice A0 l0.length c0] rfl rfl rfl ?_; (with_reducible refine (impl_isRule.calls k _ _ l0 true _ ?side1 ?side2 A5.out).mono ?_); (case side1 => exact Kd.C_w HR0 HB); (case side2 => exact HC0.out); rintro e w12 ⟨rfl, hb⟩; refine ⟨_, rfl, ?_⟩; replace HB := hbs_ HB hb; (try clear hb); (try clear hb2); (try clear hk); (try clear hi)) | (go_at_call 16; (with_reducible refine (impl_isRule.calls k _ _ l2 true _ ?side1 ?side2 A7.out).mono ?_); (case side1 => exact Kd.C_w HR2 HB); (case side2 => exact HC2.out); rintro e w13 ⟨rfl, hb⟩; have n0_ := Aside0.mk (below_step (hb_ HB) hb); clear HB; have HB := n0_; clear n0_; (try clear hb); (try clear hb2); (try clear hk); (try clear hi)))
     go_meet
     case rel => exact ⟨_, (decide (a1 > 4)), (by first | rfl | (simp; done) | (simp [*]; done)), H', ⟨by first | omega | exact Nat.le_refl _⟩, ⟨hb_ HB⟩⟩
   ·replace c8 := Bool.eq_false_iff.mpr c8
    subst c8
    have H1 : (impl_PutField.j0 k l0 a1 l2 true) = some (r1, r2) := by rw [if_neg (show ¬ (false = true) by decide)] at H; exact H
    clear H
    have H := H1
    clear H1
    have H' := Aside0.mk H
    clear H
    go_wp2_with (first | ((with_reducible refine gate_callee (f := 16) rfl ?_); refine gl_ (some 12) Try.func16 #[.slice A0 l0.length c0] rfl rfl rfl ?_; (with_reducible refine (impl_isRule.calls k _ _ l0 true _ ?side1 ?side2 A5.out).mono ?_); (case side1 => exact Kd.C_w HR0 HB); (case side2 => exact HC0.out); rintro e w14 ⟨rfl, hb⟩; refine ⟨_, rfl, ?_⟩; replace HB := hbs_ HB hb; (try clear hb); (try clear hb2); (try clear hk); (try clear hi)) | (go_at_call 16; (with_reducible refine (impl_isRule.calls k _ _ l2 false _ ?side1 ?side2 A7.out).mono ?_); (case side1 => exact Kd.C_w HR2 HB); (case side2 => exact HC2.out); rintro e w15 ⟨rfl, hb⟩; have n0_ := Aside0.mk (below_step (hb_ HB) hb); clear HB; have HB := n0_; clear n0_; (try clear hb); (try clear hb2); (try clear hk); (try clear hi)))
    go_meet
    case rel => exact ⟨_, (true), (by first | rfl | (simp; done) | (simp [*]; done)), H', ⟨by first | omega | exact Nat.le_refl _⟩, ⟨hb_ HB⟩⟩
  ·replace c6 := Bool.eq_false_iff.mpr c6
   subst c6
   have H1 : (impl_PutField.j0 k l0 a1 l2 true) = some (r1, r2) := by rw [if_neg (show ¬ (false = true) by decide)] at H; exact H
   clear H
   have H := H1
   clear H1
   have H' := Aside0.mk H
   clear H
   go_wp2_with (first | ((with_reducible refine gate_callee (f := 16) rfl ?_); refine gl_ (some 12) Try.func16 #[.slice A0 l0.length c0] rfl rfl rfl ?_; (with_reducible refine (impl_isRule.calls k _ _ l0 false _ ?side1 ?side2 A5.out).mono ?_); (case side1 => exact Kd.C_w HR0 HB); (case side2 => exact HC0.out); rintro e w16 ⟨rfl, hb⟩; refine ⟨_, rfl, ?_⟩; replace HB := hbs_ HB hb; (try clear hb); (try clear hb2); (try clear hk); (try clear hi)))
   go_meet
   case rel => exact ⟨_, (true), (by first | rfl | (simp; done) | (simp [*]; done)), H', ⟨by first | omega | exact Nat.le_refl _⟩, ⟨hb_ HB⟩⟩
 case rest =>
  clear HC4
  (try clear c1); (try clear c2); (try clear p2); (try clear c6); (try clear c8); (try clear c9); (try clear c9b0); (try clear c10); (try clear c16)
  obtain ⟨kq, x26_3, rfl, HA, HJ3, HB⟩ := hcut
  cases kq with
  | zero => exact absurd HA.out (by simp [impl_PutField.j0])
  | succ kj3 =>
   have H := HA.out
   clear HA
   simp only [impl_PutField.j0] at H
   by_cases c17 : x26_3 = true
   ·subst c17
    have H1 : (some (([] : List (S52)), false)) = some (r1, r2) := by rw [if_pos rfl] at H; exact H
    clear H
    have H := H1
    clear H1
    simp only [Option.some.injEq, Prod.mk.injEq] at H
    obtain ⟨rfl, rfl⟩ := H
    go_wp2
    go_ret2
    exact ⟨_, by first | rfl | (simp [errW_none, errW_some] <;> rfl) | (simp [*, errW_none, errW_some] <;> rfl), by first | exact Kd.R_nil _ _ _ _ _ | exact Kd.N_nil _ _ _ _ _ | exact Kd.V_nil _ _ _ _ _ | exact Kd.Q_nil _ _ _ _ _ | exact Kd.S_nil _ _ _ _ _, hb_ HB⟩
   ·replace c17 := Bool.eq_false_iff.mpr c17
    subst c17
    have H1 : (impl_PutField.l0 kj3 a1 l2 (([] : List (S52))) l0 (l0.length : Int) 0) = some (r1, r2) := by rw [if_neg (show ¬ (false = true) by decide)] at H; exact H
    clear H
    have H := H1
    clear H1
    obtain ⟨y558, hy558⟩ : ∃ y_ : List (S52), y_ = (([] : List (S52))) := ⟨_, rfl⟩
    replace H : (impl_PutField.l0 kj3 a1 l2 y558 l0 (l0.length : Int) 0) = some (r1, r2) := by first | (rw [hy558]; with_reducible exact H) | (have H2_ := (Option.bind_some _ _).symm.trans H; rw [hy558]; with_reducible exact H2_) | (have H2_ := (Option.bind_some _ _).symm.trans H; with_reducible exact H2_) | with_reducible exact H | (rw [hy558]; exact H) | exact H
    have Ny558 := Aside0.mk hy558
    clear hy558
    have H' := Aside0.mk H
    clear H
    go_wp2_with (first | ((with_reducible refine gate_dst (N := 27) rfl ?_); refine Kd.R_lit k52 _ 52 ?hg (N := 27) ?hd (xs := ([] : List (S52))) (inner := []) (ok := fun _ => True) (okp := fun _ => True) ?hr ?hp (fun _ hk => hk) trivial (Below.refl _ _) (Nat.le_refl _) (by simp) ?_; (case hd => rfl); (case hg => rfl); (case hr => first | (go_simp; done) | (go_simp; rfl)); (case hp => exact (Reps.none _ _)); intro v559 w18 ho19 hb hg_ hnew_; clear hg_ hnew_; (first | rw [← Ny558.out] at ho19 | (simp only [Int.reduceToNat] at ho19; rw [← Ny558.out] at ho19)); have HO560 := Kd.R_lo ho19 HB; replace HB := hbs_ HB hb; clear hb ho19))
    go_loopg [8, 30] kj3 (fun kq v8 v30 w' => ∃ (x8_2 : List (S52)) (x30_2 : Int), v30 = .int .i64 x30_2 ∧ Aside0 (impl_PutField.l0 kq a1 l2 x8_2 l0 (l0.length : Int) x30_2 = some (r1, r2)) ∧ Aside0 (kq ≤ kj3) ∧ Aside0 (Kd.R k52 52 w' w.heap.size (fun _ => True) v8 x8_2) ∧ Aside0 (Below w.heap.size w w'))
    case atStart => exact ⟨(y558), (0), (by first | rfl | (simp; done) | (simp [*]; done)), H', ⟨Nat.le_refl _⟩, ⟨Kd.R_p HO560⟩, ⟨hb_ HB⟩⟩
    case round =>
     clear H'
     (try clear c1); (try clear c2); (try clear p2); (try clear c6); (try clear c8); (try clear c9); (try clear c9b0); (try clear c10); (try clear c16); (try clear c17)
     obtain ⟨x8_2, x30_2, rfl, HA, HK2, HO_8, HB⟩ := hrel
     cases gk with
     | zero => exact absurd HA.out (by simp [impl_PutField.l0])
     | succ k2 =>
      have H := HA.out
      clear HA
      simp only [impl_PutField.l0] at H
      by_cases c20 : x30_2 < (l0.length : Int)
      ·rw [if_pos c20] at H
       have c20b0 : decide (x30_2 < (l0.length : Int)) = true := decide_eq_true c20
       clear c20
       by_cases c21 : 0 ≤ x30_2
       ·rw [if_pos c21] at H
        have c21b0 : decide (0 ≤ x30_2) = true := decide_eq_true c21
        clear c21
        by_cases c22 : x30_2 < (l0.length : Int)
        ·rw [if_pos c22] at H
         have c22b0 : decide (x30_2 < (l0.length : Int)) = true := decide_eq_true c22
         clear c22
         by_cases c23 : (((rd_T52 l0 x30_2).f0) == 1 && (((rd_T52 l0 x30_2).f1) == a1)) = true
         ·rw [if_pos c23] at H
          have c23b0 : (((rd_T52 l0 x30_2).f0) == 1 && (((rd_T52 l0 x30_2).f1) == a1)) = true := c23
          (try (have c23b1 : decide (((rd_T52 l0 x30_2).f0) = 1 && (((rd_T52 l0 x30_2).f1) == a1)) = true := by simpa using c23))
          (try (have c23b2 : (((rd_T52 l0 x30_2).f0) == 1 && (((rd_T52 l0 x30_2).f1) == a1)) = true := by simpa using c23))
          clear c23
          by_cases c24 : x8_2.length + l2.length < 8796093022208
          ·rw [if_pos c24] at H
           have LMc24 := Aside0.mk c24
           clear c24
           obtain ⟨y563, hy563⟩ : ∃ y_ : List (S52), y_ = (x8_2 ++ l2) := ⟨_, rfl⟩
           replace H : (impl_PutField.l0 k2 a1 l2 y563 l0 (l0.length : Int) (wrap64 (x30_2 + 1))) = some (r1, r2) := by first | (rw [hy563]; with_reducible exact H) | (have H2_ := (Option.bind_some _ _).symm.trans H; rw [hy563]; with_reducible exact H2_) | (have H2_ := (Option.bind_some _ _).symm.trans H; with_reducible exact H2_) | with_reducible exact H | (rw [hy563]; exact H) | exact H
           have Ny563 := Aside0.mk hy563
           clear hy563
           have H' := Aside0.mk H
           clear H
           have p561 : 0 ≤ (x30_2 : Int) := of_decide_eq_true (by first | (with_reducible assumption) | assumption)
           have q561 : x30_2 < (l0.length : Int) := of_decide_eq_true (by first | (with_reducible assumption) | assumption)
           obtain ⟨ad561, e561, hx561_0, hx561_1⟩ := at_T52 HR0.out x30_2 p561 q561
           cases e561
           replace hx561_0 := (HB.out.cell (World.block_lt_of_cell? w _ hx561_0)).trans hx561_0
           replace hx561_1 := (HB.out.cell (World.block_lt_of_cell? w _ hx561_1)).trans hx561_1
           replace p561 := eq_true p561
           replace q561 := eq_true q561
           go_wp2_with (first | ((with_reducible refine gate_dst (N := 10) rfl ?_); refine box_event ?hg (N := 10) ?hd (cs := #[.int .i64 0, .int .i64 0]) (t := 52) ?hr ?_; (case hd => rfl); (case hg => rfl); (case hr => first | (go_simp; done) | (go_simp; rfl)); intro gb562 hg w25 hbox hb; have BK562 := Aside0.mk (hbox); have GW562 := gs_ hg HB; have GE562 := gs_ hg HB; replace HO_8 := Aside0.mk (Kd.R_below (Kd.R_elderB (Kd.R_p HO_8) gb562 (Nat.le_of_eq hg.symm)) hb); replace HB := hbs_ HB hb; clear hb hbox hg; obtain ⟨hcz26_0, hcz26_1, hfz26_0, hfz26_1⟩ := bx2 BK562) | ((with_reducible refine gate_builtin (b := .append) (xs := #[.tmp 38, .tmp 39]) rfl ?_); at_builtin; refine Kd.R_append_rows k52 (w0 := w) w.heap.size rfl (.tmp 38) (.tmp 39) 23 52 (.agg #[(.int .i64 0), (.int .i64 0)]) 16 rfl Try.underlying23 info52 rfl (by decide) (by omega) u8 x8_2 l2 _ _ _ (fun k_ => k_ ≠ gb562) (fun _ => False) rfl rfl ?aO ?aR (fun _ _ h => h) (fun _ h => h.elim) ?aF ?aB ?aS ?aL ?_; (case aR => exact Kd.C_below HR2.out (hb_ HB)); (case aB => exact (hb_ HB)); (case aF => exact (fun k_ hk => Kd.freshB (g := gb562) (o := .cells #[.int .i64 ((rd_T52 l0 x30_2).f0), .int .i64 ((rd_T52 l0 x30_2).f1)] 52 (0, 0)) (kpq_ (kputs BK562 [(0, _), (1, _)])) k_ hk)); (case aO => exact (Kd.R_pp (Kd.R_mono (Kd.R_far (p := ⟨gb562, 1, none⟩) (Kd.R_far (p := ⟨gb562, 0, none⟩) (Kd.R_mono HO_8.out (fun k_ hk => (⟨hk, hk.2⟩ : _ ∧ k_ ≠ gb562))) (fun _ hk => hk.2) (.int .i64 ((rd_T52 l0 x30_2).f0))) (fun _ hk => hk.2) (.int .i64 ((rd_T52 l0 x30_2).f1))) (fun _ hk => hk.1.2)))); (case aS => exact (below_size (hb_ HB))); (case aL => have := LMc24.out; omega); intro v564 w27 ho hb hg hat; rw [← Ny563.out] at ho; have HO565 := Aside0.mk (ho); replace BK562 := Aside0.mk (blk_grown (g := gb562) (o := .cells #[.int .i64 ((rd_T52 l0 x30_2).f0), .int .i64 ((rd_T52 l0 x30_2).f1)] 52 (0, 0)) (kpq_ (kputs BK562 [(0, _), (1, _)])) hg (Kd.R_away HO_8.out (fun _ hk => hk.2))); replace HB := Aside0.mk (hb); clear HO_8; clear ho hb hg hat))
           go_roundg k2
           case measure => have := HJ3.out; have := HK2.out; omega
           case rel => exact ⟨(y563), (wrap64 (x30_2 + 1)), (by first | rfl | (simp; done) | (simp [*]; done)), H', ⟨by have := HJ3.out; have := HK2.out; omega⟩, ⟨Kd.R_pp (Kd.R_mono HO565.out (fun _ hk => trivial))⟩, ⟨hb_ HB⟩⟩
          ·rw [if_neg c24] at H
           exact absurd H (by simp)
         ·rw [if_neg c23] at H
          have c23b0 : (((rd_T52 l0 x30_2).f0) == 1 && (((rd_T52 l0 x30_2).f1) == a1)) = false := by simpa using c23
          (try (have c23b1 : decide (((rd_T52 l0 x30_2).f0) = 1 && (((rd_T52 l0 x30_2).f1) == a1)) = false := by simpa using c23))
          (try (have c23b2 : (((rd_T52 l0 x30_2).f0) == 1 && (((rd_T52 l0 x30_2).f1) == a1)) = false := by simpa using c23))
          (try (have c23b3 : ¬ (((rd_T52 l0 x30_2).f0) = 1 && (((rd_T52 l0 x30_2).f1) == a1)) := by simpa using c23))
          clear c23
          by_cases c28 : x8_2.length < 8796093022208
          ·rw [if_pos c28] at H
           have LMc28 := Aside0.mk c28
           clear c28
           obtain ⟨y566, hy566⟩ : ∃ y_ : List (S52), y_ = (x8_2 ++ [(⟨(rd_T52 l0 x30_2).f0, (rd_T52 l0 x30_2).f1⟩ : S52)]) := ⟨_, rfl⟩
           replace H : (impl_PutField.l0 k2 a1 l2 y566 l0 (l0.length : Int) (wrap64 (x30_2 + 1))) = some (r1, r2) := by first | (rw [hy566]; with_reducible exact H) | (have H2_ := (Option.bind_some _ _).symm.trans H; rw [hy566]; with_reducible exact H2_) | (have H2_ := (Option.bind_some _ _).symm.trans H; with_reducible exact H2_) | with_reducible exact H | (rw [hy566]; exact H) | exact H
           have Ny566 := Aside0.mk hy566
           clear hy566
           have H' := Aside0.mk H
           clear H
           have p561 : 0 ≤ (x30_2 : Int) := of_decide_eq_true (by first | (with_reducible assumption) | assumption)
           have q561 : x30_2 < (l0.length : Int) := of_decide_eq_true (by first | (with_reducible assumption) | assumption)
           obtain ⟨ad561, e561, hx561_0, hx561_1⟩ := at_T52 HR0.out x30_2 p561 q561
           cases e561
           replace hx561_0 := (HB.out.cell (World.block_lt_of_cell? w _ hx561_0)).trans hx561_0
           replace hx561_1 := (HB.out.cell (World.block_lt_of_cell? w _ hx561_1)).trans hx561_1
           replace p561 := eq_true p561
           replace q561 := eq_true q561
           go_wp2_with (first | ((with_reducible refine gate_dst (N := 10) rfl ?_); refine box_event ?hg (N := 10) ?hd (cs := #[.int .i64 0, .int .i64 0]) (t := 52) ?hr ?_; (case hd => rfl); (case hg => rfl); (case hr => first | (go_simp; done) | (go_simp; rfl)); intro gb562 hg w29 hbox hb; have BK562 := Aside0.mk (hbox); have GW562 := gs_ hg HB; have GE562 := gs_ hg HB; replace HO_8 := Aside0.mk (Kd.R_below (Kd.R_elderB (Kd.R_p HO_8) gb562 (Nat.le_of_eq hg.symm)) hb); replace HB := hbs_ HB hb; clear hb hbox hg; obtain ⟨hcz30_0, hcz30_1, hfz30_0, hfz30_1⟩ := bx2 BK562) | ((with_reducible refine gate_builtin (b := .append) (xs := #[.tmp 41, .tmp 43]) rfl ?_); at_builtin; refine Kd.R_append k52 (w0 := w) w.heap.size rfl (.tmp 41) (.tmp 43) 23 52 (.agg #[(.int .i64 0), (.int .i64 0)]) 16 rfl Try.underlying23 info52 rfl (by decide) (by omega) u8 x8_2 (⟨(rd_T52 l0 x30_2).f0, (rd_T52 l0 x30_2).f1⟩ : S52) [.int .i64 ((rd_T52 l0 x30_2).f0), .int .i64 ((rd_T52 l0 x30_2).f1)] (fun k_ => k_ ≠ gb562) (fun _ => False) rfl (by first | (go_simp; done) | (go_simp; rfl)) ?aP (fun _ hk => hk.elim) ?aF ?aO ?aB ?aS ?aL ?_; (case aP => exact k52_mkM _ _ _ (⟨(rd_T52 l0 x30_2).f0, (rd_T52 l0 x30_2).f1⟩ : S52)); (case aB => exact (hb_ HB)); (case aF => exact (fun k_ hk => Kd.freshB (g := gb562) (o := .cells #[.int .i64 ((rd_T52 l0 x30_2).f0), .int .i64 ((rd_T52 l0 x30_2).f1)] 52 (0, 0)) (kpq_ (kputs BK562 [(0, _), (1, _)])) k_ hk)); (case aO => exact (Kd.R_pp (Kd.R_mono (Kd.R_far (p := ⟨gb562, 1, none⟩) (Kd.R_far (p := ⟨gb562, 0, none⟩) (Kd.R_mono HO_8.out (fun k_ hk => (⟨hk, hk.2⟩ : _ ∧ k_ ≠ gb562))) (fun _ hk => hk.2) (.int .i64 ((rd_T52 l0 x30_2).f0))) (fun _ hk => hk.2) (.int .i64 ((rd_T52 l0 x30_2).f1))) (fun _ hk => hk.1.2)))); (case aS => exact (below_size (hb_ HB))); (case aL => have := LMc28.out; omega); intro v567 w31 ho hb hg hat; rw [← Ny566.out] at ho; have HO568 := Aside0.mk (ho); replace BK562 := Aside0.mk (blk_grown (g := gb562) (o := .cells #[.int .i64 ((rd_T52 l0 x30_2).f0), .int .i64 ((rd_T52 l0 x30_2).f1)] 52 (0, 0)) (kpq_ (kputs BK562 [(0, _), (1, _)])) hg (Kd.R_away HO_8.out (fun _ hk => hk.2))); replace HB := Aside0.mk (hb); clear HO_8; clear ho hb hg hat))
           go_roundg k2
           case measure => have := HJ3.out; have := HK2.out; omega
           case rel => exact ⟨(y566), (wrap64 (x30_2 + 1)), (by first | rfl | (simp; done) | (simp [*]; done)), H', ⟨by have := HJ3.out; have := HK2.out; omega⟩, ⟨Kd.R_pp (Kd.R_mono HO568.out (fun _ hk => trivial))⟩, ⟨hb_ HB⟩⟩
          ·rw [if_neg c28] at H
           exact absurd H (by simp)
        ·rw [if_neg c22] at H
         exact absurd H (by simp)
       ·rw [if_neg c21] at H
        exact absurd H (by simp)
      ·rw [if_neg c20] at H
       have c20b0 : decide (x30_2 < (l0.length : Int)) = false := decide_eq_false c20
       clear c20
       replace H := Option.bind_eq_some_iff.mp H
       obtain ⟨t569, A320, H⟩ := H
       replace H : (if t569 = true then (some (x8_2, true)) else (some (([] : List (S52)), false))) = some (r1, r2) := H
       have A32 := Aside0.mk A320
       clear A320
       by_cases c33 : t569 = true
       ·subst c33
        have H1 : (some (x8_2, true)) = some (r1, r2) := by rw [if_pos rfl] at H; exact H
        clear H
        have H := H1
        clear H1
        simp only [Option.some.injEq, Prod.mk.injEq] at H
        obtain ⟨rfl, rfl⟩ := H
        obtain ⟨Ao34, co34, eo34⟩ := Kd.R_slice HO_8.out
        subst eo34
        go_wp2_with (first | ((with_reducible refine gate_callee (f := 16) rfl ?_); refine gl_ (some 47) Try.func16 #[.slice Ao34 x8_2.length co34] rfl rfl rfl ?_; (with_reducible refine (impl_isRule.calls k2 _ _ x8_2 true _ ?side1 ?side2 A32.out).mono ?_); (case side1 => exact Kd.C_o HO_8); (case side2 => exact (Kd.R_reads' HO_8.out).2.1); rintro e w35 ⟨rfl, hb⟩; refine ⟨_, rfl, ?_⟩; replace HO_8 := Kd.R_b HO_8 hb; replace HB := hbs_ HB hb; (try clear hb); (try clear hb2); (try clear hk); (try clear hi)))
        go_ret2
        exact ⟨_, by first | rfl | (simp [errW_none, errW_some] <;> rfl) | (simp [*, errW_none, errW_some] <;> rfl), Kd.R_p HO_8, hb_ HB⟩
       ·replace c33 := Bool.eq_false_iff.mpr c33
        subst c33
        have H1 : (some (([] : List (S52)), false)) = some (r1, r2) := by rw [if_neg (show ¬ (false = true) by decide)] at H; exact H
        clear H
        have H := H1
        clear H1
        simp only [Option.some.injEq, Prod.mk.injEq] at H
        obtain ⟨rfl, rfl⟩ := H
        obtain ⟨Ao36, co36, eo36⟩ := Kd.R_slice HO_8.out
        subst eo36
        go_wp2_with (first | ((with_reducible refine gate_callee (f := 16) rfl ?_); refine gl_ (some 47) Try.func16 #[.slice Ao36 x8_2.length co36] rfl rfl rfl ?_; (with_reducible refine (impl_isRule.calls k2 _ _ x8_2 false _ ?side1 ?side2 A32.out).mono ?_); (case side1 => exact Kd.C_o HO_8); (case side2 => exact (Kd.R_reads' HO_8.out).2.1); rintro e w37 ⟨rfl, hb⟩; refine ⟨_, rfl, ?_⟩; replace HO_8 := Kd.R_b HO_8 hb; replace HB := hbs_ HB hb; (try clear hb); (try clear hb2); (try clear hk); (try clear hi)))
        go_ret2
        exact ⟨_, by first | rfl | (simp [errW_none, errW_some] <;> rfl) | (simp [*, errW_none, errW_some] <;> rfl), by first | exact Kd.R_nil _ _ _ _ _ | exact Kd.N_nil _ _ _ _ _ | exact Kd.V_nil _ _ _ _ _ | exact Kd.Q_nil _ _ _ _ _ | exact Kd.S_nil _ _ _ _ _, hb_ HB⟩

/-! ### spec_PutField: function 11 -/
mutual
def spec_PutField.j0 : Nat → List (S52) → Int → List (S52) → Bool → Option ((List (S52)) × Bool)
 | 0, _, _, _, _ => none
 | k + 1, x0, x1, x2, x23 => if x23 = true then (some (([] : List (S52)), false)) else (spec_PutField.l0 k x1 x2 ([] : List (S52)) x0 (x0.length : Int) 0)
def spec_PutField.l0 : Nat → Int → List (S52) → List (S52) → List (S52) → Int → Int → Option ((List (S52)) × Bool)
 | 0, _, _, _, _, _, _ => none
 | k + 1, x1, x2, x8, x24, x25, x26 => if x26 < x25 then (if 0 ≤ x26 then (if x26 < (x24.length : Int) then (if ((rd_T52 x24 x26).f0) = 1 then (if ((rd_T52 x24 x26).f1) = x1 then (if x8.length + x2.length < 8796093022208 then (spec_PutField.l0 k x1 x2 (x8 ++ x2) x24 x25 (wrap64 (x26 + 1))) else (none)) else (if x8.length < 8796093022208 then (spec_PutField.l0 k x1 x2 (x8 ++ [(⟨(rd_T52 x24 x26).f0, (rd_T52 x24 x26).f1⟩ : S52)]) x24 x25 (wrap64 (x26 + 1))) else (none))) else (if x8.length < 8796093022208 then (spec_PutField.l0 k x1 x2 (x8 ++ [(⟨(rd_T52 x24 x26).f0, (rd_T52 x24 x26).f1⟩ : S52)]) x24 x25 (wrap64 (x26 + 1))) else (none))) else (none)) else (none)) else ((spec_ruGood.f k x8).bind fun t584 => (if t584 = true then (some (x8, true)) else (some (([] : List (S52)), false))))
end
def spec_PutField.f (k : Nat) (l0 : List (S52)) (a1 : Int) (l2 : List (S52)) : Option ((List (S52)) × Bool) := (spec_ruGood.f k l0).bind fun t570 => (if t570 = true then ((spec_ruGood.f k l2).bind fun t571 => (if t571 = true then ((spec_l1In.f a1 0 4).bind fun t572 => (spec_PutField.j0 k l0 a1 l2 (!t572))) else (spec_PutField.j0 k l0 a1 l2 true))) else (spec_PutField.j0 k l0 a1 l2 true))
set_option maxHeartbeats 8000000 in
set_option maxRecDepth 100000 in
theorem spec_PutField.calls (k : Nat) (A0 : Option Addr) (c0 : Nat) (l0 : List (S52)) (a1 : Int) (A2 : Option Addr) (c2 : Nat) (l2 : List (S52)) (r1 : List (S52)) (r2 : Bool) (w : World) (hr0 : Kd.C k52 w A0 l0.length l0) (hc0 : l0.length ≤ c0) (hr2 : Kd.C k52 w A2 l2.length l2) (hc2 : l2.length ≤ c2) (h : spec_PutField.f k l0 a1 l2 = some (r1, r2)) :
  Calls Try.prog 11 #[.slice A0 l0.length c0, .int .i64 a1, .slice A2 l2.length c2] w fun e w' => ∃ v0_ : Value, e = .returned (.tuple #[v0_, .bool r2]) ∧ Kd.R k52 52 w' w.heap.size (fun _ => True) v0_ r1 ∧ Below w.heap.size w w' := by
 have hu52 := Try.underlying52
 have HR0 := Aside0.mk hr0
 have HC0 := Aside0.mk hc0
 clear hr0 hc0
 have HR2 := Aside0.mk hr2
 have HC2 := Aside0.mk hc2
 clear hr2 hc2
 have HB := Aside0.mk (Below.refl w.heap.size w)
 have H : ((spec_ruGood.f k l0).bind fun t570 => (if t570 = true then ((spec_ruGood.f k l2).bind fun t571 => (if t571 = true then ((spec_l1In.f a1 0 4).bind fun t572 => (spec_PutField.j0 k l0 a1 l2 (!t572))) else (spec_PutField.j0 k l0 a1 l2 true))) else (spec_PutField.j0 k l0 a1 l2 true))) = some (r1, r2) := h
 clear h
 have HC4 := Aside0.mk H
 clear H
 go_enter Try.func11, Try.ntmps11
 go_upto_region 1 with (fail)
 go_cut [23] (fun v23 wc => ∃ (kq : Nat) (x23_3 : Bool), v23 = .bool x23_3 ∧ Aside0 (spec_PutField.j0 kq l0 a1 l2 x23_3 = some (r1, r2)) ∧ Aside0 (kq ≤ k) ∧ Aside0 (Below w.heap.size w wc))
 case first =>
  have H := HC4.out
  clear HC4
  replace H := Option.bind_eq_some_iff.mp H
  obtain ⟨t570, A50, H⟩ := H
  replace H : (if t570 = true then ((spec_ruGood.f k l2).bind fun t571 => (if t571 = true then ((spec_l1In.f a1 0 4).bind fun t572 => (spec_PutField.j0 k l0 a1 l2 (!t572))) else (spec_PutField.j0 k l0 a1 l2 true))) else (spec_PutField.j0 k l0 a1 l2 true)) = some (r1, r2) := H
  have A5 := Aside0.mk A50
  clear A50
  by_cases c6 : t570 = true
  ·subst c6
   have H1 : ((spec_ruGood.f k l2).bind fun t571 => (if t571 = true then ((spec_l1In.f a1 0 4).bind fun t572 => (spec_PutField.j0 k l0 a1 l2 (!t572))) else (spec_PutField.j0 k l0 a1 l2 true))) = some (r1, r2) := by rw [if_pos rfl] at H; exact H
   clear H
   have H := H1
   clear H1
   replace H := Option.bind_eq_some_iff.mp H
   obtain ⟨t571, A70, H⟩ := H
   replace H : (if t571 = true then ((spec_l1In.f a1 0 4).bind fun t572 => (spec_PutField.j0 k l0 a1 l2 (!t572))) else (spec_PutField.j0 k l0 a1 l2 true)) = some (r1, r2) := H
   have A7 := Aside0.mk A70
   clear A70
   by_cases c8 : t571 = true
   ·subst c8
    have H1 : ((spec_l1In.f a1 0 4).bind fun t572 => (spec_PutField.j0 k l0 a1 l2 (!t572))) = some (r1, r2) := by rw [if_pos rfl] at H; exact H
    clear H
    have H := H1
    clear H1
    replace H := Option.bind_eq_some_iff.mp H
    obtain ⟨t572, A90, H⟩ := H
    replace H : (spec_PutField.j0 k l0 a1 l2 (!t572)) = some (r1, r2) := H
    have A9 := Aside0.mk A90
    clear A90
    have H' := Aside0.mk H
    clear H
    go_wp2_with (first | ((with_reducible refine gate_callee (f := 18) rfl ?_); refine gl_ (some 12) Try.func18 #[.slice A0 l0.length c0] rfl rfl rfl ?_; (with_reducible refine (spec_ruGood.calls k _ _ l0 true _ ?side1 ?side2 A5.out).mono ?_); (case side1 => exact Kd.C_w HR0 HB); (case side2 => exact HC0.out); rintro e w10 ⟨rfl, hb⟩; refine ⟨_, rfl, ?_⟩; replace HB := hbs_ HB hb; (try clear hb); (try clear hb2); (try clear hk); (try clear hi)) | (go_at_call 18; (with_reducible refine (spec_ruGood.calls k _ _ l2 true _ ?side1 ?side2 A7.out).mono ?_); (case side1 => exact Kd.C_w HR2 HB); (case side2 => exact HC2.out); rintro e w11 ⟨rfl, hb⟩; have n0_ := Aside0.mk (below_step (hb_ HB) hb); clear HB; have HB := n0_; clear n0_; (try clear hb); (try clear hb2); (try clear hk); (try clear hi)) | (go_at_call 26; (with_reducible refine (spec_l1In.calls a1 0 4 t572 _ A9.out).mono ?_); rintro e w' ⟨rfl, ⟨nd, rfl⟩⟩))
    go_meet
    case rel => exact ⟨_, (!t572), (by first | rfl | (simp; done) | (simp [*]; done)), H', ⟨by first | omega | exact Nat.le_refl _⟩, ⟨hb_ HB⟩⟩
   ·replace c8 := Bool.eq_false_iff.mpr c8
    subst c8
    have H1 : (spec_PutField.j0 k l0 a1 l2 true) = some (r1, r2) := by rw [if_neg (show ¬ (false = true) by decide)] at H; exact H
    clear H
    have H := H1
    clear H1
    have H' := Aside0.mk H
    clear H
    go_wp2_with (first | ((with_reducible refine gate_callee (f := 18) rfl ?_); refine gl_ (some 12) Try.func18 #[.slice A0 l0.length c0] rfl rfl rfl ?_; (with_reducible refine (spec_ruGood.calls k _ _ l0 true _ ?side1 ?side2 A5.out).mono ?_); (case side1 => exact Kd.C_w HR0 HB); (case side2 => exact HC0.out); rintro e w12 ⟨rfl, hb⟩; refine ⟨_, rfl, ?_⟩; replace HB := hbs_ HB hb; (try clear hb); (try clear hb2); (try clear hk); (try clear hi)) | (go_at_call 18; (with_reducible refine (spec_ruGood.calls k _ _ l2 false _ ?side1 ?side2 A7.out).mono ?_); (case side1 => exact Kd.C_w HR2 HB); (case side2 => exact HC2.out); rintro e w13 ⟨rfl, hb⟩; have n0_ := Aside0.mk (below_step (hb_ HB) hb); clear HB; have HB := n0_; clear n0_; (try clear hb); (try clear hb2); (try clear hk); (try clear hi)))
    go_meet
    case rel => exact ⟨_, (true), (by first | rfl | (simp; done) | (simp [*]; done)), H', ⟨by first | omega | exact Nat.le_refl _⟩, ⟨hb_ HB⟩⟩
  ·replace c6 := Bool.eq_false_iff.mpr c6
   subst c6
   have H1 : (spec_PutField.j0 k l0 a1 l2 true) = some (r1, r2) := by rw [if_neg (show ¬ (false = true) by decide)] at H; exact H
   clear H
   have H := H1
   clear H1
   have H' := Aside0.mk H
   clear H
   go_wp2_with (first | ((with_reducible refine gate_callee (f := 18) rfl ?_); refine gl_ (some 12) Try.func18 #[.slice A0 l0.length c0] rfl rfl rfl ?_; (with_reducible refine (spec_ruGood.calls k _ _ l0 false _ ?side1 ?side2 A5.out).mono ?_); (case side1 => exact Kd.C_w HR0 HB); (case side2 => exact HC0.out); rintro e w14 ⟨rfl, hb⟩; refine ⟨_, rfl, ?_⟩; replace HB := hbs_ HB hb; (try clear hb); (try clear hb2); (try clear hk); (try clear hi)))
   go_meet
   case rel => exact ⟨_, (true), (by first | rfl | (simp; done) | (simp [*]; done)), H', ⟨by first | omega | exact Nat.le_refl _⟩, ⟨hb_ HB⟩⟩
 case rest =>
  clear HC4
  (try clear c1); (try clear c2); (try clear p2); (try clear c6); (try clear c8); (try clear c11)
  obtain ⟨kq, x23_3, rfl, HA, HJ3, HB⟩ := hcut
  cases kq with
  | zero => exact absurd HA.out (by simp [spec_PutField.j0])
  | succ kj3 =>
   have H := HA.out
   clear HA
   simp only [spec_PutField.j0] at H
   by_cases c15 : x23_3 = true
   ·subst c15
    have H1 : (some (([] : List (S52)), false)) = some (r1, r2) := by rw [if_pos rfl] at H; exact H
    clear H
    have H := H1
    clear H1
    simp only [Option.some.injEq, Prod.mk.injEq] at H
    obtain ⟨rfl, rfl⟩ := H
    go_wp2
    go_ret2
    exact ⟨_, by first | rfl | (simp [errW_none, errW_some] <;> rfl) | (simp [*, errW_none, errW_some] <;> rfl), by first | exact Kd.R_nil _ _ _ _ _ | exact Kd.N_nil _ _ _ _ _ | exact Kd.V_nil _ _ _ _ _ | exact Kd.Q_nil _ _ _ _ _ | exact Kd.S_nil _ _ _ _ _, hb_ HB⟩
   ·replace c15 := Bool.eq_false_iff.mpr c15
    subst c15
    have H1 : (spec_PutField.l0 kj3 a1 l2 ([] : List (S52)) l0 (l0.length : Int) 0) = some (r1, r2) := by rw [if_neg (show ¬ (false = true) by decide)] at H; exact H
    clear H
    have H := H1
    clear H1
    have H' := Aside0.mk H
    clear H
    go_wp2
    go_loopg [8, 26] kj3 (fun kq v8 v26 w' => ∃ (x8_2 : List (S52)) (x26_2 : Int), v26 = .int .i64 x26_2 ∧ Aside0 (spec_PutField.l0 kq a1 l2 x8_2 l0 (l0.length : Int) x26_2 = some (r1, r2)) ∧ Aside0 (kq ≤ kj3) ∧ Aside0 (Kd.R k52 52 w' w.heap.size (fun _ => True) v8 x8_2) ∧ Aside0 (Below w.heap.size w w'))
    case atStart => exact ⟨(([] : List (S52))), (0), (by first | rfl | (simp; done) | (simp [*]; done)), H', ⟨Nat.le_refl _⟩, ⟨by first | exact Kd.R_nil _ _ _ _ _ | exact Kd.N_nil _ _ _ _ _ | exact Kd.V_nil _ _ _ _ _ | exact Kd.Q_nil _ _ _ _ _ | exact Kd.S_nil _ _ _ _ _⟩, ⟨hb_ HB⟩⟩
    case round =>
     clear H'
     (try clear c1); (try clear c2); (try clear p2); (try clear c6); (try clear c8); (try clear c11); (try clear c15)
     obtain ⟨x8_2, x26_2, rfl, HA, HK2, HO_8, HB⟩ := hrel
     cases gk with
     | zero => exact absurd HA.out (by simp [spec_PutField.l0])
     | succ k2 =>
      have H := HA.out
      clear HA
      simp only [spec_PutField.l0] at H
      by_cases c16 : x26_2 < (l0.length : Int)
      ·rw [if_pos c16] at H
       have c16b0 : decide (x26_2 < (l0.length : Int)) = true := decide_eq_true c16
       clear c16
       by_cases c17 : 0 ≤ x26_2
       ·rw [if_pos c17] at H
        have c17b0 : decide (0 ≤ x26_2) = true := decide_eq_true c17
        clear c17
        by_cases c18 : x26_2 < (l0.length : Int)
        ·rw [if_pos c18] at H
         have c18b0 : decide (x26_2 < (l0.length : Int)) = true := decide_eq_true c18
         clear c18
         by_cases c19 : ((rd_T52 l0 x26_2).f0) = 1
         ·rw [if_pos c19] at H
          have c19b0 : (((rd_T52 l0 x26_2).f0) == 1) = true := beq_iff_eq.mpr c19
          have c19b1 : (((rd_T52 l0 x26_2).f0) != 1) = false := bne_eq_false_iff_eq.mpr c19
          clear c19
          by_cases c20 : ((rd_T52 l0 x26_2).f1) = a1
          ·rw [if_pos c20] at H
           have c20b0 : (((rd_T52 l0 x26_2).f1) == a1) = true := beq_iff_eq.mpr c20
           have c20b1 : (((rd_T52 l0 x26_2).f1) != a1) = false := bne_eq_false_iff_eq.mpr c20
           clear c20
           by_cases c21 : x8_2.length + l2.length < 8796093022208
           ·rw [if_pos c21] at H
            have LMc21 := Aside0.mk c21
            clear c21
            obtain ⟨y575, hy575⟩ : ∃ y_ : List (S52), y_ = (x8_2 ++ l2) := ⟨_, rfl⟩
            replace H : (spec_PutField.l0 k2 a1 l2 y575 l0 (l0.length : Int) (wrap64 (x26_2 + 1))) = some (r1, r2) := by first | (rw [hy575]; with_reducible exact H) | (have H2_ := (Option.bind_some _ _).symm.trans H; rw [hy575]; with_reducible exact H2_) | (have H2_ := (Option.bind_some _ _).symm.trans H; with_reducible exact H2_) | with_reducible exact H | (rw [hy575]; exact H) | exact H
            have Ny575 := Aside0.mk hy575
            clear hy575
            have H' := Aside0.mk H
            clear H
            have p573 : 0 ≤ (x26_2 : Int) := of_decide_eq_true (by first | (with_reducible assumption) | assumption)
            have q573 : x26_2 < (l0.length : Int) := of_decide_eq_true (by first | (with_reducible assumption) | assumption)
            obtain ⟨ad573, e573, hx573_0, hx573_1⟩ := at_T52 HR0.out x26_2 p573 q573
            cases e573
            replace hx573_0 := (HB.out.cell (World.block_lt_of_cell? w _ hx573_0)).trans hx573_0
            replace hx573_1 := (HB.out.cell (World.block_lt_of_cell? w _ hx573_1)).trans hx573_1
            replace p573 := eq_true p573
            replace q573 := eq_true q573
            go_wp2_with (first | ((with_reducible refine gate_dst (N := 10) rfl ?_); refine box_event ?hg (N := 10) ?hd (cs := #[.int .i64 0, .int .i64 0]) (t := 52) ?hr ?_; (case hd => rfl); (case hg => rfl); (case hr => first | (go_simp; done) | (go_simp; rfl)); intro gb574 hg w22 hbox hb; have BK574 := Aside0.mk (hbox); have GW574 := gs_ hg HB; have GE574 := gs_ hg HB; replace HO_8 := Aside0.mk (Kd.R_below (Kd.R_elderB (Kd.R_p HO_8) gb574 (Nat.le_of_eq hg.symm)) hb); replace HB := hbs_ HB hb; clear hb hbox hg; obtain ⟨hcz23_0, hcz23_1, hfz23_0, hfz23_1⟩ := bx2 BK574) | ((with_reducible refine gate_builtin (b := .append) (xs := #[.tmp 39, .tmp 40]) rfl ?_); at_builtin; refine Kd.R_append_rows k52 (w0 := w) w.heap.size rfl (.tmp 39) (.tmp 40) 23 52 (.agg #[(.int .i64 0), (.int .i64 0)]) 16 rfl Try.underlying23 info52 rfl (by decide) (by omega) u8 x8_2 l2 _ _ _ (fun k_ => k_ ≠ gb574) (fun _ => False) rfl rfl ?aO ?aR (fun _ _ h => h) (fun _ h => h.elim) ?aF ?aB ?aS ?aL ?_; (case aR => exact Kd.C_below HR2.out (hb_ HB)); (case aB => exact (hb_ HB)); (case aF => exact (fun k_ hk => Kd.freshB (g := gb574) (o := .cells #[.int .i64 ((rd_T52 l0 x26_2).f0), .int .i64 ((rd_T52 l0 x26_2).f1)] 52 (0, 0)) (kpq_ (kputs BK574 [(0, _), (1, _)])) k_ hk)); (case aO => exact (Kd.R_pp (Kd.R_mono (Kd.R_far (p := ⟨gb574, 1, none⟩) (Kd.R_far (p := ⟨gb574, 0, none⟩) (Kd.R_mono HO_8.out (fun k_ hk => (⟨hk, hk.2⟩ : _ ∧ k_ ≠ gb574))) (fun _ hk => hk.2) (.int .i64 ((rd_T52 l0 x26_2).f0))) (fun _ hk => hk.2) (.int .i64 ((rd_T52 l0 x26_2).f1))) (fun _ hk => hk.1.2)))); (case aS => exact (below_size (hb_ HB))); (case aL => have := LMc21.out; omega); intro v576 w24 ho hb hg hat; rw [← Ny575.out] at ho; have HO577 := Aside0.mk (ho); replace BK574 := Aside0.mk (blk_grown (g := gb574) (o := .cells #[.int .i64 ((rd_T52 l0 x26_2).f0), .int .i64 ((rd_T52 l0 x26_2).f1)] 52 (0, 0)) (kpq_ (kputs BK574 [(0, _), (1, _)])) hg (Kd.R_away HO_8.out (fun _ hk => hk.2))); replace HB := Aside0.mk (hb); clear HO_8; clear ho hb hg hat))
            go_roundg k2
            case measure => have := HJ3.out; have := HK2.out; omega
            case rel => exact ⟨(y575), (wrap64 (x26_2 + 1)), (by first | rfl | (simp; done) | (simp [*]; done)), H', ⟨by have := HJ3.out; have := HK2.out; omega⟩, ⟨Kd.R_pp (Kd.R_mono HO577.out (fun _ hk => trivial))⟩, ⟨hb_ HB⟩⟩
           ·rw [if_neg c21] at H
            exact absurd H (by simp)
          ·rw [if_neg c20] at H
           have c20b0 : (((rd_T52 l0 x26_2).f1) == a1) = false := beq_eq_false_iff_ne.mpr c20
           have c20b1 : (((rd_T52 l0 x26_2).f1) != a1) = true := bne_iff_ne.mpr c20
           by_cases c25 : x8_2.length < 8796093022208
           ·rw [if_pos c25] at H
            have LMc25 := Aside0.mk c25
            clear c25
            obtain ⟨y578, hy578⟩ : ∃ y_ : List (S52), y_ = (x8_2 ++ [(⟨(rd_T52 l0 x26_2).f0, (rd_T52 l0 x26_2).f1⟩ : S52)]) := ⟨_, rfl⟩
            replace H : (spec_PutField.l0 k2 a1 l2 y578 l0 (l0.length : Int) (wrap64 (x26_2 + 1))) = some (r1, r2) := by first | (rw [hy578]; with_reducible exact H) | (have H2_ := (Option.bind_some _ _).symm.trans H; rw [hy578]; with_reducible exact H2_) | (have H2_ := (Option.bind_some _ _).symm.trans H; with_reducible exact H2_) | with_reducible exact H | (rw [hy578]; exact H) | exact H
            have Ny578 := Aside0.mk hy578
            clear hy578
            have H' := Aside0.mk H
            clear H
            have p573 : 0 ≤ (x26_2 : Int) := of_decide_eq_true (by first | (with_reducible assumption) | assumption)
            have q573 : x26_2 < (l0.length : Int) := of_decide_eq_true (by first | (with_reducible assumption) | assumption)
            obtain ⟨ad573, e573, hx573_0, hx573_1⟩ := at_T52 HR0.out x26_2 p573 q573
            cases e573
            replace hx573_0 := (HB.out.cell (World.block_lt_of_cell? w _ hx573_0)).trans hx573_0
            replace hx573_1 := (HB.out.cell (World.block_lt_of_cell? w _ hx573_1)).trans hx573_1
            replace p573 := eq_true p573
            replace q573 := eq_true q573
            go_wp2_with (first | ((with_reducible refine gate_dst (N := 10) rfl ?_); refine box_event ?hg (N := 10) ?hd (cs := #[.int .i64 0, .int .i64 0]) (t := 52) ?hr ?_; (case hd => rfl); (case hg => rfl); (case hr => first | (go_simp; done) | (go_simp; rfl)); intro gb574 hg w26 hbox hb; have BK574 := Aside0.mk (hbox); have GW574 := gs_ hg HB; have GE574 := gs_ hg HB; replace HO_8 := Aside0.mk (Kd.R_below (Kd.R_elderB (Kd.R_p HO_8) gb574 (Nat.le_of_eq hg.symm)) hb); replace HB := hbs_ HB hb; clear hb hbox hg; obtain ⟨hcz27_0, hcz27_1, hfz27_0, hfz27_1⟩ := bx2 BK574) | ((with_reducible refine gate_builtin (b := .append) (xs := #[.tmp 42, .tmp 44]) rfl ?_); at_builtin; refine Kd.R_append k52 (w0 := w) w.heap.size rfl (.tmp 42) (.tmp 44) 23 52 (.agg #[(.int .i64 0), (.int .i64 0)]) 16 rfl Try.underlying23 info52 rfl (by decide) (by omega) u8 x8_2 (⟨(rd_T52 l0 x26_2).f0, (rd_T52 l0 x26_2).f1⟩ : S52) [.int .i64 ((rd_T52 l0 x26_2).f0), .int .i64 ((rd_T52 l0 x26_2).f1)] (fun k_ => k_ ≠ gb574) (fun _ => False) rfl (by first | (go_simp; done) | (go_simp; rfl)) ?aP (fun _ hk => hk.elim) ?aF ?aO ?aB ?aS ?aL ?_; (case aP => exact k52_mkM _ _ _ (⟨(rd_T52 l0 x26_2).f0, (rd_T52 l0 x26_2).f1⟩ : S52)); (case aB => exact (hb_ HB)); (case aF => exact (fun k_ hk => Kd.freshB (g := gb574) (o := .cells #[.int .i64 ((rd_T52 l0 x26_2).f0), .int .i64 ((rd_T52 l0 x26_2).f1)] 52 (0, 0)) (kpq_ (kputs BK574 [(0, _), (1, _)])) k_ hk)); (case aO => exact (Kd.R_pp (Kd.R_mono (Kd.R_far (p := ⟨gb574, 1, none⟩) (Kd.R_far (p := ⟨gb574, 0, none⟩) (Kd.R_mono HO_8.out (fun k_ hk => (⟨hk, hk.2⟩ : _ ∧ k_ ≠ gb574))) (fun _ hk => hk.2) (.int .i64 ((rd_T52 l0 x26_2).f0))) (fun _ hk => hk.2) (.int .i64 ((rd_T52 l0 x26_2).f1))) (fun _ hk => hk.1.2)))); (case aS => exact (below_size (hb_ HB))); (case aL => have := LMc25.out; omega); intro v579 w28 ho hb hg hat; rw [← Ny578.out] at ho; have HO580 := Aside0.mk (ho); replace BK574 := Aside0.mk (blk_grown (g := gb574) (o := .cells #[.int .i64 ((rd_T52 l0 x26_2).f0), .int .i64 ((rd_T52 l0 x26_2).f1)] 52 (0, 0)) (kpq_ (kputs BK574 [(0, _), (1, _)])) hg (Kd.R_away HO_8.out (fun _ hk => hk.2))); replace HB := Aside0.mk (hb); clear HO_8; clear ho hb hg hat))
            go_roundg k2
            case measure => have := HJ3.out; have := HK2.out; omega
            case rel => exact ⟨(y578), (wrap64 (x26_2 + 1)), (by first | rfl | (simp; done) | (simp [*]; done)), H', ⟨by have := HJ3.out; have := HK2.out; omega⟩, ⟨Kd.R_pp (Kd.R_mono HO580.out (fun _ hk => trivial))⟩, ⟨hb_ HB⟩⟩
           ·rw [if_neg c25] at H
            exact absurd H (by simp)
         ·rw [if_neg c19] at H
          have c19b0 : (((rd_T52 l0 x26_2).f0) == 1) = false := beq_eq_false_iff_ne.mpr c19
          have c19b1 : (((rd_T52 l0 x26_2).f0) != 1) = true := bne_iff_ne.mpr c19
          by_cases c29 : x8_2.length < 8796093022208
          ·rw [if_pos c29] at H
           have LMc29 := Aside0.mk c29
           clear c29
           obtain ⟨y581, hy581⟩ : ∃ y_ : List (S52), y_ = (x8_2 ++ [(⟨(rd_T52 l0 x26_2).f0, (rd_T52 l0 x26_2).f1⟩ : S52)]) := ⟨_, rfl⟩
           replace H : (spec_PutField.l0 k2 a1 l2 y581 l0 (l0.length : Int) (wrap64 (x26_2 + 1))) = some (r1, r2) := by first | (rw [hy581]; with_reducible exact H) | (have H2_ := (Option.bind_some _ _).symm.trans H; rw [hy581]; with_reducible exact H2_) | (have H2_ := (Option.bind_some _ _).symm.trans H; with_reducible exact H2_) | with_reducible exact H | (rw [hy581]; exact H) | exact H
           have Ny581 := Aside0.mk hy581
           clear hy581
           have H' := Aside0.mk H
           clear H
           have p573 : 0 ≤ (x26_2 : Int) := of_decide_eq_true (by first | (with_reducible assumption) | assumption)
           have q573 : x26_2 < (l0.length : Int) := of_decide_eq_true (by first | (with_reducible assumption) | assumption)
           obtain ⟨ad573, e573, hx573_0, hx573_1⟩ := at_T52 HR0.out x26_2 p573 q573
           cases e573
           replace hx573_0 := (HB.out.cell (World.block_lt_of_cell? w _ hx573_0)).trans hx573_0
           replace hx573_1 := (HB.out.cell (World.block_lt_of_cell? w _ hx573_1)).trans hx573_1
           replace p573 := eq_true p573
           replace q573 := eq_true q573
           go_wp2_with (first | ((with_reducible refine gate_dst (N := 10) rfl ?_); refine box_event ?hg (N := 10) ?hd (cs := #[.int .i64 0, .int .i64 0]) (t := 52) ?hr ?_; (case hd => rfl); (case hg => rfl); (case hr => first | (go_simp; done) | (go_simp; rfl)); intro gb574 hg w30 hbox hb; have BK574 := Aside0.mk (hbox); have GW574 := gs_ hg HB; have GE574 := gs_ hg HB; replace HO_8 := Aside0.mk (Kd.R_below (Kd.R_elderB (Kd.R_p HO_8) gb574 (Nat.le_of_eq hg.symm)) hb); replace HB := hbs_ HB hb; clear hb hbox hg; obtain ⟨hcz31_0, hcz31_1, hfz31_0, hfz31_1⟩ := bx2 BK574) | ((with_reducible refine gate_builtin (b := .append) (xs := #[.tmp 42, .tmp 44]) rfl ?_); at_builtin; refine Kd.R_append k52 (w0 := w) w.heap.size rfl (.tmp 42) (.tmp 44) 23 52 (.agg #[(.int .i64 0), (.int .i64 0)]) 16 rfl Try.underlying23 info52 rfl (by decide) (by omega) u8 x8_2 (⟨(rd_T52 l0 x26_2).f0, (rd_T52 l0 x26_2).f1⟩ : S52) [.int .i64 ((rd_T52 l0 x26_2).f0), .int .i64 ((rd_T52 l0 x26_2).f1)] (fun k_ => k_ ≠ gb574) (fun _ => False) rfl (by first | (go_simp; done) | (go_simp; rfl)) ?aP (fun _ hk => hk.elim) ?aF ?aO ?aB ?aS ?aL ?_; (case aP => exact k52_mkM _ _ _ (⟨(rd_T52 l0 x26_2).f0, (rd_T52 l0 x26_2).f1⟩ : S52)); (case aB => exact (hb_ HB)); (case aF => exact (fun k_ hk => Kd.freshB (g := gb574) (o := .cells #[.int .i64 ((rd_T52 l0 x26_2).f0), .int .i64 ((rd_T52 l0 x26_2).f1)] 52 (0, 0)) (kpq_ (kputs BK574 [(0, _), (1, _)])) k_ hk)); (case aO => exact (Kd.R_pp (Kd.R_mono (Kd.R_far (p := ⟨gb574, 1, none⟩) (Kd.R_far (p := ⟨gb574, 0, none⟩) (Kd.R_mono HO_8.out (fun k_ hk => (⟨hk, hk.2⟩ : _ ∧ k_ ≠ gb574))) (fun _ hk => hk.2) (.int .i64 ((rd_T52 l0 x26_2).f0))) (fun _ hk => hk.2) (.int .i64 ((rd_T52 l0 x26_2).f1))) (fun _ hk => hk.1.2)))); (case aS => exact (below_size (hb_ HB))); (case aL => have := LMc29.out; omega); intro v582 w32 ho hb hg hat; rw [← Ny581.out] at ho; have HO583 := Aside0.mk (ho); replace BK574 := Aside0.mk (blk_grown (g := gb574) (o := .cells #[.int .i64 ((rd_T52 l0 x26_2).f0), .int .i64 ((rd_T52 l0 x26_2).f1)] 52 (0, 0)) (kpq_ (kputs BK574 [(0, _), (1, _)])) hg (Kd.R_away HO_8.out (fun _ hk => hk.2))); replace HB := Aside0.mk (hb); clear HO_8; clear ho hb hg hat))
           go_roundg k2
           case measure => have := HJ3.out; have := HK2.out; omega
           case rel => exact ⟨(y581), (wrap64 (x26_2 + 1)), (by first | rfl | (simp; done) | (simp [*]; done)), H', ⟨by have := HJ3.out; have := HK2.out; omega⟩, ⟨Kd.R_pp (Kd.R_mono HO583.out (fun _ hk => trivial))⟩, ⟨hb_ HB⟩⟩
          ·rw [if_neg c29] at H
           exact absurd H (by simp)
        ·rw [if_neg c18] at H
         exact absurd H (by simp)
       ·rw [if_neg c17] at H
        exact absurd H (by simp)
      ·rw [if_neg c16] at H
       have c16b0 : decide (x26_2 < (l0.length : Int)) = false := decide_eq_false c16
       clear c16
       replace H := Option.bind_eq_some_iff.mp H
       obtain ⟨t584, A330, H⟩ := H
       replace H : (if t584 = true then (some (x8_2, true)) else (some (([] : List (S52)), false))) = some (r1, r2) := H
       have A33 := Aside0.mk A330
       clear A330
       by_cases c34 : t584 = true
       ·subst c34
        have H1 : (some (x8_2, true)) = some (r1, r2) := by rw [if_pos rfl] at H; exact H
        clear H
        have H := H1
        clear H1
        simp only [Option.some.injEq, Prod.mk.injEq] at H
        obtain ⟨rfl, rfl⟩ := H
        obtain ⟨Ao35, co35, eo35⟩ := Kd.R_slice HO_8.out
        subst eo35
        go_wp2_with (first | ((with_reducible refine gate_callee (f := 18) rfl ?_); refine gl_ (some 48) Try.func18 #[.slice Ao35 x8_2.length co35] rfl rfl rfl ?_; (with_reducible refine (spec_ruGood.calls k2 _ _ x8_2 true _ ?side1 ?side2 A33.out).mono ?_); (case side1 => exact Kd.C_o HO_8); (case side2 => exact (Kd.R_reads' HO_8.out).2.1); rintro e w36 ⟨rfl, hb⟩; refine ⟨_, rfl, ?_⟩; replace HO_8 := Kd.R_b HO_8 hb; replace HB := hbs_ HB hb; (try clear hb); (try clear hb2); (try clear hk); (try clear hi)))
        go_ret2
        exact ⟨_, by first | rfl | (simp [errW_none, errW_some] <;> rfl) | (simp [*, errW_none, errW_some] <;> rfl), Kd.R_p HO_8, hb_ HB⟩
       ·replace c34 := Bool.eq_false_iff.mpr c34
        subst c34
        have H1 : (some (([] : List (S52)), false)) = some (r1, r2) := by rw [if_neg (show ¬ (false = true) by decide)] at H; exact H
        clear H
        have H := H1
        clear H1
        simp only [Option.some.injEq, Prod.mk.injEq] at H
        obtain ⟨rfl, rfl⟩ := H
        obtain ⟨Ao37, co37, eo37⟩ := Kd.R_slice HO_8.out
        subst eo37
        go_wp2_with (first | ((with_reducible refine gate_callee (f := 18) rfl ?_); refine gl_ (some 48) Try.func18 #[.slice Ao37 x8_2.length co37] rfl rfl rfl ?_; (with_reducible refine (spec_ruGood.calls k2 _ _ x8_2 false _ ?side1 ?side2 A33.out).mono ?_); (case side1 => exact Kd.C_o HO_8); (case side2 => exact (Kd.R_reads' HO_8.out).2.1); rintro e w38 ⟨rfl, hb⟩; refine ⟨_, rfl, ?_⟩; replace HO_8 := Kd.R_b HO_8 hb; replace HB := hbs_ HB hb; (try clear hb); (try clear hb2); (try clear hk); (try clear hi)))
        go_ret2
        exact ⟨_, by first | rfl | (simp [errW_none, errW_some] <;> rfl) | (simp [*, errW_none, errW_some] <;> rfl), by first | exact Kd.R_nil _ _ _ _ _ | exact Kd.N_nil _ _ _ _ _ | exact Kd.V_nil _ _ _ _ _ | exact Kd.Q_nil _ _ _ _ _ | exact Kd.S_nil _ _ _ _ _, hb_ HB⟩

/-! ### laws_qParts: function 12 -/
def laws_qParts.l0 : Nat → List (S52) → List (S52) → Int → Int → Option (Bool)
 | 0, _, _, _, _ => none
 | k + 1, x0, x1, x12, x13 => if x13 < x12 then (if 0 ≤ x13 then (if x13 < (x0.length : Int) then (if x13 < (x1.length : Int) then (if (!(((rd_T52 x0 x13).f0) == ((rd_T52 x1 x13).f0)) || (!(((rd_T52 x0 x13).f1) == ((rd_T52 x1 x13).f1)))) = true then (some false) else (laws_qParts.l0 k x0 x1 x12 (wrap64 (x13 + 1)))) else (none)) else (none)) else (none)) else (some true)
def laws_qParts.f (k : Nat) (l0 : List (S52)) (l1 : List (S52)) : Option (Bool) := if (l0.length : Int) = (l1.length : Int) then (laws_qParts.l0 k l0 l1 (l0.length : Int) 0) else (some false)
set_option maxHeartbeats 8000000 in
set_option maxRecDepth 100000 in
theorem laws_qParts.calls (k : Nat) (A0 : Option Addr) (c0 : Nat) (l0 : List (S52)) (A1 : Option Addr) (c1 : Nat) (l1 : List (S52)) (r : Bool) (w : World) (hr0 : Kd.C k52 w A0 l0.length l0) (hc0 : l0.length ≤ c0) (hr1 : Kd.C k52 w A1 l1.length l1) (hc1 : l1.length ≤ c1) (h : laws_qParts.f k l0 l1 = some r) :
  Calls Try.prog 12 #[.slice A0 l0.length c0, .slice A1 l1.length c1] w fun e w' => e = .returned (.bool r) ∧ Drawn0 w w' := by
 have hu52 := Try.underlying52
 have HR0 := Aside0.mk hr0
 have HC0 := Aside0.mk hc0
 clear hr0 hc0
 have HR1 := Aside0.mk hr1
 have HC1 := Aside0.mk hc1
 clear hr1 hc1
 have H : (if (l0.length : Int) = (l1.length : Int) then (laws_qParts.l0 k l0 l1 (l0.length : Int) 0) else (some false)) = some r := h
 clear h
 by_cases c3 : (l0.length : Int) = (l1.length : Int)
 ·rw [if_pos c3] at H
  have c3b0 : ((l0.length : Int) == (l1.length : Int)) = true := beq_iff_eq.mpr c3
  have c3b1 : ((l0.length : Int) != (l1.length : Int)) = false := bne_eq_false_iff_eq.mpr c3
  have c3b2 : (l0.length == l1.length) = true := by first | simpa using c3 | (simp at c3 ⊢; omega)
  clear c3
  have H' := Aside0.mk H
  clear H
  go_enter Try.func12, Try.ntmps12
  go_wp2
  repeat (go_quiet (fail); try go_wp2)
  go_loopg [13] k (fun kq v13 w' => ∃ (x13_1 : Int), v13 = .int .i64 x13_1 ∧ Aside0 (laws_qParts.l0 kq l0 l1 (l0.length : Int) x13_1 = some r) ∧ Aside0 (kq ≤ k) ∧ Drawn0 w w')
  case atStart => exact ⟨(0), (by first | rfl | (simp; done) | (simp [*]; done)), H', ⟨Nat.le_refl _⟩, by repeat (first | exact Drawn0.refl _ | apply Drawn0.step)⟩
  case round =>
   clear H'
   (try clear c1); (try clear p2); (try clear c3); (try clear c3b0); (try clear c3b1); (try clear c3b2)
   obtain ⟨x13_1, rfl, HA, HK1, ⟨m1, rfl⟩⟩ := hrel
   cases gk with
   | zero => exact absurd HA.out (by simp [laws_qParts.l0])
   | succ k1 =>
    have H := HA.out
    clear HA
    simp only [laws_qParts.l0] at H
    by_cases c4 : x13_1 < (l0.length : Int)
    ·rw [if_pos c4] at H
     have c4b0 : decide (x13_1 < (l0.length : Int)) = true := decide_eq_true c4
     clear c4
     by_cases c5 : 0 ≤ x13_1
     ·rw [if_pos c5] at H
      have c5b0 : decide (0 ≤ x13_1) = true := decide_eq_true c5
      clear c5
      by_cases c6 : x13_1 < (l0.length : Int)
      ·rw [if_pos c6] at H
       have c6b0 : decide (x13_1 < (l0.length : Int)) = true := decide_eq_true c6
       clear c6
       by_cases c7 : x13_1 < (l1.length : Int)
       ·rw [if_pos c7] at H
        have c7b0 : decide (x13_1 < (l1.length : Int)) = true := decide_eq_true c7
        clear c7
        by_cases c8 : (!(((rd_T52 l0 x13_1).f0) == ((rd_T52 l1 x13_1).f0)) || (!(((rd_T52 l0 x13_1).f1) == ((rd_T52 l1 x13_1).f1)))) = true
        ·rw [if_pos c8] at H
         have c8b0 : (!(((rd_T52 l0 x13_1).f0) == ((rd_T52 l1 x13_1).f0)) || (!(((rd_T52 l0 x13_1).f1) == ((rd_T52 l1 x13_1).f1)))) = true := c8
         clear c8
         obtain rfl := Option.some.inj H
         have p585 : 0 ≤ (x13_1 : Int) := of_decide_eq_true (by first | (with_reducible assumption) | assumption)
         have q585 : x13_1 < (l0.length : Int) := of_decide_eq_true (by first | (with_reducible assumption) | assumption)
         obtain ⟨ad585, e585, hx585_0, hx585_1⟩ := at_T52 HR0.out x13_1 p585 q585
         cases e585
         replace p585 := eq_true p585
         replace q585 := eq_true q585
         have p586 : 0 ≤ (x13_1 : Int) := of_decide_eq_true (by first | (with_reducible assumption) | assumption)
         have q586 : x13_1 < (l1.length : Int) := of_decide_eq_true (by first | (with_reducible assumption) | assumption)
         obtain ⟨ad586, e586, hx586_0, hx586_1⟩ := at_T52 HR1.out x13_1 p586 q586
         cases e586
         replace p586 := eq_true p586
         replace q586 := eq_true q586
         go_wp2
         repeat (go_quiet (fail); try go_wp2)
         go_ret
         exact ⟨by first | rfl | (simp; done) | (simp [*]; done), by repeat (first | exact Drawn0.refl _ | apply Drawn0.step)⟩
        ·rw [if_neg c8] at H
         have c8b0 : (!(((rd_T52 l0 x13_1).f0) == ((rd_T52 l1 x13_1).f0)) || (!(((rd_T52 l0 x13_1).f1) == ((rd_T52 l1 x13_1).f1)))) = false := by simpa using c8
         clear c8
         have H' := Aside0.mk H
         clear H
         have p585 : 0 ≤ (x13_1 : Int) := of_decide_eq_true (by first | (with_reducible assumption) | assumption)
         have q585 : x13_1 < (l0.length : Int) := of_decide_eq_true (by first | (with_reducible assumption) | assumption)
         obtain ⟨ad585, e585, hx585_0, hx585_1⟩ := at_T52 HR0.out x13_1 p585 q585
         cases e585
         replace p585 := eq_true p585
         replace q585 := eq_true q585
         have p586 : 0 ≤ (x13_1 : Int) := of_decide_eq_true (by first | (with_reducible assumption) | assumption)
         have q586 : x13_1 < (l1.length : Int) := of_decide_eq_true (by first | (with_reducible assumption) | assumption)
         obtain ⟨ad586, e586, hx586_0, hx586_1⟩ := at_T52 HR1.out x13_1 p586 q586
         cases e586
         replace p586 := eq_true p586
         replace q586 := eq_true q586
         go_wp2
         repeat (go_quiet (fail); try go_wp2)
         go_roundg k1
         case measure => have := HK1.out; omega
         case rel => exact ⟨(wrap64 (x13_1 + 1)), (by first | rfl | (simp; done) | (simp [*]; done)), H', ⟨by have := HK1.out; omega⟩, by repeat (first | exact Drawn0.refl _ | apply Drawn0.step)⟩
       ·rw [if_neg c7] at H
        exact absurd H (by simp)
      ·rw [if_neg c6] at H
       exact absurd H (by simp)
     ·rw [if_neg c5] at H
      exact absurd H (by simp)
    ·rw [if_neg c4] at H
     have c4b0 : decide (x13_1 < (l0.length : Int)) = false := decide_eq_false c4
     clear c4
     obtain rfl := Option.some.inj H
     go_wp2
     repeat (go_quiet (fail); try go_wp2)
     go_ret
     exact ⟨by first | rfl | (simp; done) | (simp [*]; done), by repeat (first | exact Drawn0.refl _ | apply Drawn0.step)⟩
 ·rw [if_neg c3] at H
  have c3b0 : ((l0.length : Int) == (l1.length : Int)) = false := beq_eq_false_iff_ne.mpr c3
  have c3b1 : ((l0.length : Int) != (l1.length : Int)) = true := bne_iff_ne.mpr c3
  have c3b2 : (l0.length == l1.length) = false := by first | simpa using c3 | (simp at c3 ⊢; omega)
  obtain rfl := Option.some.inj H
  go_enter Try.func12, Try.ntmps12
  go_wp2
  repeat (go_quiet (fail); try go_wp2)
  go_ret
  exact ⟨by first | rfl | (simp; done) | (simp [*]; done), by repeat (first | exact Drawn0.refl _ | apply Drawn0.step)⟩

/-! ### impl_IsRule: function 13 -/
def impl_IsRule.f (k : Nat) (l0 : List (S52)) : Option (Bool) := (impl_isRule.f k l0).bind fun t587 => (some t587)
set_option maxHeartbeats 8000000 in
set_option maxRecDepth 100000 in
theorem impl_IsRule.calls (k : Nat) (A0 : Option Addr) (c0 : Nat) (l0 : List (S52)) (r : Bool) (w : World) (hr0 : Kd.C k52 w A0 l0.length l0) (hc0 : l0.length ≤ c0) (h : impl_IsRule.f k l0 = some r) :
  Calls Try.prog 13 #[.slice A0 l0.length c0] w fun e w' => e = .returned (.bool r) ∧ Below w.heap.size w w' := by
 have HR0 := Aside0.mk hr0
 have HC0 := Aside0.mk hc0
 clear hr0 hc0
 have HB := Aside0.mk (Below.refl w.heap.size w)
 have H : ((impl_isRule.f k l0).bind fun t587 => (some t587)) = some r := h
 clear h
 replace H := Option.bind_eq_some_iff.mp H
 obtain ⟨t587, A20, H⟩ := H
 replace H : (some t587) = some r := H
 have A2 := Aside0.mk A20
 clear A20
 obtain rfl := Option.some.inj H
 go_enter Try.func13, Try.ntmps13
 go_wp2_with (first | ((with_reducible refine gate_callee (f := 16) rfl ?_); refine gl_ (some 4) Try.func16 #[.slice A0 l0.length c0] rfl rfl rfl ?_; (with_reducible refine (impl_isRule.calls k _ _ l0 t587 _ ?side1 ?side2 A2.out).mono ?_); (case side1 => repeat (first | exact HR0.out | (with_reducible refine Kd.C_alloc ?_ _) | (with_reducible refine Kd.C_drewN ?_ _) | (with_reducible refine Kd.C_drew ?_))); (case side2 => exact HC0.out); rintro e w3 ⟨rfl, hb⟩; refine ⟨_, rfl, ?_⟩; replace HB := hbs_ HB hb; (try clear hb); (try clear hb2); (try clear hk); (try clear hi)))
 go_ret
 exact ⟨by first | rfl | (simp [errW_none, errW_some] <;> rfl) | (simp [*, errW_none, errW_some] <;> rfl), hb_ HB⟩

end Go.Proofs.Ytmhalgeoaccchaa.PFnFolded
