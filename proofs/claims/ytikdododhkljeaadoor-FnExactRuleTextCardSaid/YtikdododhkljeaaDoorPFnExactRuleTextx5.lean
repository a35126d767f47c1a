-- Laid for this claim by wip/tools/print2.sh, a changed copy of the kit's print (wip/tools/patch_print.py): not by print.sh.
import Derived.Test.YtikdododhkljeaaDoorPFnExactRuleTextx0
import Derived.Test.YtikdododhkljeaaDoorPFnExactRuleTextx4
import Derived.Test.YtikdododhkljeaaDoorWSteps
import Derived.Test.YtikdododhkljeaaDoorWSqueeze
namespace Go.Proofs.YtikdododhkljeaaDoor.PFnExactRuleText
open Go.RowKit Go.Proofs.YtikdododhkljeaaDoorW.PrintWords Go.Proofs.YtikdododhkljeaaDoorW.PrintLast Go.Proofs.YtikdododhkljeaaDoorW.PrintMore
attribute [local go_sem] max2_int min2_int max_two min_two max_three min_three max_four min_four   -- for this text's walks alone
set_option linter.unusedVariables false
set_option linter.unusedSimpArgs false

/-! ### impl_ruleDepth: function 19 -/
mutual
def impl_ruleDepth.j0 : Nat → List (S33) → Bool → Option (Int × Bool)
 | 0, _, _ => none
 | k + 1, x0, x18 => if x18 = true then (some (0, false)) else (impl_ruleDepth.l0 k (([] : List Int)) x0 (x0.length : Int) 0)
def impl_ruleDepth.l0 : Nat → List Int → List (S33) → Int → Int → Option (Int × Bool)
 | 0, _, _, _, _ => none
 | k + 1, x4, x20, x21, x22 => if x22 < x21 then (if 0 ≤ x22 then (if x22 < (x20.length : Int) then ((impl_needsOf.f k ((rd_T33 x20 x22).f0)).bind fun t214 => (if t214 < 0 then (impl_ruleDepth.j2 k x4 t214 x20 x21 x22 true) else (if t214 > (x4.length : Int) then (impl_ruleDepth.j2 k x4 t214 x20 x21 x22 true) else (if ((rd_T33 x20 x22).f1) < 0 then (impl_ruleDepth.j2 k x4 t214 x20 x21 x22 true) else (if t214 > 0 then (if ((rd_T33 x20 x22).f1) = 0 then (if ((rd_T33 x20 x22).f0) = 0 then (if ((rd_T33 x20 x22).f1) > 1000000 then (impl_ruleDepth.j2 k x4 t214 x20 x21 x22 true) else (if ((rd_T33 x20 x22).f0) = 1 then (impl_ruleDepth.j2 k x4 t214 x20 x21 x22 (decide (((rd_T33 x20 x22).f1) > 4))) else (impl_ruleDepth.j2 k x4 t214 x20 x21 x22 false))) else (if ((rd_T33 x20 x22).f0) = 1 then (impl_ruleDepth.j2 k x4 t214 x20 x21 x22 (decide (((rd_T33 x20 x22).f1) > 4))) else (impl_ruleDepth.j2 k x4 t214 x20 x21 x22 false))) else (impl_ruleDepth.j2 k x4 t214 x20 x21 x22 true)) else (if ((rd_T33 x20 x22).f0) = 0 then (if ((rd_T33 x20 x22).f1) > 1000000 then (impl_ruleDepth.j2 k x4 t214 x20 x21 x22 true) else (if ((rd_T33 x20 x22).f0) = 1 then (impl_ruleDepth.j2 k x4 t214 x20 x21 x22 (decide (((rd_T33 x20 x22).f1) > 4))) else (impl_ruleDepth.j2 k x4 t214 x20 x21 x22 false))) else (if ((rd_T33 x20 x22).f0) = 1 then (impl_ruleDepth.j2 k x4 t214 x20 x21 x22 (decide (((rd_T33 x20 x22).f1) > 4))) else (impl_ruleDepth.j2 k x4 t214 x20 x21 x22 false)))))))) else (none)) else (none)) else (if 0 < (x4.length : Int) then (some (rd x4 0, ((x4.length : Int) == 1))) else (none))
def impl_ruleDepth.j2 : Nat → List Int → Int → List (S33) → Int → Int → Bool → Option (Int × Bool)
 | 0, _, _, _, _, _, _ => none
 | k + 1, x4, x7, x20, x21, x22, x70 => if x70 = true then (some (0, false)) else (if 0 ≤ (wrap64 ((x4.length : Int) - x7)) then (if (wrap64 ((x4.length : Int) - x7)) ≤ (x4.length : Int) then ((some (x4.drop ((wrap64 ((x4.length : Int) - x7)) : Int).toNat : List Int)).bind fun y215 => (impl_ruleDepth.l1 k x4 x7 0 x20 x21 x22 y215 (y215.length : Int) 0)) else (none)) else (none))
def impl_ruleDepth.l1 : Nat → List Int → Int → Int → List (S33) → Int → Int → List Int → Int → Int → Option (Int × Bool)
 | 0, _, _, _, _, _, _, _, _, _ => none
 | k + 1, x4, x7, x8, x20, x21, x22, x76, x77, x78 => if x78 < x77 then (if 0 ≤ x78 then (if x78 < (x76.length : Int) then (impl_ruleDepth.l1 k x4 x7 (mx x8 (rd x76 x78)) x20 x21 x22 x76 x77 (wrap64 (x78 + 1))) else (none)) else (none)) else (if 0 ≤ (wrap64 ((x4.length : Int) - x7)) then (if (wrap64 ((x4.length : Int) - x7)) ≤ (x4.length : Int) then ((some (x4.take ((wrap64 ((x4.length : Int) - x7)) : Int).toNat : List Int)).bind fun y220 => (if y220.length < 17592186044416 then (impl_ruleDepth.l0 k (y220 ++ [wrap64 (x8 + 1)]) x20 x21 (wrap64 (x22 + 1))) else (none))) else (none)) else (none))
end
def impl_ruleDepth.f (k : Nat) (l0 : List (S33)) : Option (Int × Bool) := if (l0.length : Int) < 1 then (impl_ruleDepth.j0 k l0 true) else (impl_ruleDepth.j0 k l0 (decide ((l0.length : Int) > 39)))
set_option maxHeartbeats 8000000 in
set_option maxRecDepth 100000 in
theorem impl_ruleDepth.calls (k : Nat) (A0 : Option Addr) (c0 : Nat) (l0 : List (S33)) (r1 : Int) (r2 : Bool) (w : World) (hr0 : Kd.C k33 w A0 l0.length l0) (hc0 : l0.length ≤ c0) (h : impl_ruleDepth.f k l0 = some (r1, r2)) :
  Calls Tryd.prog 19 #[.slice A0 l0.length c0] w fun e w' => e = .returned (.tuple #[.int .i64 r1, .bool r2]) ∧ Below w.heap.size w w' := by
 have hu33 := Tryd.underlying33
 have HR0 := Aside0.mk hr0
 have HC0 := Aside0.mk hc0
 clear hr0 hc0
 have HB := Aside0.mk (Below.refl w.heap.size w)
 have H := h
 unfold impl_ruleDepth.f at H
 clear h
 have HC2 := Aside0.mk H
 clear H
 go_enter Tryd.func19, Tryd.ntmps19
 go_upto_region 1 with (fail)
 go_cut [18] (fun v18 wc => ∃ (kq : Nat) (x18_1 : Bool), v18 = .bool x18_1 ∧ Aside0 (impl_ruleDepth.j0 kq l0 x18_1 = some (r1, r2)) ∧ Aside0 (kq ≤ k) ∧ Aside0 (Below w.heap.size w wc))
 case first =>
  have H := HC2.out
  clear HC2
  by_cases c3 : (l0.length : Int) < 1
  ·rw [if_pos c3] at H
   have c3b0 := decide_eq_true c3
   have c3b1 : decide (l0.length < 1) = true := decide_eq_true (by omega)
   clear c3
   (first | rw [c3b0] | (simp only [i64_w, i32_w]; rw [c3b0]) | skip)
   have H' := Aside0.mk H
   clear H
   go_wp2
   go_meet
   case rel => exact ⟨_, (true), (by first | rfl | (simp; done) | (simp [*]; done)), H', ⟨by first | omega | exact Nat.le_refl _⟩, ⟨hb_ HB⟩⟩
  rw [if_neg c3] at H
  have c3b0 := decide_eq_false c3
  have c3b1 : decide (l0.length < 1) = false := decide_eq_false (by omega)
  clear c3
  (first | rw [c3b0] | (simp only [i64_w, i32_w]; rw [c3b0]) | skip)
  have H' := Aside0.mk H
  clear H
  go_wp2
  go_meet
  case rel => exact ⟨_, (decide ((l0.length : Int) > 39)), (by first | rfl | (simp; done) | (simp [*]; done)), H', ⟨by first | omega | exact Nat.le_refl _⟩, ⟨hb_ HB⟩⟩
 clear HC2
 obtain ⟨kq, x18_1, rfl, HA, HJ1, HB⟩ := hcut
 cases kq with
 | zero => exact absurd HA.out (by simp [impl_ruleDepth.j0])
 | succ kj1 => ?_
 have H := HA.out
 clear HA
 simp only [impl_ruleDepth.j0] at H
 by_cases c4 : x18_1 = true
 ·subst c4
  rw [if_pos rfl] at H
  simp only [Option.some.injEq, Prod.mk.injEq] at H
  obtain ⟨rfl, rfl⟩ := H
  go_wp2
  go_ret2
  exact ad_ (hb_ HB)
 replace c4 := Bool.eq_false_iff.mpr c4
 subst c4
 rw [if_neg (show ¬ (false = true) by decide)] at H
 obtain ⟨y208, hy208⟩ : ∃ y_ : List Int, y_ = (([] : List Int)) := ⟨_, rfl⟩
 replace H : (impl_ruleDepth.l0 kj1 y208 l0 (l0.length : Int) 0) = some (r1, r2) := by first | (rw [hy208]; with_reducible exact H) | (have H2_ := (Option.bind_some _ _).symm.trans H; rw [hy208]; with_reducible exact H2_) | (have H2_ := (Option.bind_some _ _).symm.trans H; with_reducible exact H2_) | with_reducible exact H | (rw [hy208]; exact H) | exact H
 have Ny208 := Aside0.mk hy208
 clear hy208
 have H' := Aside0.mk H
 clear H
 go_wp2_with (first | ((with_reducible refine gate_dst (N := 19) rfl ?_); (try (refine gate_guard (by rfl) ?_; dsimp only)); refine Kd.R_lit (Kd.int .i64) _ 3 ?hg (N := 19) ?hd (xs := ([] : List Int)) (inner := []) (ok := fun _ => True) (okp := fun _ => True) ?hr ?hp (fun _ hk => hk) trivial (Below.refl _ _) (Nat.le_refl _) (by simp) ?_; (case hd => rfl); (case hg => rfl); (case hr => first | (go_simp; done) | (go_simp; rfl)); (case hp => exact (Reps.none _ _)); intro v209 w5 ho6 hb hg_ hnew_; clear hg_ hnew_; (first | rw [← Ny208.out] at ho6 | (simp only [Int.reduceToNat] at ho6; rw [← Ny208.out] at ho6)); have HO210 := Kd.R_lo ho6 HB; replace HB := hbs_ HB hb; clear hb ho6))
 go_loopg [4, 22] kj1 (fun kq v4 v22 w' => ∃ (x4_2 : List Int) (x22_2 : Int), v22 = .int .i64 x22_2 ∧ Aside0 (impl_ruleDepth.l0 kq x4_2 l0 (l0.length : Int) x22_2 = some (r1, r2)) ∧ Aside0 (kq ≤ kj1) ∧ Aside0 (Kd.R (Kd.int .i64) 3 w' w.heap.size (fun _ => True) v4 x4_2) ∧ Aside0 (Below w.heap.size w w'))
 case atStart => exact ⟨(y208), (0), (by first | rfl | (simp; done) | (simp [*]; done)), H', ⟨Nat.le_refl _⟩, ⟨Kd.R_p HO210⟩, ⟨hb_ HB⟩⟩
 clear H'
 obtain ⟨x4_2, x22_2, rfl, HA, HK2, HO_4, HB⟩ := hrel
 cases gk with
 | zero => exact absurd HA.out (by simp [impl_ruleDepth.l0])
 | succ k2 => ?_
 have H := HA.out
 clear HA
 simp only [impl_ruleDepth.l0] at H
 by_cases c7 : x22_2 < (l0.length : Int)
 ·rw [if_pos c7] at H
  have c7b0 := decide_eq_true c7
  clear c7
  by_cases c8 : 0 ≤ x22_2
  case neg => rw [if_neg c8] at H; exact absurd H (by simp)
  rw [if_pos c8] at H
  have c8b0 := decide_eq_true c8
  clear c8
  by_cases c9 : x22_2 < (l0.length : Int)
  case neg => rw [if_neg c9] at H; exact absurd H (by simp)
  rw [if_pos c9] at H
  have c9b0 := decide_eq_true c9
  clear c9
  replace H := Option.bind_eq_some_iff.mp H
  obtain ⟨t214, A100, H⟩ := H
  try dsimp only at H
  have A10 := Aside0.mk A100
  clear A100
  have HC11 := Aside0.mk H
  clear H
  have p212 : 0 ≤ (x22_2 : Int) := of_decide_eq_true (by first | (with_reducible assumption) | assumption)
  have q212 : x22_2 < (l0.length : Int) := of_decide_eq_true (by first | (with_reducible assumption) | assumption)
  obtain ⟨ad212, e212, hx212_0, hx212_1⟩ := at_T33 HR0.out x22_2 p212 q212
  cases e212
  replace hx212_0 := hc_ HB hx212_0
  replace hx212_1 := hc_ HB hx212_1
  replace p212 := eq_true p212
  replace q212 := eq_true q212
  go_upto_region 8 with (first | ((with_reducible refine gate_dst (N := 6) rfl ?_); (try (refine gate_guard (by rfl) ?_; dsimp only)); refine bv_ 6 (cs := #[.int .i64 0, .int .i64 0]) (t := 33) ?_; intro gb213 hg w12 hbox hb; have BK213 := Aside0.mk (hbox); have GW213 := gs_ hg HB; have GE213 := gs_ hg HB; replace HO_4 := Kd.R_b HO_4 hb; replace HB := hbs_ HB hb; clear hb hbox hg; obtain ⟨hcz13_0, hcz13_1, hfz13_0, hfz13_1⟩ := bx2 BK213) | ((with_reducible refine gate_callee (f := 29) rfl ?_); refine gl_ (some 28) Tryd.func29 #[.int .i64 ((rd_T33 l0 x22_2).f0)] rfl rfl rfl ?_; (with_reducible refine (impl_needsOf.calls k2 ((rd_T33 l0 x22_2).f0) t214 _ A10.out).mono ?_); rintro e w' ⟨rfl, ⟨nd, rfl⟩⟩; refine ⟨_, rfl, ?_⟩))
  (try simp only [Act.put, List.setIfInBounds_toArray, List.set_cons_zero, List.set_cons_succ])
  go_cut [70] (fun v70 wc => ∃ (kq : Nat) (x70_10 : Bool), v70 = .bool x70_10 ∧ Aside0 (impl_ruleDepth.j2 kq x4_2 t214 l0 (l0.length : Int) x22_2 x70_10 = some (r1, r2)) ∧ Aside0 (kq ≤ k2) ∧ Aside0 (Kd.R (Kd.int .i64) 3 wc w.heap.size (fun _ => True) u4 x4_2) ∧ Aside0 (wc.heap[gb213]? = some (.cells #[.int .i64 ((rd_T33 l0 x22_2).f0), .int .i64 ((rd_T33 l0 x22_2).f1)] 33 (0, 0))) ∧ Aside0 (Below w.heap.size w wc))
  case first =>
   have H := HC11.out
   clear HC11
   by_cases c14 : t214 < 0
   ·rw [if_pos c14] at H
    have c14b0 := decide_eq_true c14
    clear c14
    (first | rw [c14b0] | (simp only [i64_w, i32_w]; rw [c14b0]) | skip)
    have H' := Aside0.mk H
    clear H
    go_wp2
    go_meet
    case rel => exact ⟨_, (true), (by first | rfl | (simp; done) | (simp [*]; done)), H', ⟨by have := HJ1.out; have := HK2.out; first | omega | exact Nat.le_refl _⟩, ⟨Kd.R_mono (Kd.R_s HO_4 BK213) (fun _ hk => trivial)⟩, ⟨kpq_ (kputs BK213 [(0, _), (1, _)])⟩, ⟨hb_ HB⟩⟩
   rw [if_neg c14] at H
   have c14b0 := decide_eq_false c14
   clear c14
   (first | rw [c14b0] | (simp only [i64_w, i32_w]; rw [c14b0]) | skip)
   by_cases c15 : t214 > (x4_2.length : Int)
   ·rw [if_pos c15] at H
    have c15b0 : decide ((x4_2.length : Int) < t214) = true := decide_eq_true c15
    clear c15
    have H' := Aside0.mk H
    clear H
    obtain ⟨Ao16, co16, eo16⟩ := Kd.R_slice HO_4.out
    subst eo16
    go_wp2
    go_meet
    case rel => exact ⟨_, (true), (by first | rfl | (simp; done) | (simp [*]; done)), H', ⟨by have := HJ1.out; have := HK2.out; first | omega | exact Nat.le_refl _⟩, ⟨Kd.R_mono (Kd.R_s HO_4 BK213) (fun _ hk => trivial)⟩, ⟨kpq_ (kputs BK213 [(0, _), (1, _)])⟩, ⟨hb_ HB⟩⟩
   rw [if_neg c15] at H
   have c15b0 : decide ((x4_2.length : Int) < t214) = false := decide_eq_false c15
   clear c15
   by_cases c17 : ((rd_T33 l0 x22_2).f1) < 0
   ·rw [if_pos c17] at H
    have c17b0 := decide_eq_true c17
    clear c17
    have H' := Aside0.mk H
    clear H
    obtain ⟨Ao18, co18, eo18⟩ := Kd.R_slice HO_4.out
    subst eo18
    obtain ⟨hcz19_0, hcz19_1, hfz19_0, hfz19_1⟩ := bx2 BK213
    go_wp2
    go_meet
    case rel => exact ⟨_, (true), (by first | rfl | (simp; done) | (simp [*]; done)), H', ⟨by have := HJ1.out; have := HK2.out; first | omega | exact Nat.le_refl _⟩, ⟨Kd.R_mono (Kd.R_s HO_4 BK213) (fun _ hk => trivial)⟩, ⟨kpq_ (kputs BK213 [(0, _), (1, _)])⟩, ⟨hb_ HB⟩⟩
   rw [if_neg c17] at H
   have c17b0 := decide_eq_false c17
   clear c17
   by_cases c20 : t214 > 0
   ·rw [if_pos c20] at H
    have c20b0 : decide (0 < t214) = true := decide_eq_true c20
    clear c20
    by_cases c21 : ((rd_T33 l0 x22_2).f1) = 0
    ·rw [if_pos c21] at H
     have c21b0 : (((rd_T33 l0 x22_2).f1) == 0) = true := beq_iff_eq.mpr c21
     have c21b1 : (((rd_T33 l0 x22_2).f1) != 0) = false := bne_eq_false_iff_eq.mpr c21
     clear c21
     by_cases c22 : ((rd_T33 l0 x22_2).f0) = 0
     ·rw [if_pos c22] at H
      have c22b0 : (((rd_T33 l0 x22_2).f0) == 0) = true := beq_iff_eq.mpr c22
      have c22b1 : (((rd_T33 l0 x22_2).f0) != 0) = false := bne_eq_false_iff_eq.mpr c22
      clear c22
      by_cases c23 : ((rd_T33 l0 x22_2).f1) > 1000000
      ·rw [if_pos c23] at H
       have c23b0 : decide (1000000 < ((rd_T33 l0 x22_2).f1)) = true := decide_eq_true c23
       clear c23
       have H' := Aside0.mk H
       clear H
       obtain ⟨Ao24, co24, eo24⟩ := Kd.R_slice HO_4.out
       subst eo24
       obtain ⟨hcz25_0, hcz25_1, hfz25_0, hfz25_1⟩ := bx2 BK213
       go_wp2
       go_meet
       case rel => exact ⟨_, (true), (by first | rfl | (simp; done) | (simp [*]; done)), H', ⟨by have := HJ1.out; have := HK2.out; first | omega | exact Nat.le_refl _⟩, ⟨Kd.R_mono (Kd.R_s HO_4 BK213) (fun _ hk => trivial)⟩, ⟨kpq_ (kputs BK213 [(0, _), (1, _)])⟩, ⟨hb_ HB⟩⟩
      rw [if_neg c23] at H
      have c23b0 : decide (1000000 < ((rd_T33 l0 x22_2).f1)) = false := decide_eq_false c23
      clear c23
      by_cases c26 : ((rd_T33 l0 x22_2).f0) = 1
      ·rw [if_pos c26] at H
       have c26b0 : (((rd_T33 l0 x22_2).f0) == 1) = true := beq_iff_eq.mpr c26
       have c26b1 : (((rd_T33 l0 x22_2).f0) != 1) = false := bne_eq_false_iff_eq.mpr c26
       clear c26
       have H' := Aside0.mk H
       clear H
       obtain ⟨Ao27, co27, eo27⟩ := Kd.R_slice HO_4.out
       subst eo27
       obtain ⟨hcz28_0, hcz28_1, hfz28_0, hfz28_1⟩ := bx2 BK213
       go_wp2
       go_meet
       case rel => exact ⟨_, (decide (((rd_T33 l0 x22_2).f1) > 4)), (by first | rfl | (simp; done) | (simp [*]; done)), H', ⟨by have := HJ1.out; have := HK2.out; first | omega | exact Nat.le_refl _⟩, ⟨Kd.R_mono (Kd.R_s HO_4 BK213) (fun _ hk => trivial)⟩, ⟨kpq_ (kputs BK213 [(0, _), (1, _)])⟩, ⟨hb_ HB⟩⟩
      rw [if_neg c26] at H
      have c26b0 : (((rd_T33 l0 x22_2).f0) == 1) = false := beq_eq_false_iff_ne.mpr c26
      have c26b1 : (((rd_T33 l0 x22_2).f0) != 1) = true := bne_iff_ne.mpr c26
      have H' := Aside0.mk H
      clear H
      obtain ⟨Ao29, co29, eo29⟩ := Kd.R_slice HO_4.out
      subst eo29
      obtain ⟨hcz30_0, hcz30_1, hfz30_0, hfz30_1⟩ := bx2 BK213
      go_wp2
      go_meet
      case rel => exact ⟨_, (false), (by first | rfl | (simp; done) | (simp [*]; done)), H', ⟨by have := HJ1.out; have := HK2.out; first | omega | exact Nat.le_refl _⟩, ⟨Kd.R_mono (Kd.R_s HO_4 BK213) (fun _ hk => trivial)⟩, ⟨kpq_ (kputs BK213 [(0, _), (1, _)])⟩, ⟨hb_ HB⟩⟩
     rw [if_neg c22] at H
     have c22b0 : (((rd_T33 l0 x22_2).f0) == 0) = false := beq_eq_false_iff_ne.mpr c22
     have c22b1 : (((rd_T33 l0 x22_2).f0) != 0) = true := bne_iff_ne.mpr c22
     by_cases c31 : ((rd_T33 l0 x22_2).f0) = 1
     ·rw [if_pos c31] at H
      have c31b0 : (((rd_T33 l0 x22_2).f0) == 1) = true := beq_iff_eq.mpr c31
      have c31b1 : (((rd_T33 l0 x22_2).f0) != 1) = false := bne_eq_false_iff_eq.mpr c31
      clear c31
      have H' := Aside0.mk H
      clear H
      obtain ⟨Ao32, co32, eo32⟩ := Kd.R_slice HO_4.out
      subst eo32
      obtain ⟨hcz33_0, hcz33_1, hfz33_0, hfz33_1⟩ := bx2 BK213
      go_wp2
      go_meet
      case rel => exact ⟨_, (decide (((rd_T33 l0 x22_2).f1) > 4)), (by first | rfl | (simp; done) | (simp [*]; done)), H', ⟨by have := HJ1.out; have := HK2.out; first | omega | exact Nat.le_refl _⟩, ⟨Kd.R_mono (Kd.R_s HO_4 BK213) (fun _ hk => trivial)⟩, ⟨kpq_ (kputs BK213 [(0, _), (1, _)])⟩, ⟨hb_ HB⟩⟩
     rw [if_neg c31] at H
     have c31b0 : (((rd_T33 l0 x22_2).f0) == 1) = false := beq_eq_false_iff_ne.mpr c31
     have c31b1 : (((rd_T33 l0 x22_2).f0) != 1) = true := bne_iff_ne.mpr c31
     have H' := Aside0.mk H
     clear H
     obtain ⟨Ao34, co34, eo34⟩ := Kd.R_slice HO_4.out
     subst eo34
     obtain ⟨hcz35_0, hcz35_1, hfz35_0, hfz35_1⟩ := bx2 BK213
     go_wp2
     go_meet
     case rel => exact ⟨_, (false), (by first | rfl | (simp; done) | (simp [*]; done)), H', ⟨by have := HJ1.out; have := HK2.out; first | omega | exact Nat.le_refl _⟩, ⟨Kd.R_mono (Kd.R_s HO_4 BK213) (fun _ hk => trivial)⟩, ⟨kpq_ (kputs BK213 [(0, _), (1, _)])⟩, ⟨hb_ HB⟩⟩
    rw [if_neg c21] at H
    have c21b0 : (((rd_T33 l0 x22_2).f1) == 0) = false := beq_eq_false_iff_ne.mpr c21
    have c21b1 : (((rd_T33 l0 x22_2).f1) != 0) = true := bne_iff_ne.mpr c21
    have H' := Aside0.mk H
    clear H
    obtain ⟨Ao36, co36, eo36⟩ := Kd.R_slice HO_4.out
    subst eo36
    obtain ⟨hcz37_0, hcz37_1, hfz37_0, hfz37_1⟩ := bx2 BK213
    go_wp2
    go_meet
    case rel => exact ⟨_, (true), (by first | rfl | (simp; done) | (simp [*]; done)), H', ⟨by have := HJ1.out; have := HK2.out; first | omega | exact Nat.le_refl _⟩, ⟨Kd.R_mono (Kd.R_s HO_4 BK213) (fun _ hk => trivial)⟩, ⟨kpq_ (kputs BK213 [(0, _), (1, _)])⟩, ⟨hb_ HB⟩⟩
   rw [if_neg c20] at H
   have c20b0 : decide (0 < t214) = false := decide_eq_false c20
   clear c20
   by_cases c38 : ((rd_T33 l0 x22_2).f0) = 0
   ·rw [if_pos c38] at H
    have c38b0 : (((rd_T33 l0 x22_2).f0) == 0) = true := beq_iff_eq.mpr c38
    have c38b1 : (((rd_T33 l0 x22_2).f0) != 0) = false := bne_eq_false_iff_eq.mpr c38
    clear c38
    by_cases c39 : ((rd_T33 l0 x22_2).f1) > 1000000
    ·rw [if_pos c39] at H
     have c39b0 : decide (1000000 < ((rd_T33 l0 x22_2).f1)) = true := decide_eq_true c39
     clear c39
     have H' := Aside0.mk H
     clear H
     obtain ⟨Ao40, co40, eo40⟩ := Kd.R_slice HO_4.out
     subst eo40
     obtain ⟨hcz41_0, hcz41_1, hfz41_0, hfz41_1⟩ := bx2 BK213
     go_wp2
     go_meet
     case rel => exact ⟨_, (true), (by first | rfl | (simp; done) | (simp [*]; done)), H', ⟨by have := HJ1.out; have := HK2.out; first | omega | exact Nat.le_refl _⟩, ⟨Kd.R_mono (Kd.R_s HO_4 BK213) (fun _ hk => trivial)⟩, ⟨kpq_ (kputs BK213 [(0, _), (1, _)])⟩, ⟨hb_ HB⟩⟩
    rw [if_neg c39] at H
    have c39b0 : decide (1000000 < ((rd_T33 l0 x22_2).f1)) = false := decide_eq_false c39
    clear c39
    by_cases c42 : ((rd_T33 l0 x22_2).f0) = 1
    ·rw [if_pos c42] at H
     have c42b0 : (((rd_T33 l0 x22_2).f0) == 1) = true := beq_iff_eq.mpr c42
     have c42b1 : (((rd_T33 l0 x22_2).f0) != 1) = false := bne_eq_false_iff_eq.mpr c42
     clear c42
     have H' := Aside0.mk H
     clear H
     obtain ⟨Ao43, co43, eo43⟩ := Kd.R_slice HO_4.out
     subst eo43
     obtain ⟨hcz44_0, hcz44_1, hfz44_0, hfz44_1⟩ := bx2 BK213
     go_wp2
     go_meet
     case rel => exact ⟨_, (decide (((rd_T33 l0 x22_2).f1) > 4)), (by first | rfl | (simp; done) | (simp [*]; done)), H', ⟨by have := HJ1.out; have := HK2.out; first | omega | exact Nat.le_refl _⟩, ⟨Kd.R_mono (Kd.R_s HO_4 BK213) (fun _ hk => trivial)⟩, ⟨kpq_ (kputs BK213 [(0, _), (1, _)])⟩, ⟨hb_ HB⟩⟩
    rw [if_neg c42] at H
    have c42b0 : (((rd_T33 l0 x22_2).f0) == 1) = false := beq_eq_false_iff_ne.mpr c42
    have c42b1 : (((rd_T33 l0 x22_2).f0) != 1) = true := bne_iff_ne.mpr c42
    have H' := Aside0.mk H
    clear H
    obtain ⟨Ao45, co45, eo45⟩ := Kd.R_slice HO_4.out
    subst eo45
    obtain ⟨hcz46_0, hcz46_1, hfz46_0, hfz46_1⟩ := bx2 BK213
    go_wp2
    go_meet
    case rel => exact ⟨_, (false), (by first | rfl | (simp; done) | (simp [*]; done)), H', ⟨by have := HJ1.out; have := HK2.out; first | omega | exact Nat.le_refl _⟩, ⟨Kd.R_mono (Kd.R_s HO_4 BK213) (fun _ hk => trivial)⟩, ⟨kpq_ (kputs BK213 [(0, _), (1, _)])⟩, ⟨hb_ HB⟩⟩
   rw [if_neg c38] at H
   have c38b0 : (((rd_T33 l0 x22_2).f0) == 0) = false := beq_eq_false_iff_ne.mpr c38
   have c38b1 : (((rd_T33 l0 x22_2).f0) != 0) = true := bne_iff_ne.mpr c38
   by_cases c47 : ((rd_T33 l0 x22_2).f0) = 1
   ·rw [if_pos c47] at H
    have c47b0 : (((rd_T33 l0 x22_2).f0) == 1) = true := beq_iff_eq.mpr c47
    have c47b1 : (((rd_T33 l0 x22_2).f0) != 1) = false := bne_eq_false_iff_eq.mpr c47
    clear c47
    have H' := Aside0.mk H
    clear H
    obtain ⟨Ao48, co48, eo48⟩ := Kd.R_slice HO_4.out
    subst eo48
    obtain ⟨hcz49_0, hcz49_1, hfz49_0, hfz49_1⟩ := bx2 BK213
    go_wp2
    go_meet
    case rel => exact ⟨_, (decide (((rd_T33 l0 x22_2).f1) > 4)), (by first | rfl | (simp; done) | (simp [*]; done)), H', ⟨by have := HJ1.out; have := HK2.out; first | omega | exact Nat.le_refl _⟩, ⟨Kd.R_mono (Kd.R_s HO_4 BK213) (fun _ hk => trivial)⟩, ⟨kpq_ (kputs BK213 [(0, _), (1, _)])⟩, ⟨hb_ HB⟩⟩
   rw [if_neg c47] at H
   have c47b0 : (((rd_T33 l0 x22_2).f0) == 1) = false := beq_eq_false_iff_ne.mpr c47
   have c47b1 : (((rd_T33 l0 x22_2).f0) != 1) = true := bne_iff_ne.mpr c47
   have H' := Aside0.mk H
   clear H
   obtain ⟨Ao50, co50, eo50⟩ := Kd.R_slice HO_4.out
   subst eo50
   obtain ⟨hcz51_0, hcz51_1, hfz51_0, hfz51_1⟩ := bx2 BK213
   go_wp2
   go_meet
   case rel => exact ⟨_, (false), (by first | rfl | (simp; done) | (simp [*]; done)), H', ⟨by have := HJ1.out; have := HK2.out; first | omega | exact Nat.le_refl _⟩, ⟨Kd.R_mono (Kd.R_s HO_4 BK213) (fun _ hk => trivial)⟩, ⟨kpq_ (kputs BK213 [(0, _), (1, _)])⟩, ⟨hb_ HB⟩⟩
  clear HC11
  obtain ⟨kq, x70_10, rfl, HA, HJ10, HO_4, BK213, HB⟩ := hcut
  cases kq with
  | zero => exact absurd HA.out (by simp [impl_ruleDepth.j2])
  | succ kj10 => ?_
  have H := HA.out
  clear HA
  simp only [impl_ruleDepth.j2] at H
  by_cases c52 : x70_10 = true
  ·subst c52
   rw [if_pos rfl] at H
   simp only [Option.some.injEq, Prod.mk.injEq] at H
   obtain ⟨rfl, rfl⟩ := H
   go_wp2
   go_ret2
   exact ad_ (hb_ HB)
  replace c52 := Bool.eq_false_iff.mpr c52
  subst c52
  rw [if_neg (show ¬ (false = true) by decide)] at H
  obtain ⟨ji53, hji53⟩ : ∃ j_ : Int, (wrap64 ((x4_2.length : Int) - t214)) = j_ := ⟨_, rfl⟩
  replace H : (if 0 ≤ (ji53) then (if (ji53) ≤ (x4_2.length : Int) then ((some (x4_2.drop ((ji53) : Int).toNat : List Int)).bind fun y215 => (impl_ruleDepth.l1 kj10 x4_2 t214 0 l0 (l0.length : Int) x22_2 y215 (y215.length : Int) 0)) else (none)) else (none)) = some (r1, r2) := by first | (rw [hji53] at H; exact H) | (simp only [hji53] at H ⊢; exact H)
  have hji53w : (IntKind.i64.wrap ((x4_2.length : Int) - t214)) = ji53 := (i64_w _).trans hji53
  by_cases c54 : 0 ≤ (ji53)
  case neg => rw [if_neg c54] at H; exact absurd H (by simp)
  rw [if_pos c54] at H
  have c54b0 := eq_true c54
  have c54b1 := decide_eq_true c54
  clear c54
  by_cases c55 : (ji53) ≤ (x4_2.length : Int)
  case neg => rw [if_neg c55] at H; exact absurd H (by simp)
  rw [if_pos c55] at H
  have c55b0 := eq_true c55
  have c55b1 := decide_eq_true c55
  clear c55
  obtain ⟨y215, hy215⟩ : ∃ y_ : List Int, y_ = (x4_2.drop ((ji53) : Int).toNat) := ⟨_, rfl⟩
  (try with_reducible replace H := (Option.bind_some _ _).symm.trans H); (try dsimp only at H); (try rw [← hy215] at H)
  have Ny215 := Aside0.mk hy215
  clear hy215
  have H' := Aside0.mk H
  clear H
  obtain ⟨Ao56, co56, eo56⟩ := Kd.R_slice HO_4.out
  subst eo56
  have q57 : ((ji53) : Int) ≤ ((x4_2.length : Int) : Int) := of_decide_eq_true (by first | (with_reducible assumption) | assumption)
  obtain ⟨i057, hi057, _, hsz57, _⟩ := info_parts info3
  have hroom57 : x4_2.length ≤ co56 := (Kd.R_reads' HO_4.out).2.1
  have hC57 : Kd.C (Kd.int .i64) _ Ao56 x4_2.length x4_2 := (Kd.R_reads' HO_4.out).2.2
  have q057 : (0 : Int) ≤ ((ji53) : Int) := of_decide_eq_true (by first | (with_reducible assumption) | assumption)
  have hcut57 := cut_from (P := Tryd.prog) 42 3 .i64 Tryd.underlying42 hi057 1 hsz57 Ao56 x4_2.length co56 (ji53) q057 q57
  have hr57 := Kd.C_drop (m := ((ji53) : Int).toNat) (c := co56) hC57 (by omega) hroom57
  obtain ⟨A57, hA57⟩ : ∃ A1, A1 = (if co56 = ((ji53) : Int).toNat then Ao56 else (Ao56 : Option Addr).map (·.add (((ji53) : Int).toNat * 1))) := ⟨_, rfl⟩
  obtain ⟨c57, hc57⟩ : ∃ c1, c1 = co56 - ((ji53) : Int).toNat := ⟨_, rfl⟩
  have hy57 : y215.length = x4_2.length - ((ji53) : Int).toNat := (by rw [Ny215.out, List.length_drop] <;> omega)
  rw [show (x4_2).drop ((ji53) : Int).toNat = y215 from Ny215.out.symm] at hr57
  replace hr57 : Kd.C (Kd.int .i64) _ A57 y215.length y215 := (by rw [hA57]; exact hr57)
  rw [← hy57, ← hA57, ← hc57] at hcut57
  have HR218 := Aside0.mk hr57
  have HC218 := Aside0.mk (show y215.length ≤ c57 from by rw [hy57, hc57]; exact Nat.sub_le_sub_right hroom57 _)
  clear hr57 hC57 hroom57 hi057 hsz57 hc57
  have KY57 := Aside0.mk hy57
  have KA57 := Aside0.mk hA57
  clear hy57 hA57
  have KL57 := Aside0.mk (show ((ji53) : Int).toNat ≤ x4_2.length from by omega)
  replace q57 := eq_true q57
  go_wp2
  go_loopg [8, 78] kj10 (fun kq v8 v78 w' => ∃ (x8_4 : Int) (x78_4 : Int), v8 = .int .i64 x8_4 ∧ v78 = .int .i64 x78_4 ∧ Aside0 (impl_ruleDepth.l1 kq x4_2 t214 x8_4 l0 (l0.length : Int) x22_2 y215 (y215.length : Int) x78_4 = some (r1, r2)) ∧ Aside0 (kq ≤ kj10) ∧ Aside0 (Kd.R (Kd.int .i64) 3 w' w.heap.size (fun _ => True) (.slice Ao56 x4_2.length co56) x4_2) ∧ Aside0 (w'.heap[gb213]? = some (.cells #[.int .i64 ((rd_T33 l0 x22_2).f0), .int .i64 ((rd_T33 l0 x22_2).f1)] 33 (0, 0))) ∧ Aside0 (Kd.C (Kd.int .i64) w' A57 y215.length y215) ∧ Aside0 (Below w.heap.size w w'))
  case atStart => exact ⟨(0), (0), (by first | rfl | (simp; done) | (simp [*]; done)), (by first | rfl | (simp; done) | (simp [*]; done)), H', ⟨Nat.le_refl _⟩, ⟨Kd.R_p HO_4⟩, ⟨kp_ BK213⟩, ⟨by repeat (first | (with_reducible exact HR218.out) | (with_reducible refine Kd.C_alloc ?_ _) | (with_reducible refine Kd.C_drewN ?_ _) | (with_reducible refine Kd.C_drew ?_) | exact HR218.out)⟩, ⟨hb_ HB⟩⟩
  clear H'
  obtain ⟨x8_4, x78_4, rfl, rfl, HA, HK4, HO_4, BK213, HR218, HB⟩ := hrel
  cases gk with
  | zero => exact absurd HA.out (by simp [impl_ruleDepth.l1])
  | succ k4 => ?_
  have H := HA.out
  clear HA
  simp only [impl_ruleDepth.l1] at H
  by_cases c58 : x78_4 < (y215.length : Int)
  ·rw [if_pos c58] at H
   have c58b0 := decide_eq_true c58
   clear c58
   by_cases c59 : 0 ≤ x78_4
   case neg => rw [if_neg c59] at H; exact absurd H (by simp)
   rw [if_pos c59] at H
   have c59b0 := decide_eq_true c59
   clear c59
   by_cases c60 : x78_4 < (y215.length : Int)
   case neg => rw [if_neg c60] at H; exact absurd H (by simp)
   rw [if_pos c60] at H
   have c60b0 := decide_eq_true c60
   clear c60
   obtain ⟨ji61, hji61⟩ : ∃ j_ : Int, (mx x8_4 (rd y215 x78_4)) = j_ := ⟨_, rfl⟩
   replace H : (impl_ruleDepth.l1 k4 x4_2 t214 ji61 l0 (l0.length : Int) x22_2 y215 (y215.length : Int) (wrap64 (x78_4 + 1))) = some (r1, r2) := by first | (rw [hji61] at H; exact H) | (simp only [hji61] at H ⊢; exact H)
   have hji61_ : (if x8_4 < (rd y215 x78_4) then (rd y215 x78_4) else x8_4) = ji61 := hji61
   have H' := Aside0.mk H
   clear H
   have p219 : 0 ≤ (x78_4 : Int) := of_decide_eq_true (by first | (with_reducible assumption) | assumption)
   have q219 : x78_4 < (y215.length : Int) := of_decide_eq_true (by first | (with_reducible assumption) | assumption)
   obtain ⟨ad219, e219, hx219_0⟩ := Kd.at_int HR218.out x78_4 p219 q219
   cases e219
   try replace hx219_0 := hc_ HB hx219_0
   replace p219 := eq_true p219
   replace q219 := eq_true q219
   go_wp2
   go_roundg k4
   case measure => have := HJ1.out; have := HK2.out; have := HJ10.out; have := HK4.out; omega
   case rel => exact ⟨(ji61), (wrap64 (x78_4 + 1)), (by first | rfl | (simp; done) | (simp only [← hji61] <;> (first | rfl | simp)) | (simp [*]; done)), (by first | rfl | (simp; done) | (simp [*]; done)), H', ⟨by have := HJ1.out; have := HK2.out; have := HJ10.out; have := HK4.out; omega⟩, ⟨Kd.R_p HO_4⟩, ⟨kp_ BK213⟩, ⟨by repeat (first | (with_reducible exact HR218.out) | (with_reducible refine Kd.C_alloc ?_ _) | (with_reducible refine Kd.C_drewN ?_ _) | (with_reducible refine Kd.C_drew ?_) | exact HR218.out)⟩, ⟨hb_ HB⟩⟩
  rw [if_neg c58] at H
  have c58b0 := decide_eq_false c58
  clear c58
  obtain ⟨ji62, hji62⟩ : ∃ j_ : Int, (wrap64 ((x4_2.length : Int) - t214)) = j_ := ⟨_, rfl⟩
  replace H : (if 0 ≤ (ji62) then (if (ji62) ≤ (x4_2.length : Int) then ((some (x4_2.take ((ji62) : Int).toNat : List Int)).bind fun y220 => (if y220.length < 17592186044416 then (impl_ruleDepth.l0 k4 (y220 ++ [wrap64 (x8_4 + 1)]) l0 (l0.length : Int) (wrap64 (x22_2 + 1))) else (none))) else (none)) else (none)) = some (r1, r2) := by first | (rw [hji62] at H; exact H) | (simp only [hji62] at H ⊢; exact H)
  have hji62w : (IntKind.i64.wrap ((x4_2.length : Int) - t214)) = ji62 := (i64_w _).trans hji62
  have hjj_ : ji62 = ji53 := hji62.symm.trans hji53
  subst hjj_
  by_cases c63 : 0 ≤ (ji62)
  case neg => rw [if_neg c63] at H; exact absurd H (by simp)
  rw [if_pos c63] at H
  have c63b0 := eq_true c63
  have c63b1 := decide_eq_true c63
  clear c63
  by_cases c64 : (ji62) ≤ (x4_2.length : Int)
  case neg => rw [if_neg c64] at H; exact absurd H (by simp)
  rw [if_pos c64] at H
  have c64b0 := eq_true c64
  have c64b1 := decide_eq_true c64
  clear c64
  obtain ⟨y220, hy220⟩ : ∃ y_ : List Int, y_ = (x4_2.take ((ji62) : Int).toNat) := ⟨_, rfl⟩
  (try with_reducible replace H := (Option.bind_some _ _).symm.trans H); (try dsimp only at H); (try rw [← hy220] at H)
  have Ny220 := Aside0.mk hy220
  clear hy220
  by_cases c65 : y220.length < 17592186044416
  case neg => rw [if_neg c65] at H; exact absurd H (by simp)
  rw [if_pos c65] at H
  have LMc65 := Aside0.mk c65
  clear c65
  obtain ⟨y223, hy223⟩ : ∃ y_ : List Int, y_ = (y220 ++ [wrap64 (x8_4 + 1)]) := ⟨_, rfl⟩
  (try with_reducible replace H := (Option.bind_some _ _).symm.trans H); (try dsimp only at H); (try rw [← hy223] at H)
  have Ny223 := Aside0.mk hy223
  clear hy223
  have H' := Aside0.mk H
  clear H
  have q66 : ((ji62) : Int) ≤ ((x4_2.length : Int) : Int) := of_decide_eq_true (by first | (with_reducible assumption) | assumption)
  obtain ⟨i066, hi066, _, hsz66, _⟩ := info_parts info3
  have hcut66 := cut_to (P := Tryd.prog) 42 3 .i64 Tryd.underlying42 hi066 Ao56 x4_2.length co56 (ji62) (of_decide_eq_true (by first | (with_reducible assumption) | assumption)) q66 (Kd.R_reads' HO_4.out).2.1
  have hr66 := Kd.R_take (m := ((ji62) : Int).toNat) HO_4.out (by omega)
  have hy66 : y220.length = ((ji62) : Int).toNat := (by rw [Ny220.out, List.length_take]; omega)
  rw [← Ny220.out] at hr66
  rw [← hy66] at hr66 hcut66
  clear hy66 hi066 hsz66 HO_4
  have HO222 := Aside0.mk hr66
  clear hr66
  replace q66 := eq_true q66
  go_wp2_with (first | ((with_reducible refine gate_builtin (b := .append) (xs := #[.tmp 91, .tmp 94]) rfl ?_); (try (refine gate_guard (by rfl) ?_; dsimp only)); at_builtin; refine Kd.R_append (Kd.int .i64) (w0 := w) w.heap.size rfl (.tmp 91) (.tmp 94) 42 3 (.int .i64 0) 8 rfl Tryd.underlying42 info3 rfl (by decide) (by omega) (.slice Ao56 y220.length co56) y220 (wrap64 (x8_4 + 1)) [.int .i64 (wrap64 (x8_4 + 1))] (fun _ => True) (fun _ => False) rfl rfl ?aP (fun _ hk => hk.elim) ?aF ?aO ?aB ?aS ?aL ?_; (case aP => exact rfl); (case aB => exact (hb_ HB)); (case aF => exact (fun _ _ => trivial)); (case aO => exact (Kd.R_p HO222)); (case aS => exact (below_size (hb_ HB))); (case aL => have := LMc65.out; omega); intro v224 w67 ho hb hg hat; rw [← Ny223.out] at ho; have HO225 := Aside0.mk (ho); replace BK213 := Aside0.mk (blk_grown (kp_ BK213) hg (Kd.R_ne HO222.out BK213.out (by decide))); replace HB := Aside0.mk (hb); clear HO222; clear ho hb hg hat))
  go_roundg k4
  case measure => have := HJ1.out; have := HK2.out; have := HJ10.out; have := HK4.out; omega
  case rel => exact ⟨(y223), (wrap64 (x22_2 + 1)), (by first | rfl | (simp; done) | (simp [*]; done)), H', ⟨by have := HJ1.out; have := HK2.out; have := HJ10.out; have := HK4.out; omega⟩, ⟨Kd.R_p HO225⟩, ⟨hb_ HB⟩⟩
 rw [if_neg c7] at H
 have c7b0 := decide_eq_false c7
 clear c7
 by_cases c68 : 0 < (x4_2.length : Int)
 case neg => rw [if_neg c68] at H; exact absurd H (by simp)
 rw [if_pos c68] at H
 have c68b0 := decide_eq_true c68
 have c68b1 : decide (0 < x4_2.length) = true := decide_eq_true (by omega)
 clear c68
 simp only [Option.some.injEq, Prod.mk.injEq] at H
 obtain ⟨rfl, rfl⟩ := H
 obtain ⟨Ao69, co69, eo69⟩ := Kd.R_slice HO_4.out
 subst eo69
 have p211 : 0 ≤ (0 : Int) := (by omega)
 have q211 : 0 < (x4_2.length : Int) := of_decide_eq_true (by first | (with_reducible assumption) | assumption)
 obtain ⟨ad211, e211, hx211_0⟩ := Kd.at_int (Kd.R_reads' HO_4.out).2.2 0 p211 q211
 cases e211
 have qi211 : (0 < x4_2.length) = True := eq_true (by omega)
 (try rw [show ((0 : Int)).toNat = 0 from rfl] at hx211_0)
 (try rw [Addr.add_zero'] at hx211_0)
 replace p211 := eq_true p211
 replace q211 := eq_true q211
 go_wp2
 go_ret2
 exact ad_ (hb_ HB)

/-! ### impl_isRule: function 12 -/
def impl_isRule.f (k : Nat) (l0 : List (S33)) : Option (Bool) := (impl_ruleDepth.f k l0).bind fun bt226 => (if bt226.2 = true then (some (decide (bt226.1 ≤ 12))) else (some false))
set_option maxHeartbeats 8000000 in
set_option maxRecDepth 100000 in
theorem impl_isRule.calls (k : Nat) (A0 : Option Addr) (c0 : Nat) (l0 : List (S33)) (r : Bool) (w : World) (hr0 : Kd.C k33 w A0 l0.length l0) (hc0 : l0.length ≤ c0) (h : impl_isRule.f k l0 = some r) :
  Calls Tryd.prog 12 #[.slice A0 l0.length c0] w fun e w' => e = .returned (.bool r) ∧ Below w.heap.size w w' := by
 have HR0 := Aside0.mk hr0
 have HC0 := Aside0.mk hc0
 clear hr0 hc0
 have HB := Aside0.mk (Below.refl w.heap.size w)
 have H := h
 unfold impl_isRule.f at H
 clear h
 replace H := Option.bind_eq_some_iff.mp H
 obtain ⟨⟨t226, t227⟩, A20, H⟩ := H
 try dsimp only at H
 have A2 := Aside0.mk A20
 clear A20
 by_cases c3 : t227 = true
 ·subst c3
  rw [if_pos rfl] at H
  obtain rfl := Option.some.inj H
  go_enter Tryd.func12, Tryd.ntmps12
  go_wp2_with (first | ((with_reducible refine gate_callee (f := 19) rfl ?_); refine gl_ (some 7) Tryd.func19 #[.slice A0 l0.length c0] rfl rfl rfl ?_; (with_reducible refine (impl_ruleDepth.calls k _ _ l0 t226 true _ ?side1 ?side2 A2.out).mono ?_); (case side1 => repeat (first | exact HR0.out | (with_reducible refine Kd.C_alloc ?_ _) | (with_reducible refine Kd.C_drewN ?_ _) | (with_reducible refine Kd.C_drew ?_))); (case side2 => exact HC0.out); rintro e w4 ⟨rfl, hb⟩; refine ⟨_, rfl, ?_⟩; replace HB := hbs_ HB hb))
  go_ret
  exact ad_ (hb_ HB)
 replace c3 := Bool.eq_false_iff.mpr c3
 subst c3
 rw [if_neg (show ¬ (false = true) by decide)] at H
 obtain rfl := Option.some.inj H
 go_enter Tryd.func12, Tryd.ntmps12
 go_wp2_with (first | ((with_reducible refine gate_callee (f := 19) rfl ?_); refine gl_ (some 7) Tryd.func19 #[.slice A0 l0.length c0] rfl rfl rfl ?_; (with_reducible refine (impl_ruleDepth.calls k _ _ l0 t226 false _ ?side1 ?side2 A2.out).mono ?_); (case side1 => repeat (first | exact HR0.out | (with_reducible refine Kd.C_alloc ?_ _) | (with_reducible refine Kd.C_drewN ?_ _) | (with_reducible refine Kd.C_drew ?_))); (case side2 => exact HC0.out); rintro e w5 ⟨rfl, hb⟩; refine ⟨_, rfl, ?_⟩; replace HB := hbs_ HB hb))
 go_ret
 exact ad_ (hb_ HB)

end Go.Proofs.YtikdododhkljeaaDoor.PFnExactRuleText
