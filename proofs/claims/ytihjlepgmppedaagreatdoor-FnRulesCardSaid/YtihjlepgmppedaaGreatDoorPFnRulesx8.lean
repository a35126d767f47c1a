-- Laid for this claim by wip/tools/print2.sh, a changed copy of the kit's print (wip/tools/patch_print.py): not by print.sh.
import Derived.Test.YtihjlepgmppedaaGreatDoorPFnRulesx7
import Derived.Test.YtihjlepgmppedaaGreatDoorVFnRules
namespace Go.Proofs.YtihjlepgmppedaaGreatDoor.PFnRules
set_option maxHeartbeats 8000000
set_option maxRecDepth 100000
open Go.RowKit Go.Proofs.YtihjlepgmppedaaGreatDoorW.PrintWords Go.Proofs.YtihjlepgmppedaaGreatDoorW.PrintLast Go.Proofs.YtihjlepgmppedaaGreatDoorW.PrintMore
attribute [local go_sem] max2_int max_two
set_option linter.unusedVariables false
set_option linter.unusedSimpArgs false

/-! ### impl_ruleDepth: function 41 -/
mutual
def impl_ruleDepth.j0 : Nat → List (S73) → Bool → Option (Int × Bool)
 | 0, _, _ => none
 | k + 1, x0, x18 => if x18 = true then (some (0, false)) else (impl_ruleDepth.l0 k (([] : List Int)) x0 (x0.length : Int) 0)
def impl_ruleDepth.l0 : Nat → List Int → List (S73) → Int → Int → Option (Int × Bool)
 | 0, _, _, _, _ => none
 | k + 1, x4, x20, x21, x22 => if x22 < x21 then (if 0 ≤ x22 then (if x22 < (x20.length : Int) then ((impl_needsOf.f k ((rd_T73 x20 x22).f0)).bind fun t335 => (if t335 < 0 then (impl_ruleDepth.j2 k x4 t335 x20 x21 x22 true) else (if t335 > (x4.length : Int) then (impl_ruleDepth.j2 k x4 t335 x20 x21 x22 true) else (if ((rd_T73 x20 x22).f1) < 0 then (impl_ruleDepth.j2 k x4 t335 x20 x21 x22 true) else (if t335 > 0 then (if ((rd_T73 x20 x22).f1) = 0 then (if ((rd_T73 x20 x22).f0) = 0 then (if ((rd_T73 x20 x22).f1) > 1000000 then (impl_ruleDepth.j2 k x4 t335 x20 x21 x22 true) else (if ((rd_T73 x20 x22).f0) = 1 then (impl_ruleDepth.j2 k x4 t335 x20 x21 x22 (decide (((rd_T73 x20 x22).f1) > 4))) else (impl_ruleDepth.j2 k x4 t335 x20 x21 x22 false))) else (if ((rd_T73 x20 x22).f0) = 1 then (impl_ruleDepth.j2 k x4 t335 x20 x21 x22 (decide (((rd_T73 x20 x22).f1) > 4))) else (impl_ruleDepth.j2 k x4 t335 x20 x21 x22 false))) else (impl_ruleDepth.j2 k x4 t335 x20 x21 x22 true)) else (if ((rd_T73 x20 x22).f0) = 0 then (if ((rd_T73 x20 x22).f1) > 1000000 then (impl_ruleDepth.j2 k x4 t335 x20 x21 x22 true) else (if ((rd_T73 x20 x22).f0) = 1 then (impl_ruleDepth.j2 k x4 t335 x20 x21 x22 (decide (((rd_T73 x20 x22).f1) > 4))) else (impl_ruleDepth.j2 k x4 t335 x20 x21 x22 false))) else (if ((rd_T73 x20 x22).f0) = 1 then (impl_ruleDepth.j2 k x4 t335 x20 x21 x22 (decide (((rd_T73 x20 x22).f1) > 4))) else (impl_ruleDepth.j2 k x4 t335 x20 x21 x22 false)))))))) else (none)) else (none)) else (if 0 < (x4.length : Int) then (some (rd x4 0, ((x4.length : Int) == 1))) else (none))
def impl_ruleDepth.j2 : Nat → List Int → Int → List (S73) → Int → Int → Bool → Option (Int × Bool)
 | 0, _, _, _, _, _, _ => none
 | k + 1, x4, x7, x20, x21, x22, x70 => if x70 = true then (some (0, false)) else (if 0 ≤ (wrap64 ((x4.length : Int) - x7)) then (if (wrap64 ((x4.length : Int) - x7)) ≤ (x4.length : Int) then ((some (x4.drop ((wrap64 ((x4.length : Int) - x7)) : Int).toNat : List Int)).bind fun y336 => (impl_ruleDepth.l1 k x4 x7 0 x20 x21 x22 y336 (y336.length : Int) 0)) else (none)) else (none))
def impl_ruleDepth.l1 : Nat → List Int → Int → Int → List (S73) → Int → Int → List Int → Int → Int → Option (Int × Bool)
 | 0, _, _, _, _, _, _, _, _, _ => none
 | k + 1, x4, x7, x8, x20, x21, x22, x76, x77, x78 => if x78 < x77 then (if 0 ≤ x78 then (if x78 < (x76.length : Int) then (impl_ruleDepth.l1 k x4 x7 (mx x8 (rd x76 x78)) x20 x21 x22 x76 x77 (wrap64 (x78 + 1))) else (none)) else (none)) else (if 0 ≤ (wrap64 ((x4.length : Int) - x7)) then (if (wrap64 ((x4.length : Int) - x7)) ≤ (x4.length : Int) then ((some (x4.take ((wrap64 ((x4.length : Int) - x7)) : Int).toNat : List Int)).bind fun y341 => (if y341.length < 17592186044416 then (impl_ruleDepth.l0 k (y341 ++ [wrap64 (x8 + 1)]) x20 x21 (wrap64 (x22 + 1))) else (none))) else (none)) else (none))
end
def impl_ruleDepth.f (k : Nat) (l0 : List (S73)) : Option (Int × Bool) := if (l0.length : Int) < 1 then (impl_ruleDepth.j0 k l0 true) else (impl_ruleDepth.j0 k l0 (decide ((l0.length : Int) > 39)))
theorem impl_ruleDepth.calls (k : Nat) (A0 : Option Addr) (c0 : Nat) (l0 : List (S73)) (r1 : Int) (r2 : Bool) (w : World) (hr0 : Kd.C k73 w A0 l0.length l0) (hc0 : l0.length ≤ c0) (h : impl_ruleDepth.f k l0 = some (r1, r2)) :
  Calls Tryz.prog 41 #[.slice A0 l0.length c0] w fun e w' => e = .returned (.tuple #[.int .i64 r1, .bool r2]) ∧ Below w.heap.size w w' := by
 have hu73 := Tryz.underlying73
 have HR0 := am_ hr0
 have HC0 := am_ hc0
 clear hr0 hc0
 have HB := am_ (Below.refl w.heap.size w)
 have H := h
 unfold impl_ruleDepth.f at H
 clear h
 have HC2 := am_ H
 clear H
 go_enter Tryz.func41, Tryz.ntmps41
 go_upto_region 1 with (fail)
 go_cut [18] (fun v18 wc => ∃ (kq : Nat) (x18_1 : Bool), v18 = .bool x18_1 ∧ Aside0 (impl_ruleDepth.j0 kq l0 x18_1 = some (r1, r2)) ∧ Aside0 (kq ≤ k) ∧ Aside0 (Below w.heap.size w wc))
 case first =>
  have H := HC2.out
  clear HC2
  by_cases c3 : (l0.length : Int) < 1
  ·rw [if_pos c3] at H
   have c3b0 := decide_eq_true c3
   have c3b1 : decide (l0.length < 1) = true := decide_eq_true (by omega)
   clear c3
   (first | rw [c3b0] | (simp only [i64_w, i32_w]; rw [c3b0]) | skip)
   have H' := am_ H
   clear H
   go_wp2
   go_meet
   case rel => exact ⟨_, (true), sr_, H', ⟨by first | omega | exact Nat.le_refl _⟩, ⟨hb_ HB⟩⟩
  rw [if_neg c3] at H
  have c3b0 := decide_eq_false c3
  have c3b1 : decide (l0.length < 1) = false := decide_eq_false (by omega)
  clear c3
  (first | rw [c3b0] | (simp only [i64_w, i32_w]; rw [c3b0]) | skip)
  have H' := am_ H
  clear H
  go_wp2
  go_meet
  case rel => exact ⟨_, (decide ((l0.length : Int) > 39)), sr_, H', ⟨by first | omega | exact Nat.le_refl _⟩, ⟨hb_ HB⟩⟩
 clear HC2
 obtain ⟨kq, x18_1, rfl, HA, HJ1, HB⟩ := hcut
 cases kq with
 | zero => exact absurd HA.out (by simp [impl_ruleDepth.j0])
 | succ kj1 => ?_
 have H := HA.out
 clear HA
 simp only [impl_ruleDepth.j0] at H
 by_cases c4 : x18_1 = true
 ·subst c4
  rw [if_pos rfl] at H
  simp only [Option.some.injEq, Prod.mk.injEq] at H
  obtain ⟨rfl, rfl⟩ := H
  go_wp2
  go_ret2
  exact ad_ (hb_ HB)
 replace c4 := Bool.eq_false_iff.mpr c4
 subst c4
 rw [if_neg (show ¬ (false = true) by decide)] at H
 obtain ⟨y329, hy329⟩ : ∃ y_ : List Int, y_ = (([] : List Int)) := ⟨_, rfl⟩
 replace H : (impl_ruleDepth.l0 kj1 y329 l0 (l0.length : Int) 0) = some (r1, r2) := by first | (rw [hy329]; with_reducible exact H) | (have H2_ := (Option.bind_some _ _).symm.trans H; rw [hy329]; with_reducible exact H2_) | (have H2_ := (Option.bind_some _ _).symm.trans H; with_reducible exact H2_) | with_reducible exact H | (rw [hy329]; exact H) | exact H
 have Ny329 := am_ hy329
 clear hy329
 have H' := am_ H
 clear H
 go_wp2_with (first | ((with_reducible refine gate_dst (N := 19) rfl ?_); (try (refine gate_guard (by rfl) ?_; dsimp only)); refine Kd.R_lit (Kd.int .i64) _ 3 ?hg (N := 19) ?hd (xs := ([] : List Int)) (inner := []) (ok := fun _ => True) (okp := fun _ => True) ?hr ?hp (fun _ hk => hk) trivial (Below.refl _ _) (Nat.le_refl _) (by simp) ?_; (case hd => rfl); (case hg => rfl); (case hr => first | (go_simp; done) | (go_simp; rfl)); (case hp => exact (Reps.none _ _)); intro v330 w5 ho6 hb hg_ hnew_; clear hg_ hnew_; (first | rw [← Ny329.out] at ho6 | (simp only [Int.reduceToNat] at ho6; rw [← Ny329.out] at ho6)); have HO331 := Kd.R_lo ho6 HB; replace HB := hbs_ HB hb; clear hb ho6))
 go_loopg [4, 22] kj1 (fun kq v4 v22 w' => ∃ (x4_2 : List Int) (x22_2 : Int), v22 = .int .i64 x22_2 ∧ Aside0 (impl_ruleDepth.l0 kq x4_2 l0 (l0.length : Int) x22_2 = some (r1, r2)) ∧ Aside0 (kq ≤ kj1) ∧ Aside0 (Kd.R (Kd.int .i64) 3 w' w.heap.size (fun _ => True) v4 x4_2) ∧ Aside0 (Below w.heap.size w w'))
 case atStart => exact ⟨(y329), (0), sr_, H', ⟨Nat.le_refl _⟩, ⟨Kd.R_p HO331⟩, ⟨hb_ HB⟩⟩
 clear H'
 obtain ⟨x4_2, x22_2, rfl, HA, HK2, HO_4, HB⟩ := hrel
 cases gk with
 | zero => exact absurd HA.out (by simp [impl_ruleDepth.l0])
 | succ k2 => ?_
 have H := HA.out
 clear HA
 simp only [impl_ruleDepth.l0] at H
 by_cases c7 : x22_2 < (l0.length : Int)
 ·rw [if_pos c7] at H
  have c7b0 := decide_eq_true c7
  clear c7
  revert H; refine pd_ fun c8b0 H => ?_
  revert H; refine pd_ fun c9b0 H => ?_
  revert H; refine bn_ ?_; rintro t335 A10 H; try dsimp only at H
  have HC11 := am_ H
  clear H
  have p333 : 0 ≤ (x22_2 : Int) := od_
  have q333 : x22_2 < (l0.length : Int) := od_
  obtain ⟨ad333, e333, hx333_0, hx333_1⟩ := at_T73 HR0.out x22_2 p333 q333
  cases e333
  replace hx333_0 := hc_ HB hx333_0
  replace hx333_1 := hc_ HB hx333_1
  replace p333 := eq_true p333
  replace q333 := eq_true q333
  go_upto_region 8 with (first | ((with_reducible refine gate_dst (N := 6) rfl ?_); (try (refine gate_guard (by rfl) ?_; dsimp only)); refine bv_ 6 (cs := #[.int .i64 0, .int .i64 0]) (t := 73) ?_; intro gb334 hg w12 hbox hb; have BK334 := am_ (hbox); have GW334 := gs_ hg HB; have GE334 := gs_ hg HB; replace HO_4 := Kd.R_b HO_4 hb; replace HB := hbs_ HB hb; clear hb hbox hg; obtain ⟨hcz13_0, hcz13_1, hfz13_0, hfz13_1⟩ := bx2 BK334) | ((with_reducible refine gk_ 59 ?_); refine gq_ 28 Tryz.func59 #[.int .i64 ((rd_T73 l0 x22_2).f0)] ?_; (with_reducible refine (impl_needsOf.calls k2 ((rd_T73 l0 x22_2).f0) t335 _ A10.out).mono ?_); rintro e w' ⟨rfl, ⟨nd, rfl⟩⟩; refine ⟨_, rfl, ?_⟩))
  (try simp only [Act.put, List.setIfInBounds_toArray, List.set_cons_zero, List.set_cons_succ])
  go_cut [70] (fun v70 wc => ∃ (kq : Nat) (x70_10 : Bool), v70 = .bool x70_10 ∧ Aside0 (impl_ruleDepth.j2 kq x4_2 t335 l0 (l0.length : Int) x22_2 x70_10 = some (r1, r2)) ∧ Aside0 (kq ≤ k2) ∧ Aside0 (Kd.R (Kd.int .i64) 3 wc w.heap.size (fun _ => True) u4 x4_2) ∧ Aside0 (wc.heap[gb334]? = some (.cells #[.int .i64 ((rd_T73 l0 x22_2).f0), .int .i64 ((rd_T73 l0 x22_2).f1)] 73 (0, 0))) ∧ Aside0 (Below w.heap.size w wc))
  case first =>
   have H := HC11.out
   clear HC11
   by_cases c14 : t335 < 0
   ·rw [if_pos c14] at H
    have c14b0 := decide_eq_true c14
    clear c14
    (first | rw [c14b0] | (simp only [i64_w, i32_w]; rw [c14b0]) | skip)
    have H' := am_ H
    clear H
    go_wp2
    go_meet
    case rel => exact ⟨_, (true), sr_, H', ⟨by have := HJ1.out; have := HK2.out; first | omega | exact Nat.le_refl _⟩, ⟨Kd.R_mono (Kd.R_s HO_4 BK334) (fun _ hk => trivial)⟩, ⟨kpq_ (kputs BK334 [(0, _), (1, _)])⟩, ⟨hb_ HB⟩⟩
   rw [if_neg c14] at H
   have c14b0 := decide_eq_false c14
   clear c14
   (first | rw [c14b0] | (simp only [i64_w, i32_w]; rw [c14b0]) | skip)
   by_cases c15 : t335 > (x4_2.length : Int)
   ·rw [if_pos c15] at H
    have c15b0 : decide ((x4_2.length : Int) < t335) = true := decide_eq_true c15
    clear c15
    have H' := am_ H
    clear H
    obtain ⟨Ao16, co16, eo16⟩ := Kd.R_slice HO_4.out
    subst eo16
    go_wp2
    go_meet
    case rel => exact ⟨_, (true), sr_, H', ⟨by have := HJ1.out; have := HK2.out; first | omega | exact Nat.le_refl _⟩, ⟨Kd.R_mono (Kd.R_s HO_4 BK334) (fun _ hk => trivial)⟩, ⟨kpq_ (kputs BK334 [(0, _), (1, _)])⟩, ⟨hb_ HB⟩⟩
   rw [if_neg c15] at H
   have c15b0 : decide ((x4_2.length : Int) < t335) = false := decide_eq_false c15
   clear c15
   by_cases c17 : ((rd_T73 l0 x22_2).f1) < 0
   ·rw [if_pos c17] at H
    have c17b0 := decide_eq_true c17
    clear c17
    have H' := am_ H
    clear H
    obtain ⟨Ao18, co18, eo18⟩ := Kd.R_slice HO_4.out
    subst eo18
    obtain ⟨hcz19_0, hcz19_1, hfz19_0, hfz19_1⟩ := bx2 BK334
    go_wp2
    go_meet
    case rel => exact ⟨_, (true), sr_, H', ⟨by have := HJ1.out; have := HK2.out; first | omega | exact Nat.le_refl _⟩, ⟨Kd.R_mono (Kd.R_s HO_4 BK334) (fun _ hk => trivial)⟩, ⟨kpq_ (kputs BK334 [(0, _), (1, _)])⟩, ⟨hb_ HB⟩⟩
   rw [if_neg c17] at H
   have c17b0 := decide_eq_false c17
   clear c17
   by_cases c20 : t335 > 0
   ·rw [if_pos c20] at H
    have c20b0 : decide (0 < t335) = true := decide_eq_true c20
    clear c20
    by_cases c21 : ((rd_T73 l0 x22_2).f1) = 0
    ·rw [if_pos c21] at H
     have c21b0 : (((rd_T73 l0 x22_2).f1) == 0) = true := beq_iff_eq.mpr c21
     have c21b1 : (((rd_T73 l0 x22_2).f1) != 0) = false := bne_eq_false_iff_eq.mpr c21
     clear c21
     by_cases c22 : ((rd_T73 l0 x22_2).f0) = 0
     ·rw [if_pos c22] at H
      have c22b0 : (((rd_T73 l0 x22_2).f0) == 0) = true := beq_iff_eq.mpr c22
      have c22b1 : (((rd_T73 l0 x22_2).f0) != 0) = false := bne_eq_false_iff_eq.mpr c22
      clear c22
      by_cases c23 : ((rd_T73 l0 x22_2).f1) > 1000000
      ·rw [if_pos c23] at H
       have c23b0 : decide (1000000 < ((rd_T73 l0 x22_2).f1)) = true := decide_eq_true c23
       clear c23
       have H' := am_ H
       clear H
       obtain ⟨Ao24, co24, eo24⟩ := Kd.R_slice HO_4.out
       subst eo24
       obtain ⟨hcz25_0, hcz25_1, hfz25_0, hfz25_1⟩ := bx2 BK334
       go_wp2
       go_meet
       case rel => exact ⟨_, (true), sr_, H', ⟨by have := HJ1.out; have := HK2.out; first | omega | exact Nat.le_refl _⟩, ⟨Kd.R_mono (Kd.R_s HO_4 BK334) (fun _ hk => trivial)⟩, ⟨kpq_ (kputs BK334 [(0, _), (1, _)])⟩, ⟨hb_ HB⟩⟩
      rw [if_neg c23] at H
      have c23b0 : decide (1000000 < ((rd_T73 l0 x22_2).f1)) = false := decide_eq_false c23
      clear c23
      by_cases c26 : ((rd_T73 l0 x22_2).f0) = 1
      ·rw [if_pos c26] at H
       have c26b0 : (((rd_T73 l0 x22_2).f0) == 1) = true := beq_iff_eq.mpr c26
       have c26b1 : (((rd_T73 l0 x22_2).f0) != 1) = false := bne_eq_false_iff_eq.mpr c26
       clear c26
       have H' := am_ H
       clear H
       obtain ⟨Ao27, co27, eo27⟩ := Kd.R_slice HO_4.out
       subst eo27
       obtain ⟨hcz28_0, hcz28_1, hfz28_0, hfz28_1⟩ := bx2 BK334
       go_wp2
       go_meet
       case rel => exact ⟨_, (decide (((rd_T73 l0 x22_2).f1) > 4)), sr_, H', ⟨by have := HJ1.out; have := HK2.out; first | omega | exact Nat.le_refl _⟩, ⟨Kd.R_mono (Kd.R_s HO_4 BK334) (fun _ hk => trivial)⟩, ⟨kpq_ (kputs BK334 [(0, _), (1, _)])⟩, ⟨hb_ HB⟩⟩
      rw [if_neg c26] at H
      have c26b0 : (((rd_T73 l0 x22_2).f0) == 1) = false := beq_eq_false_iff_ne.mpr c26
      have c26b1 : (((rd_T73 l0 x22_2).f0) != 1) = true := bne_iff_ne.mpr c26
      have H' := am_ H
      clear H
      obtain ⟨Ao29, co29, eo29⟩ := Kd.R_slice HO_4.out
      subst eo29
      obtain ⟨hcz30_0, hcz30_1, hfz30_0, hfz30_1⟩ := bx2 BK334
      go_wp2
      go_meet
      case rel => exact ⟨_, (false), sr_, H', ⟨by have := HJ1.out; have := HK2.out; first | omega | exact Nat.le_refl _⟩, ⟨Kd.R_mono (Kd.R_s HO_4 BK334) (fun _ hk => trivial)⟩, ⟨kpq_ (kputs BK334 [(0, _), (1, _)])⟩, ⟨hb_ HB⟩⟩
     rw [if_neg c22] at H
     have c22b0 : (((rd_T73 l0 x22_2).f0) == 0) = false := beq_eq_false_iff_ne.mpr c22
     have c22b1 : (((rd_T73 l0 x22_2).f0) != 0) = true := bne_iff_ne.mpr c22
     by_cases c31 : ((rd_T73 l0 x22_2).f0) = 1
     ·rw [if_pos c31] at H
      have c31b0 : (((rd_T73 l0 x22_2).f0) == 1) = true := beq_iff_eq.mpr c31
      have c31b1 : (((rd_T73 l0 x22_2).f0) != 1) = false := bne_eq_false_iff_eq.mpr c31
      clear c31
      have H' := am_ H
      clear H
      obtain ⟨Ao32, co32, eo32⟩ := Kd.R_slice HO_4.out
      subst eo32
      obtain ⟨hcz33_0, hcz33_1, hfz33_0, hfz33_1⟩ := bx2 BK334
      go_wp2
      go_meet
      case rel => exact ⟨_, (decide (((rd_T73 l0 x22_2).f1) > 4)), sr_, H', ⟨by have := HJ1.out; have := HK2.out; first | omega | exact Nat.le_refl _⟩, ⟨Kd.R_mono (Kd.R_s HO_4 BK334) (fun _ hk => trivial)⟩, ⟨kpq_ (kputs BK334 [(0, _), (1, _)])⟩, ⟨hb_ HB⟩⟩
     rw [if_neg c31] at H
     have c31b0 : (((rd_T73 l0 x22_2).f0) == 1) = false := beq_eq_false_iff_ne.mpr c31
     have c31b1 : (((rd_T73 l0 x22_2).f0) != 1) = true := bne_iff_ne.mpr c31
     have H' := am_ H
     clear H
     obtain ⟨Ao34, co34, eo34⟩ := Kd.R_slice HO_4.out
     subst eo34
     obtain ⟨hcz35_0, hcz35_1, hfz35_0, hfz35_1⟩ := bx2 BK334
     go_wp2
     go_meet
     case rel => exact ⟨_, (false), sr_, H', ⟨by have := HJ1.out; have := HK2.out; first | omega | exact Nat.le_refl _⟩, ⟨Kd.R_mono (Kd.R_s HO_4 BK334) (fun _ hk => trivial)⟩, ⟨kpq_ (kputs BK334 [(0, _), (1, _)])⟩, ⟨hb_ HB⟩⟩
    rw [if_neg c21] at H
    have c21b0 : (((rd_T73 l0 x22_2).f1) == 0) = false := beq_eq_false_iff_ne.mpr c21
    have c21b1 : (((rd_T73 l0 x22_2).f1) != 0) = true := bne_iff_ne.mpr c21
    have H' := am_ H
    clear H
    obtain ⟨Ao36, co36, eo36⟩ := Kd.R_slice HO_4.out
    subst eo36
    obtain ⟨hcz37_0, hcz37_1, hfz37_0, hfz37_1⟩ := bx2 BK334
    go_wp2
    go_meet
    case rel => exact ⟨_, (true), sr_, H', ⟨by have := HJ1.out; have := HK2.out; first | omega | exact Nat.le_refl _⟩, ⟨Kd.R_mono (Kd.R_s HO_4 BK334) (fun _ hk => trivial)⟩, ⟨kpq_ (kputs BK334 [(0, _), (1, _)])⟩, ⟨hb_ HB⟩⟩
   rw [if_neg c20] at H
   have c20b0 : decide (0 < t335) = false := decide_eq_false c20
   clear c20
   by_cases c38 : ((rd_T73 l0 x22_2).f0) = 0
   ·rw [if_pos c38] at H
    have c38b0 : (((rd_T73 l0 x22_2).f0) == 0) = true := beq_iff_eq.mpr c38
    have c38b1 : (((rd_T73 l0 x22_2).f0) != 0) = false := bne_eq_false_iff_eq.mpr c38
    clear c38
    by_cases c39 : ((rd_T73 l0 x22_2).f1) > 1000000
    ·rw [if_pos c39] at H
     have c39b0 : decide (1000000 < ((rd_T73 l0 x22_2).f1)) = true := decide_eq_true c39
     clear c39
     have H' := am_ H
     clear H
     obtain ⟨Ao40, co40, eo40⟩ := Kd.R_slice HO_4.out
     subst eo40
     obtain ⟨hcz41_0, hcz41_1, hfz41_0, hfz41_1⟩ := bx2 BK334
     go_wp2
     go_meet
     case rel => exact ⟨_, (true), sr_, H', ⟨by have := HJ1.out; have := HK2.out; first | omega | exact Nat.le_refl _⟩, ⟨Kd.R_mono (Kd.R_s HO_4 BK334) (fun _ hk => trivial)⟩, ⟨kpq_ (kputs BK334 [(0, _), (1, _)])⟩, ⟨hb_ HB⟩⟩
    rw [if_neg c39] at H
    have c39b0 : decide (1000000 < ((rd_T73 l0 x22_2).f1)) = false := decide_eq_false c39
    clear c39
    by_cases c42 : ((rd_T73 l0 x22_2).f0) = 1
    ·rw [if_pos c42] at H
     have c42b0 : (((rd_T73 l0 x22_2).f0) == 1) = true := beq_iff_eq.mpr c42
     have c42b1 : (((rd_T73 l0 x22_2).f0) != 1) = false := bne_eq_false_iff_eq.mpr c42
     clear c42
     have H' := am_ H
     clear H
     obtain ⟨Ao43, co43, eo43⟩ := Kd.R_slice HO_4.out
     subst eo43
     obtain ⟨hcz44_0, hcz44_1, hfz44_0, hfz44_1⟩ := bx2 BK334
     go_wp2
     go_meet
     case rel => exact ⟨_, (decide (((rd_T73 l0 x22_2).f1) > 4)), sr_, H', ⟨by have := HJ1.out; have := HK2.out; first | omega | exact Nat.le_refl _⟩, ⟨Kd.R_mono (Kd.R_s HO_4 BK334) (fun _ hk => trivial)⟩, ⟨kpq_ (kputs BK334 [(0, _), (1, _)])⟩, ⟨hb_ HB⟩⟩
    rw [if_neg c42] at H
    have c42b0 : (((rd_T73 l0 x22_2).f0) == 1) = false := beq_eq_false_iff_ne.mpr c42
    have c42b1 : (((rd_T73 l0 x22_2).f0) != 1) = true := bne_iff_ne.mpr c42
    have H' := am_ H
    clear H
    obtain ⟨Ao45, co45, eo45⟩ := Kd.R_slice HO_4.out
    subst eo45
    obtain ⟨hcz46_0, hcz46_1, hfz46_0, hfz46_1⟩ := bx2 BK334
    go_wp2
    go_meet
    case rel => exact ⟨_, (false), sr_, H', ⟨by have := HJ1.out; have := HK2.out; first | omega | exact Nat.le_refl _⟩, ⟨Kd.R_mono (Kd.R_s HO_4 BK334) (fun _ hk => trivial)⟩, ⟨kpq_ (kputs BK334 [(0, _), (1, _)])⟩, ⟨hb_ HB⟩⟩
   rw [if_neg c38] at H
   have c38b0 : (((rd_T73 l0 x22_2).f0) == 0) = false := beq_eq_false_iff_ne.mpr c38
   have c38b1 : (((rd_T73 l0 x22_2).f0) != 0) = true := bne_iff_ne.mpr c38
   by_cases c47 : ((rd_T73 l0 x22_2).f0) = 1
   ·rw [if_pos c47] at H
    have c47b0 : (((rd_T73 l0 x22_2).f0) == 1) = true := beq_iff_eq.mpr c47
    have c47b1 : (((rd_T73 l0 x22_2).f0) != 1) = false := bne_eq_false_iff_eq.mpr c47
    clear c47
    have H' := am_ H
    clear H
    obtain ⟨Ao48, co48, eo48⟩ := Kd.R_slice HO_4.out
    subst eo48
    obtain ⟨hcz49_0, hcz49_1, hfz49_0, hfz49_1⟩ := bx2 BK334
    go_wp2
    go_meet
    case rel => exact ⟨_, (decide (((rd_T73 l0 x22_2).f1) > 4)), sr_, H', ⟨by have := HJ1.out; have := HK2.out; first | omega | exact Nat.le_refl _⟩, ⟨Kd.R_mono (Kd.R_s HO_4 BK334) (fun _ hk => trivial)⟩, ⟨kpq_ (kputs BK334 [(0, _), (1, _)])⟩, ⟨hb_ HB⟩⟩
   rw [if_neg c47] at H
   have c47b0 : (((rd_T73 l0 x22_2).f0) == 1) = false := beq_eq_false_iff_ne.mpr c47
   have c47b1 : (((rd_T73 l0 x22_2).f0) != 1) = true := bne_iff_ne.mpr c47
   have H' := am_ H
   clear H
   obtain ⟨Ao50, co50, eo50⟩ := Kd.R_slice HO_4.out
   subst eo50
   obtain ⟨hcz51_0, hcz51_1, hfz51_0, hfz51_1⟩ := bx2 BK334
   go_wp2
   go_meet
   case rel => exact ⟨_, (false), sr_, H', ⟨by have := HJ1.out; have := HK2.out; first | omega | exact Nat.le_refl _⟩, ⟨Kd.R_mono (Kd.R_s HO_4 BK334) (fun _ hk => trivial)⟩, ⟨kpq_ (kputs BK334 [(0, _), (1, _)])⟩, ⟨hb_ HB⟩⟩
  clear HC11
  obtain ⟨kq, x70_10, rfl, HA, HJ10, HO_4, BK334, HB⟩ := hcut
  cases kq with
  | zero => exact absurd HA.out (by simp [impl_ruleDepth.j2])
  | succ kj10 => ?_
  have H := HA.out
  clear HA
  simp only [impl_ruleDepth.j2] at H
  by_cases c52 : x70_10 = true
  ·subst c52
   rw [if_pos rfl] at H
   simp only [Option.some.injEq, Prod.mk.injEq] at H
   obtain ⟨rfl, rfl⟩ := H
   go_wp2
   go_ret2
   exact ad_ (hb_ HB)
  replace c52 := Bool.eq_false_iff.mpr c52
  subst c52
  rw [if_neg (show ¬ (false = true) by decide)] at H
  obtain ⟨ji53, hji53⟩ : ∃ j_ : Int, (wrap64 ((x4_2.length : Int) - t335)) = j_ := ⟨_, rfl⟩
  replace H : (if 0 ≤ (ji53) then (if (ji53) ≤ (x4_2.length : Int) then ((some (x4_2.drop ((ji53) : Int).toNat : List Int)).bind fun y336 => (impl_ruleDepth.l1 kj10 x4_2 t335 0 l0 (l0.length : Int) x22_2 y336 (y336.length : Int) 0)) else (none)) else (none)) = some (r1, r2) := by first | (rw [hji53] at H; exact H) | (simp only [hji53] at H ⊢; exact H)
  have hji53w : (IntKind.i64.wrap ((x4_2.length : Int) - t335)) = ji53 := (i64_w _).trans hji53
  revert H; refine pf_ fun c54 H => ?_
  have c54b0 := eq_true c54
  have c54b1 := decide_eq_true c54
  clear c54
  revert H; refine pf_ fun c55 H => ?_
  have c55b0 := eq_true c55
  have c55b1 := decide_eq_true c55
  clear c55
  obtain ⟨y336, hy336⟩ : ∃ y_ : List Int, y_ = (x4_2.drop ((ji53) : Int).toNat) := ⟨_, rfl⟩
  (try with_reducible replace H := (Option.bind_some _ _).symm.trans H); (try dsimp only at H); (try rw [← hy336] at H)
  have Ny336 := am_ hy336
  clear hy336
  have H' := am_ H
  clear H
  obtain ⟨Ao56, co56, eo56⟩ := Kd.R_slice HO_4.out
  subst eo56
  have q57 : ((ji53) : Int) ≤ ((x4_2.length : Int) : Int) := od_
  obtain ⟨i057, hi057, _, hsz57, _⟩ := info_parts info3
  have hroom57 : x4_2.length ≤ co56 := (Kd.R_reads' HO_4.out).2.1
  have hC57 : Kd.C (Kd.int .i64) _ Ao56 x4_2.length x4_2 := (Kd.R_reads' HO_4.out).2.2
  have q057 : (0 : Int) ≤ ((ji53) : Int) := od_
  have hcut57 := cut_from (P := Tryz.prog) 36 3 .i64 Tryz.underlying36 hi057 1 hsz57 Ao56 x4_2.length co56 (ji53) q057 q57
  have hr57 := Kd.C_drop (m := ((ji53) : Int).toNat) (c := co56) hC57 (by omega) hroom57
  obtain ⟨A57, hA57⟩ : ∃ A1, A1 = (if co56 = ((ji53) : Int).toNat then Ao56 else (Ao56 : Option Addr).map (·.add (((ji53) : Int).toNat * 1))) := ⟨_, rfl⟩
  obtain ⟨c57, hc57⟩ : ∃ c1, c1 = co56 - ((ji53) : Int).toNat := ⟨_, rfl⟩
  have hy57 : y336.length = x4_2.length - ((ji53) : Int).toNat := (by rw [Ny336.out, List.length_drop] <;> omega)
  rw [show (x4_2).drop ((ji53) : Int).toNat = y336 from Ny336.out.symm] at hr57
  replace hr57 : Kd.C (Kd.int .i64) _ A57 y336.length y336 := (by rw [hA57]; exact hr57)
  rw [← hy57, ← hA57, ← hc57] at hcut57
  have HR339 := am_ hr57
  have HC339 := am_ (show y336.length ≤ c57 from by rw [hy57, hc57]; exact Nat.sub_le_sub_right hroom57 _)
  clear hr57 hC57 hroom57 hi057 hsz57 hc57
  have KY57 := am_ hy57
  have KA57 := am_ hA57
  clear hy57 hA57
  have KL57 := am_ (show ((ji53) : Int).toNat ≤ x4_2.length from by omega)
  replace q57 := eq_true q57
  go_wp2
  go_loopg [8, 78] kj10 (fun kq v8 v78 w' => ∃ (x8_4 : Int) (x78_4 : Int), v8 = .int .i64 x8_4 ∧ v78 = .int .i64 x78_4 ∧ Aside0 (impl_ruleDepth.l1 kq x4_2 t335 x8_4 l0 (l0.length : Int) x22_2 y336 (y336.length : Int) x78_4 = some (r1, r2)) ∧ Aside0 (kq ≤ kj10) ∧ Aside0 (Kd.R (Kd.int .i64) 3 w' w.heap.size (fun _ => True) (.slice Ao56 x4_2.length co56) x4_2) ∧ Aside0 (w'.heap[gb334]? = some (.cells #[.int .i64 ((rd_T73 l0 x22_2).f0), .int .i64 ((rd_T73 l0 x22_2).f1)] 73 (0, 0))) ∧ Aside0 (Kd.C (Kd.int .i64) w' A57 y336.length y336) ∧ Aside0 (Below w.heap.size w w'))
  case atStart => exact ⟨(0), (0), sr_, sr_, H', ⟨Nat.le_refl _⟩, ⟨Kd.R_p HO_4⟩, ⟨kp_ BK334⟩, ⟨by repeat (first | (with_reducible exact HR339.out) | (with_reducible refine Kd.C_alloc ?_ _) | (with_reducible refine Kd.C_drewN ?_ _) | (with_reducible refine Kd.C_drew ?_) | exact HR339.out)⟩, ⟨hb_ HB⟩⟩
  clear H'
  obtain ⟨x8_4, x78_4, rfl, rfl, HA, HK4, HO_4, BK334, HR339, HB⟩ := hrel
  cases gk with
  | zero => exact absurd HA.out (by simp [impl_ruleDepth.l1])
  | succ k4 => ?_
  have H := HA.out
  clear HA
  simp only [impl_ruleDepth.l1] at H
  by_cases c58 : x78_4 < (y336.length : Int)
  ·rw [if_pos c58] at H
   have c58b0 := decide_eq_true c58
   clear c58
   revert H; refine pd_ fun c59b0 H => ?_
   revert H; refine pd_ fun c60b0 H => ?_
   obtain ⟨ji61, hji61⟩ : ∃ j_ : Int, (mx x8_4 (rd y336 x78_4)) = j_ := ⟨_, rfl⟩
   replace H : (impl_ruleDepth.l1 k4 x4_2 t335 ji61 l0 (l0.length : Int) x22_2 y336 (y336.length : Int) (wrap64 (x78_4 + 1))) = some (r1, r2) := by first | (rw [hji61] at H; exact H) | (simp only [hji61] at H ⊢; exact H)
   have hji61_ : (if x8_4 < (rd y336 x78_4) then (rd y336 x78_4) else x8_4) = ji61 := hji61
   have H' := am_ H
   clear H
   have p340 : 0 ≤ (x78_4 : Int) := od_
   have q340 : x78_4 < (y336.length : Int) := od_
   obtain ⟨ad340, e340, hx340_0⟩ := Kd.at_int HR339.out x78_4 p340 q340
   cases e340
   try replace hx340_0 := hc_ HB hx340_0
   replace p340 := eq_true p340
   replace q340 := eq_true q340
   go_wp2
   go_roundg k4
   case measure => have := HJ1.out; have := HK2.out; have := HJ10.out; have := HK4.out; omega
   case rel => exact ⟨(ji61), (wrap64 (x78_4 + 1)), (by first | rfl | (simp; done) | (simp only [← hji61] <;> (first | rfl | simp)) | (simp [*]; done)), sr_, H', ⟨by have := HJ1.out; have := HK2.out; have := HJ10.out; have := HK4.out; omega⟩, ⟨Kd.R_p HO_4⟩, ⟨kp_ BK334⟩, ⟨by repeat (first | (with_reducible exact HR339.out) | (with_reducible refine Kd.C_alloc ?_ _) | (with_reducible refine Kd.C_drewN ?_ _) | (with_reducible refine Kd.C_drew ?_) | exact HR339.out)⟩, ⟨hb_ HB⟩⟩
  rw [if_neg c58] at H
  have c58b0 := decide_eq_false c58
  clear c58
  obtain ⟨ji62, hji62⟩ : ∃ j_ : Int, (wrap64 ((x4_2.length : Int) - t335)) = j_ := ⟨_, rfl⟩
  replace H : (if 0 ≤ (ji62) then (if (ji62) ≤ (x4_2.length : Int) then ((some (x4_2.take ((ji62) : Int).toNat : List Int)).bind fun y341 => (if y341.length < 17592186044416 then (impl_ruleDepth.l0 k4 (y341 ++ [wrap64 (x8_4 + 1)]) l0 (l0.length : Int) (wrap64 (x22_2 + 1))) else (none))) else (none)) else (none)) = some (r1, r2) := by first | (rw [hji62] at H; exact H) | (simp only [hji62] at H ⊢; exact H)
  have hji62w : (IntKind.i64.wrap ((x4_2.length : Int) - t335)) = ji62 := (i64_w _).trans hji62
  have hjj_ : ji62 = ji53 := hji62.symm.trans hji53
  subst hjj_
  revert H; refine pf_ fun c63 H => ?_
  have c63b0 := eq_true c63
  have c63b1 := decide_eq_true c63
  clear c63
  revert H; refine pf_ fun c64 H => ?_
  have c64b0 := eq_true c64
  have c64b1 := decide_eq_true c64
  clear c64
  obtain ⟨y341, hy341⟩ : ∃ y_ : List Int, y_ = (x4_2.take ((ji62) : Int).toNat) := ⟨_, rfl⟩
  (try with_reducible replace H := (Option.bind_some _ _).symm.trans H); (try dsimp only at H); (try rw [← hy341] at H)
  have Ny341 := am_ hy341
  clear hy341
  revert H; refine pf_ fun c65 H => ?_
  have LMc65 := am_ c65
  clear c65
  obtain ⟨y344, hy344⟩ : ∃ y_ : List Int, y_ = (y341 ++ [wrap64 (x8_4 + 1)]) := ⟨_, rfl⟩
  (try with_reducible replace H := (Option.bind_some _ _).symm.trans H); (try dsimp only at H); (try rw [← hy344] at H)
  have Ny344 := am_ hy344
  clear hy344
  have H' := am_ H
  clear H
  have q66 : ((ji62) : Int) ≤ ((x4_2.length : Int) : Int) := od_
  obtain ⟨i066, hi066, _, hsz66, _⟩ := info_parts info3
  have hcut66 := cut_to (P := Tryz.prog) 36 3 .i64 Tryz.underlying36 hi066 Ao56 x4_2.length co56 (ji62) (od_) q66 (Kd.R_reads' HO_4.out).2.1
  have hr66 := Kd.R_take (m := ((ji62) : Int).toNat) HO_4.out (by omega)
  have hy66 : y341.length = ((ji62) : Int).toNat := (by rw [Ny341.out, List.length_take]; omega)
  rw [← Ny341.out] at hr66
  rw [← hy66] at hr66 hcut66
  clear hy66 hi066 hsz66 HO_4
  have HO343 := am_ hr66
  clear hr66
  replace q66 := eq_true q66
  go_wp2_with (first | ((with_reducible refine gate_builtin (b := .append) (xs := #[.tmp 91, .tmp 94]) rfl ?_); (try (refine gate_guard (by rfl) ?_; dsimp only)); at_builtin; refine Kd.R_append (Kd.int .i64) (w0 := w) w.heap.size rfl (.tmp 91) (.tmp 94) 36 3 (.int .i64 0) 8 rfl Tryz.underlying36 info3 rfl (by decide) (by omega) (.slice Ao56 y341.length co56) y341 (wrap64 (x8_4 + 1)) [.int .i64 (wrap64 (x8_4 + 1))] (fun _ => True) (fun _ => False) rfl rfl ?aP (fun _ hk => hk.elim) ?aF ?aO ?aB ?aS ?aL ?_; (case aP => exact rfl); (case aB => exact (hb_ HB)); (case aF => exact (fun _ _ => trivial)); (case aO => exact (Kd.R_p HO343)); (case aS => exact (below_size (hb_ HB))); (case aL => have := LMc65.out; omega); intro v345 w67 ho hb hg hat; rw [← Ny344.out] at ho; have HO346 := am_ (ho); replace BK334 := am_ (blk_grown (kp_ BK334) hg (Kd.R_ne HO343.out BK334.out (by decide))); replace HB := am_ (hb); clear HO343; clear ho hb hg hat))
  go_roundg k4
  case measure => have := HJ1.out; have := HK2.out; have := HJ10.out; have := HK4.out; omega
  case rel => exact ⟨(y344), (wrap64 (x22_2 + 1)), sr_, H', ⟨by have := HJ1.out; have := HK2.out; have := HJ10.out; have := HK4.out; omega⟩, ⟨Kd.R_p HO346⟩, ⟨hb_ HB⟩⟩
 rw [if_neg c7] at H
 have c7b0 := decide_eq_false c7
 clear c7
 revert H; refine pf_ fun c68 H => ?_
 have c68b0 := decide_eq_true c68
 have c68b1 : decide (0 < x4_2.length) = true := decide_eq_true (by omega)
 clear c68
 simp only [Option.some.injEq, Prod.mk.injEq] at H
 obtain ⟨rfl, rfl⟩ := H
 obtain ⟨Ao69, co69, eo69⟩ := Kd.R_slice HO_4.out
 subst eo69
 have p332 : 0 ≤ (0 : Int) := (by omega)
 have q332 : 0 < (x4_2.length : Int) := od_
 obtain ⟨ad332, e332, hx332_0⟩ := Kd.at_int (Kd.R_reads' HO_4.out).2.2 0 p332 q332
 cases e332
 have qi332 : (0 < x4_2.length) = True := eq_true (by omega)
 (try rw [show ((0 : Int)).toNat = 0 from rfl] at hx332_0)
 (try rw [Addr.add_zero'] at hx332_0)
 replace p332 := eq_true p332
 replace q332 := eq_true q332
 go_wp2
 go_ret2
 exact ad_ (hb_ HB)

/-! ### impl_isRule: function 24 -/
def impl_isRule.f (k : Nat) (l0 : List (S73)) : Option (Bool) := (impl_ruleDepth.f k l0).bind fun bt347 => (if bt347.2 = true then (some (decide (bt347.1 ≤ 12))) else (some false))
theorem impl_isRule.calls (k : Nat) (A0 : Option Addr) (c0 : Nat) (l0 : List (S73)) (r : Bool) (w : World) (hr0 : Kd.C k73 w A0 l0.length l0) (hc0 : l0.length ≤ c0) (h : impl_isRule.f k l0 = some r) :
  Calls Tryz.prog 24 #[.slice A0 l0.length c0] w fun e w' => e = .returned (.bool r) ∧ Below w.heap.size w w' := by
 have HR0 := am_ hr0
 have HC0 := am_ hc0
 clear hr0 hc0
 have HB := am_ (Below.refl w.heap.size w)
 have H := h
 unfold impl_isRule.f at H
 clear h
 revert H; refine bn_ ?_; rintro ⟨t347, t348⟩ A2 H; try dsimp only at H
 by_cases c3 : t348 = true
 ·subst c3
  rw [if_pos rfl] at H
  obtain rfl := Option.some.inj H
  go_enter Tryz.func24, Tryz.ntmps24
  go_wp2_with (first | ((with_reducible refine gk_ 41 ?_); refine gq_ 7 Tryz.func41 #[.slice A0 l0.length c0] ?_; (with_reducible refine (impl_ruleDepth.calls k _ _ l0 t347 true _ ?side1 ?_ A2.out).mono ?_); (case side1 => repeat (first | exact HR0.out | (with_reducible refine Kd.C_alloc ?_ _) | (with_reducible refine Kd.C_drewN ?_ _) | (with_reducible refine Kd.C_drew ?_))); exact HC0.out; rintro e w4 ⟨rfl, hb⟩; refine ⟨_, rfl, ?_⟩; replace HB := hbs_ HB hb))
  go_ret
  exact ad_ (hb_ HB)
 replace c3 := Bool.eq_false_iff.mpr c3
 subst c3
 rw [if_neg (show ¬ (false = true) by decide)] at H
 obtain rfl := Option.some.inj H
 go_enter Tryz.func24, Tryz.ntmps24
 go_wp2_with (first | ((with_reducible refine gk_ 41 ?_); refine gq_ 7 Tryz.func41 #[.slice A0 l0.length c0] ?_; (with_reducible refine (impl_ruleDepth.calls k _ _ l0 t347 false _ ?side1 ?_ A2.out).mono ?_); (case side1 => repeat (first | exact HR0.out | (with_reducible refine Kd.C_alloc ?_ _) | (with_reducible refine Kd.C_drewN ?_ _) | (with_reducible refine Kd.C_drew ?_))); exact HC0.out; rintro e w5 ⟨rfl, hb⟩; refine ⟨_, rfl, ?_⟩; replace HB := hbs_ HB hb))
 go_ret
 exact ad_ (hb_ HB)

end Go.Proofs.YtihjlepgmppedaaGreatDoor.PFnRules
