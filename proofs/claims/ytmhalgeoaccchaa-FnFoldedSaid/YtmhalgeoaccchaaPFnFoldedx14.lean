-- Laid for this claim by wip/tools/print2.sh, a changed copy of the kit's print (wip/tools/patch_print.py): not by print.sh.
import Derived.Test.YtmhalgeoaccchaaPFnFoldedx0
import Derived.Test.YtmhalgeoaccchaaPFnFoldedx2
import Derived.Test.YtmhalgeoaccchaaPFnFoldedx3
import Derived.Test.YtmhalgeoaccchaaPFnFoldedx5
import Derived.Test.YtmhalgeoaccchaaPFnFoldedx6
import Derived.Test.YtmhalgeoaccchaaPFnFoldedx13
namespace Go.Proofs.Ytmhalgeoaccchaa.PFnFolded
open Go.RowKit Go.Proofs.YtmhalgeoaccchaaW.PrintWords Go.Proofs.YtmhalgeoaccchaaW.PrintLast Go.Proofs.YtmhalgeoaccchaaW.PrintMore
attribute [local go_sem] max2_int min2_int max_two min_two max_three min_three max_four min_four   -- for this text's walks alone
set_option linter.unusedVariables false
set_option linter.unusedSimpArgs false

/-! ### spec_ruSize: function 38 -/
mutual
def spec_ruSize.l0 : Nat → List (List Int) → Int → List Int → Int → Int → Option (Int)
 | 0, _, _, _, _, _ => none
 | k + 1, x0, x5, x11, x12, x13 => if x13 < x12 then (if 0 ≤ x13 then (if x13 < (x11.length : Int) then ((spec_ruSize.f k x0 (rd x11 x13)).bind fun t501 => (spec_ruSize.l0 k x0 (wrap64 (x5 + t501)) x11 x12 (wrap64 (x13 + 1)))) else (none)) else (none)) else (some x5)
def spec_ruSize.f : Nat → List (List Int) → Int → Option (Int)
 | 0, _, _ => none
 | k + 1, l0, a1 => if 0 ≤ a1 then (if a1 < (l0.length : Int) then (spec_ruSize.l0 k l0 1 (rd_L3 l0 a1) ((rd_L3 l0 a1).length : Int) 0) else (none)) else (none)
end
set_option maxHeartbeats 8000000 in
set_option maxRecDepth 100000 in
theorem spec_ruSize.calls (k : Nat) : ∀ (A0 : Option Addr) (c0 : Nat) (l0 : List (List Int)) (a1 : Int) (r : Int) (w : World) (hr0 : Kd.C (Kd.slice 3 (Kd.int .i64)) w A0 l0.length l0) (hc0 : l0.length ≤ c0) (h : spec_ruSize.f k l0 a1 = some r),
  Calls Try.prog 38 #[.slice A0 l0.length c0, .int .i64 a1] w fun e w' => e = .returned (.int .i64 r) ∧ Drawn0 w w' := by
 induction k using Nat.strongRecOn with
 | _ k ih =>
 intro A0 c0 l0 a1 r w hr0 hc0 h
 cases k with
 | zero => exact absurd h (by simp [spec_ruSize.f])
 | succ k =>
 simp only [spec_ruSize.f] at h
 have HR0 := Aside0.mk hr0
 have HC0 := Aside0.mk hc0
 clear hr0 hc0
 have H : (if 0 ≤ a1 then (if a1 < (l0.length : Int) then (spec_ruSize.l0 k l0 1 (rd_L3 l0 a1) ((rd_L3 l0 a1).length : Int) 0) else (none)) else (none)) = some r := h
 clear h
 by_cases c3 : 0 ≤ a1
 ·rw [if_pos c3] at H
  have c3b0 : decide (0 ≤ a1) = true := decide_eq_true c3
  clear c3
  by_cases c4 : a1 < (l0.length : Int)
  ·rw [if_pos c4] at H
   have c4b0 : decide (a1 < (l0.length : Int)) = true := decide_eq_true c4
   clear c4
   have H' := Aside0.mk H
   clear H
   have p499 : 0 ≤ (a1 : Int) := of_decide_eq_true (by first | (with_reducible assumption) | assumption)
   have q499 : a1 < (l0.length : Int) := of_decide_eq_true (by first | (with_reducible assumption) | assumption)
   obtain ⟨ad499, A499_0, c499_0, e499, hx499_0, hl499_0, hi499_0⟩ := at_L3 HR0.out a1 p499 q499
   cases e499
   have HR499_0 := Aside0.mk hi499_0
   have HC499_0 := Aside0.mk hl499_0
   clear hi499_0 hl499_0
   replace p499 := eq_true p499
   replace q499 := eq_true q499
   go_enter Try.func38, Try.ntmps38
   go_wp2
   go_loopg [5, 13] k (fun kq v5 v13 w' => ∃ (x5_1 : Int) (x13_1 : Int), v5 = .int .i64 x5_1 ∧ v13 = .int .i64 x13_1 ∧ Aside0 (spec_ruSize.l0 kq l0 x5_1 (rd_L3 l0 a1) ((rd_L3 l0 a1).length : Int) x13_1 = some r) ∧ Aside0 (kq ≤ k) ∧ Drawn0 w w')
   case atStart => exact ⟨(1), (0), (by first | rfl | (simp; done) | (simp [*]; done)), (by first | rfl | (simp; done) | (simp [*]; done)), H', ⟨Nat.le_refl _⟩, by repeat (first | exact Drawn0.refl _ | apply Drawn0.step)⟩
   case round =>
    clear H'
    (try clear p2); (try clear c3); (try clear c3b0); (try clear c4); (try clear c4b0); (try clear p4); (try clear q4); (try clear hx4); (try clear hx499_0); (try clear p499); (try clear q499)
    obtain ⟨x5_1, x13_1, rfl, rfl, HA, HK1, ⟨m1, rfl⟩⟩ := hrel
    cases gk with
    | zero => exact absurd HA.out (by simp [spec_ruSize.l0])
    | succ k1 =>
     have H := HA.out
     clear HA
     simp only [spec_ruSize.l0] at H
     by_cases c5 : x13_1 < ((rd_L3 l0 a1).length : Int)
     ·rw [if_pos c5] at H
      have c5b0 : decide (x13_1 < ((rd_L3 l0 a1).length : Int)) = true := decide_eq_true c5
      clear c5
      by_cases c6 : 0 ≤ x13_1
      ·rw [if_pos c6] at H
       have c6b0 : decide (0 ≤ x13_1) = true := decide_eq_true c6
       clear c6
       by_cases c7 : x13_1 < ((rd_L3 l0 a1).length : Int)
       ·rw [if_pos c7] at H
        have c7b0 : decide (x13_1 < ((rd_L3 l0 a1).length : Int)) = true := decide_eq_true c7
        clear c7
        replace H := Option.bind_eq_some_iff.mp H
        obtain ⟨t501, A80, H⟩ := H
        replace H : (spec_ruSize.l0 k1 l0 (wrap64 (x5_1 + t501)) (rd_L3 l0 a1) ((rd_L3 l0 a1).length : Int) (wrap64 (x13_1 + 1))) = some r := H
        have A8 := Aside0.mk A80
        clear A80
        have H' := Aside0.mk H
        clear H
        have p500 : 0 ≤ (x13_1 : Int) := of_decide_eq_true (by first | (with_reducible assumption) | assumption)
        have q500 : x13_1 < ((rd_L3 l0 a1).length : Int) := of_decide_eq_true (by first | (with_reducible assumption) | assumption)
        obtain ⟨ad500, e500, hx500_0⟩ := Kd.at_int HR499_0.out x13_1 p500 q500
        cases e500
        replace p500 := eq_true p500
        replace q500 := eq_true q500
        go_wp2_with (first | ((with_reducible refine gate_callee (f := 38) rfl ?_); refine gl_ (some 20) Try.func38 #[.slice (some ad499) l0.length c0, .int .i64 (rd (rd_L3 l0 a1) x13_1)] rfl rfl rfl ?_; (with_reducible refine (ih k1 (by have := HK1.out; omega) _ _ l0 (rd (rd_L3 l0 a1) x13_1) t501 _ ?side1 ?side2 A8.out).mono ?_); (case side1 => repeat (first | exact HR0.out | (with_reducible refine Kd.C_alloc ?_ _) | (with_reducible refine Kd.C_drewN ?_ _) | (with_reducible refine Kd.C_drew ?_))); (case side2 => exact HC0.out); rintro e w' ⟨rfl, ⟨nd, rfl⟩⟩; refine ⟨_, rfl, ?_⟩))
        go_roundg k1
        case measure => have := HK1.out; omega
        case rel => exact ⟨(wrap64 (x5_1 + t501)), (wrap64 (x13_1 + 1)), (by first | rfl | (simp; done) | (simp [*]; done)), (by first | rfl | (simp; done) | (simp [*]; done)), H', ⟨by have := HK1.out; omega⟩, by repeat (first | exact Drawn0.refl _ | apply Drawn0.step)⟩
       ·rw [if_neg c7] at H
        exact absurd H (by simp)
      ·rw [if_neg c6] at H
       exact absurd H (by simp)
     ·rw [if_neg c5] at H
      have c5b0 : decide (x13_1 < ((rd_L3 l0 a1).length : Int)) = false := decide_eq_false c5
      clear c5
      obtain rfl := Option.some.inj H
      go_wp2
      go_ret
      exact ⟨by first | rfl | (simp; done) | (simp [*]; done), by repeat (first | exact Drawn0.refl _ | apply Drawn0.step)⟩
  ·rw [if_neg c4] at H
   exact absurd H (by simp)
 ·rw [if_neg c3] at H
  exact absurd H (by simp)

/-! ### spec_ruWithout: function 39 -/
def spec_ruWithout.l0 : Nat → List (S52) → Int → Int → Option (Bool)
 | 0, _, _, _ => none
 | k + 1, x5, x6, x7 => if x7 < x6 then (if 0 ≤ x7 then (if x7 < (x5.length : Int) then (if ((rd_T52 x5 x7).f0) = 1 then (some false) else (spec_ruWithout.l0 k x5 x6 (wrap64 (x7 + 1)))) else (none)) else (none)) else (some true)
def spec_ruWithout.f (k : Nat) (l0 : List (S52)) : Option (Bool) := spec_ruWithout.l0 k l0 (l0.length : Int) 0
set_option maxHeartbeats 8000000 in
set_option maxRecDepth 100000 in
theorem spec_ruWithout.calls (k : Nat) (A0 : Option Addr) (c0 : Nat) (l0 : List (S52)) (r : Bool) (w : World) (hr0 : Kd.C k52 w A0 l0.length l0) (hc0 : l0.length ≤ c0) (h : spec_ruWithout.f k l0 = some r) :
  Calls Try.prog 39 #[.slice A0 l0.length c0] w fun e w' => e = .returned (.bool r) ∧ Below w.heap.size w w' := by
 have hu52 := Try.underlying52
 have HR0 := Aside0.mk hr0
 have HC0 := Aside0.mk hc0
 clear hr0 hc0
 have HB := Aside0.mk (Below.refl w.heap.size w)
 have H : (spec_ruWithout.l0 k l0 (l0.length : Int) 0) = some r := h
 clear h
 have H' := Aside0.mk H
 clear H
 go_enter Try.func39, Try.ntmps39
 go_wp2
 go_loopg [7] k (fun kq v7 w' => ∃ (x7_1 : Int), v7 = .int .i64 x7_1 ∧ Aside0 (spec_ruWithout.l0 kq l0 (l0.length : Int) x7_1 = some r) ∧ Aside0 (kq ≤ k) ∧ Aside0 (Below w.heap.size w w'))
 case atStart => exact ⟨(0), (by first | rfl | (simp; done) | (simp [*]; done)), H', ⟨Nat.le_refl _⟩, ⟨hb_ HB⟩⟩
 case round =>
  clear H'
  obtain ⟨x7_1, rfl, HA, HK1, HB⟩ := hrel
  cases gk with
  | zero => exact absurd HA.out (by simp [spec_ruWithout.l0])
  | succ k1 =>
   have H := HA.out
   clear HA
   simp only [spec_ruWithout.l0] at H
   by_cases c2 : x7_1 < (l0.length : Int)
   ·rw [if_pos c2] at H
    have c2b0 : decide (x7_1 < (l0.length : Int)) = true := decide_eq_true c2
    clear c2
    by_cases c3 : 0 ≤ x7_1
    ·rw [if_pos c3] at H
     have c3b0 : decide (0 ≤ x7_1) = true := decide_eq_true c3
     clear c3
     by_cases c4 : x7_1 < (l0.length : Int)
     ·rw [if_pos c4] at H
      have c4b0 : decide (x7_1 < (l0.length : Int)) = true := decide_eq_true c4
      clear c4
      by_cases c5 : ((rd_T52 l0 x7_1).f0) = 1
      ·rw [if_pos c5] at H
       have c5b0 : (((rd_T52 l0 x7_1).f0) == 1) = true := beq_iff_eq.mpr c5
       have c5b1 : (((rd_T52 l0 x7_1).f0) != 1) = false := bne_eq_false_iff_eq.mpr c5
       clear c5
       obtain rfl := Option.some.inj H
       have p502 : 0 ≤ (x7_1 : Int) := of_decide_eq_true (by first | (with_reducible assumption) | assumption)
       have q502 : x7_1 < (l0.length : Int) := of_decide_eq_true (by first | (with_reducible assumption) | assumption)
       obtain ⟨ad502, e502, hx502_0, hx502_1⟩ := at_T52 HR0.out x7_1 p502 q502
       cases e502
       replace hx502_0 := (HB.out.cell (World.block_lt_of_cell? w _ hx502_0)).trans hx502_0
       replace hx502_1 := (HB.out.cell (World.block_lt_of_cell? w _ hx502_1)).trans hx502_1
       replace p502 := eq_true p502
       replace q502 := eq_true q502
       go_wp2_with (first | ((with_reducible refine gate_dst (N := 4) rfl ?_); refine box_event ?hg (N := 4) ?hd (cs := #[.int .i64 0, .int .i64 0]) (t := 52) ?hr ?_; (case hd => rfl); (case hg => rfl); (case hr => first | (go_simp; done) | (go_simp; rfl)); intro gb503 hg w6 hbox hb; have BK503 := Aside0.mk (hbox); have GW503 := gs_ hg HB; have GE503 := gs_ hg HB; replace HB := hbs_ HB hb; clear hb hbox hg; obtain ⟨hcz7_0, hcz7_1, hfz7_0, hfz7_1⟩ := bx2 BK503))
       go_ret
       exact ⟨by first | rfl | (simp [errW_none, errW_some] <;> rfl) | (simp [*, errW_none, errW_some] <;> rfl), hb_ HB⟩
      ·rw [if_neg c5] at H
       have c5b0 : (((rd_T52 l0 x7_1).f0) == 1) = false := beq_eq_false_iff_ne.mpr c5
       have c5b1 : (((rd_T52 l0 x7_1).f0) != 1) = true := bne_iff_ne.mpr c5
       have H' := Aside0.mk H
       clear H
       have p502 : 0 ≤ (x7_1 : Int) := of_decide_eq_true (by first | (with_reducible assumption) | assumption)
       have q502 : x7_1 < (l0.length : Int) := of_decide_eq_true (by first | (with_reducible assumption) | assumption)
       obtain ⟨ad502, e502, hx502_0, hx502_1⟩ := at_T52 HR0.out x7_1 p502 q502
       cases e502
       replace hx502_0 := (HB.out.cell (World.block_lt_of_cell? w _ hx502_0)).trans hx502_0
       replace hx502_1 := (HB.out.cell (World.block_lt_of_cell? w _ hx502_1)).trans hx502_1
       replace p502 := eq_true p502
       replace q502 := eq_true q502
       go_wp2_with (first | ((with_reducible refine gate_dst (N := 4) rfl ?_); refine box_event ?hg (N := 4) ?hd (cs := #[.int .i64 0, .int .i64 0]) (t := 52) ?hr ?_; (case hd => rfl); (case hg => rfl); (case hr => first | (go_simp; done) | (go_simp; rfl)); intro gb503 hg w8 hbox hb; have BK503 := Aside0.mk (hbox); have GW503 := gs_ hg HB; have GE503 := gs_ hg HB; replace HB := hbs_ HB hb; clear hb hbox hg; obtain ⟨hcz9_0, hcz9_1, hfz9_0, hfz9_1⟩ := bx2 BK503))
       go_roundg k1
       case measure => have := HK1.out; omega
       case rel => exact ⟨(wrap64 (x7_1 + 1)), (by first | rfl | (simp; done) | (simp [*]; done)), H', ⟨by have := HK1.out; omega⟩, ⟨hb_ HB⟩⟩
     ·rw [if_neg c4] at H
      exact absurd H (by simp)
    ·rw [if_neg c3] at H
     exact absurd H (by simp)
   ·rw [if_neg c2] at H
    have c2b0 : decide (x7_1 < (l0.length : Int)) = false := decide_eq_false c2
    clear c2
    obtain rfl := Option.some.inj H
    go_wp2
    go_ret
    exact ⟨by first | rfl | (simp [errW_none, errW_some] <;> rfl) | (simp [*, errW_none, errW_some] <;> rfl), hb_ HB⟩

/-! ### spec_ruFold: function 23 -/
mutual
def spec_ruFold.j0 : Nat → List (S52) → List (List Int) → Int → Option ((List (S52)))
 | 0, _, _, _ => none
 | k + 1, x0, x1, x2 => if 0 ≤ x2 then (if x2 < (x1.length : Int) then (spec_ruFold.l0 k x0 x1 x2 ([] : List (S52)) (rd_L3 x1 x2) ((rd_L3 x1 x2).length : Int) 0) else (none)) else (none)
def spec_ruFold.l0 : Nat → List (S52) → List (List Int) → Int → List (S52) → List Int → Int → Int → Option ((List (S52)))
 | 0, _, _, _, _, _, _, _ => none
 | k + 1, x0, x1, x2, x10, x42, x43, x44 => if x44 < x43 then (if 0 ≤ x44 then (if x44 < (x42.length : Int) then ((spec_ruFold.f k x0 x1 (rd x42 x44)).bind fun t521 => (if x10.length + t521.length < 8796093022208 then (spec_ruFold.l0 k x0 x1 x2 (x10 ++ t521) x42 x43 (wrap64 (x44 + 1))) else (none))) else (none)) else (none)) else (if 0 ≤ x2 then (if x2 < (x0.length : Int) then (if x10.length < 8796093022208 then (some (x10 ++ [(⟨(rd_T52 x0 x2).f0, (rd_T52 x0 x2).f1⟩ : S52)])) else (none)) else (none)) else (none))
def spec_ruFold.f : Nat → List (S52) → List (List Int) → Int → Option ((List (S52)))
 | 0, _, _, _ => none
 | k + 1, l0, l1, a2 => (spec_ruSize.f k l1 a2).bind fun t504 => (if 0 ≤ (wrap64 ((wrap64 (a2 + 1)) - t504)) then (if (wrap64 ((wrap64 (a2 + 1)) - t504)) ≤ (wrap64 (a2 + 1)) then (if (wrap64 (a2 + 1)) ≤ (l0.length : Int) then ((some ((l0.take ((wrap64 (a2 + 1)) : Int).toNat).drop ((wrap64 ((wrap64 (a2 + 1)) - t504)) : Int).toNat : List (S52))).bind fun y505 => ((spec_ruWithout.f k y505).bind fun t509 => (if t509 = true then (if 5 ≤ 35184372088832 then ((spec_ruEval.f k y505 (List.replicate 5 0)).bind fun bt513 => (if bt513.2 = true then ((spec_l1In.f bt513.1 0 1000000).bind fun t515 => (if t515 = true then (some (([(⟨0, bt513.1⟩ : S52)] : List (S52)))) else (spec_ruFold.j0 k l0 l1 a2))) else (spec_ruFold.j0 k l0 l1 a2))) else (none)) else (spec_ruFold.j0 k l0 l1 a2)))) else (none)) else (none)) else (none))
end
set_option maxHeartbeats 8000000 in
set_option maxRecDepth 100000 in
theorem spec_ruFold.calls (k : Nat) : ∀ (A0 : Option Addr) (c0 : Nat) (l0 : List (S52)) (A1 : Option Addr) (c1 : Nat) (l1 : List (List Int)) (a2 : Int) (r : List (S52)) (w : World) (hr0 : Kd.C k52 w A0 l0.length l0) (hc0 : l0.length ≤ c0) (hr1 : Kd.C (Kd.slice 3 (Kd.int .i64)) w A1 l1.length l1) (hc1 : l1.length ≤ c1) (h : spec_ruFold.f k l0 l1 a2 = some r),
  Calls Try.prog 23 #[.slice A0 l0.length c0, .slice A1 l1.length c1, .int .i64 a2] w fun e w' => ∃ v0_ : Value, e = .returned (v0_) ∧ Kd.R k52 52 w' w.heap.size (fun _ => True) v0_ r ∧ Below w.heap.size w w' := by
 induction k using Nat.strongRecOn with
 | _ k ih =>
 intro A0 c0 l0 A1 c1 l1 a2 r w hr0 hc0 hr1 hc1 h
 cases k with
 | zero => exact absurd h (by simp [spec_ruFold.f])
 | succ k =>
 simp only [spec_ruFold.f] at h
 have hu52 := Try.underlying52
 have HR0 := Aside0.mk hr0
 have HC0 := Aside0.mk hc0
 clear hr0 hc0
 have HR1 := Aside0.mk hr1
 have HC1 := Aside0.mk hc1
 clear hr1 hc1
 have HB := Aside0.mk (Below.refl w.heap.size w)
 have H : ((spec_ruSize.f k l1 a2).bind fun t504 => (if 0 ≤ (wrap64 ((wrap64 (a2 + 1)) - t504)) then (if (wrap64 ((wrap64 (a2 + 1)) - t504)) ≤ (wrap64 (a2 + 1)) then (if (wrap64 (a2 + 1)) ≤ (l0.length : Int) then ((some ((l0.take ((wrap64 (a2 + 1)) : Int).toNat).drop ((wrap64 ((wrap64 (a2 + 1)) - t504)) : Int).toNat : List (S52))).bind fun y505 => ((spec_ruWithout.f k y505).bind fun t509 => (if t509 = true then (if 5 ≤ 35184372088832 then ((spec_ruEval.f k y505 (List.replicate 5 0)).bind fun bt513 => (if bt513.2 = true then ((spec_l1In.f bt513.1 0 1000000).bind fun t515 => (if t515 = true then (some (([(⟨0, bt513.1⟩ : S52)] : List (S52)))) else (spec_ruFold.j0 k l0 l1 a2))) else (spec_ruFold.j0 k l0 l1 a2))) else (none)) else (spec_ruFold.j0 k l0 l1 a2)))) else (none)) else (none)) else (none))) = some r := h
 clear h
 replace H := Option.bind_eq_some_iff.mp H
 obtain ⟨t504, A40, H⟩ := H
 replace H : (if 0 ≤ (wrap64 ((wrap64 (a2 + 1)) - t504)) then (if (wrap64 ((wrap64 (a2 + 1)) - t504)) ≤ (wrap64 (a2 + 1)) then (if (wrap64 (a2 + 1)) ≤ (l0.length : Int) then ((some ((l0.take ((wrap64 (a2 + 1)) : Int).toNat).drop ((wrap64 ((wrap64 (a2 + 1)) - t504)) : Int).toNat : List (S52))).bind fun y505 => ((spec_ruWithout.f k y505).bind fun t509 => (if t509 = true then (if 5 ≤ 35184372088832 then ((spec_ruEval.f k y505 (List.replicate 5 0)).bind fun bt513 => (if bt513.2 = true then ((spec_l1In.f bt513.1 0 1000000).bind fun t515 => (if t515 = true then (some (([(⟨0, bt513.1⟩ : S52)] : List (S52)))) else (spec_ruFold.j0 k l0 l1 a2))) else (spec_ruFold.j0 k l0 l1 a2))) else (none)) else (spec_ruFold.j0 k l0 l1 a2)))) else (none)) else (none)) else (none)) = some r := H
 have A4 := Aside0.mk A40
 clear A40
 obtain ⟨ji5, hji5⟩ : ∃ j_ : Int, (wrap64 ((wrap64 (a2 + 1)) - t504)) = j_ := ⟨_, rfl⟩
 replace H : (if 0 ≤ (ji5) then (if (ji5) ≤ (wrap64 (a2 + 1)) then (if (wrap64 (a2 + 1)) ≤ (l0.length : Int) then ((some ((l0.take ((wrap64 (a2 + 1)) : Int).toNat).drop ((ji5) : Int).toNat : List (S52))).bind fun y505 => ((spec_ruWithout.f k y505).bind fun t509 => (if t509 = true then (if 5 ≤ 35184372088832 then ((spec_ruEval.f k y505 (List.replicate 5 0)).bind fun bt513 => (if bt513.2 = true then ((spec_l1In.f bt513.1 0 1000000).bind fun t515 => (if t515 = true then (some (([(⟨0, bt513.1⟩ : S52)] : List (S52)))) else (spec_ruFold.j0 k l0 l1 a2))) else (spec_ruFold.j0 k l0 l1 a2))) else (none)) else (spec_ruFold.j0 k l0 l1 a2)))) else (none)) else (none)) else (none)) = some r := by first | (rw [hji5] at H; exact H) | (simp only [hji5] at H ⊢; exact H)
 (try rw [hji5] at A4)
 have hji5w : (IntKind.i64.wrap ((wrap64 (a2 + 1)) - t504)) = ji5 := (i64_w _).trans hji5
 by_cases c6 : 0 ≤ (ji5)
 ·rw [if_pos c6] at H
  have c6b0 := eq_true c6
  have c6b1 : decide (0 ≤ (ji5)) = true := decide_eq_true c6
  clear c6
  by_cases c7 : (ji5) ≤ (wrap64 (a2 + 1))
  ·rw [if_pos c7] at H
   have c7b0 := eq_true c7
   have c7b1 : decide ((ji5) ≤ (wrap64 (a2 + 1))) = true := decide_eq_true c7
   by_cases c8 : (wrap64 (a2 + 1)) ≤ (l0.length : Int)
   ·rw [if_pos c8] at H
    have c8b0 := eq_true c8
    have c8b1 : decide ((wrap64 (a2 + 1)) ≤ (l0.length : Int)) = true := decide_eq_true c8
    obtain ⟨y505, hy505⟩ : ∃ y_ : List (S52), y_ = ((l0.take ((wrap64 (a2 + 1)) : Int).toNat).drop ((ji5) : Int).toNat) := ⟨_, rfl⟩
    replace H : ((spec_ruWithout.f k y505).bind fun t509 => (if t509 = true then (if 5 ≤ 35184372088832 then ((spec_ruEval.f k y505 (List.replicate 5 0)).bind fun bt513 => (if bt513.2 = true then ((spec_l1In.f bt513.1 0 1000000).bind fun t515 => (if t515 = true then (some (([(⟨0, bt513.1⟩ : S52)] : List (S52)))) else (spec_ruFold.j0 k l0 l1 a2))) else (spec_ruFold.j0 k l0 l1 a2))) else (none)) else (spec_ruFold.j0 k l0 l1 a2))) = some r := by first | (rw [hy505]; with_reducible exact H) | (have H2_ := (Option.bind_some _ _).symm.trans H; rw [hy505]; with_reducible exact H2_) | (have H2_ := (Option.bind_some _ _).symm.trans H; with_reducible exact H2_) | with_reducible exact H | (rw [hy505]; exact H) | exact H
    have Ny505 := Aside0.mk hy505
    clear hy505
    replace H := Option.bind_eq_some_iff.mp H
    obtain ⟨t509, A90, H⟩ := H
    replace H : (if t509 = true then (if 5 ≤ 35184372088832 then ((spec_ruEval.f k y505 (List.replicate 5 0)).bind fun bt513 => (if bt513.2 = true then ((spec_l1In.f bt513.1 0 1000000).bind fun t515 => (if t515 = true then (some (([(⟨0, bt513.1⟩ : S52)] : List (S52)))) else (spec_ruFold.j0 k l0 l1 a2))) else (spec_ruFold.j0 k l0 l1 a2))) else (none)) else (spec_ruFold.j0 k l0 l1 a2)) = some r := H
    have A9 := Aside0.mk A90
    clear A90
    have HC10 := Aside0.mk H
    clear H
    go_enter Try.func23, Try.ntmps23
    go_upto_if 24 with (first | ((with_reducible refine gate_callee (f := 38) rfl ?_); refine gl_ (some 18) Try.func38 #[.slice A1 l1.length c1, .int .i64 a2] rfl rfl rfl ?_; (with_reducible refine (spec_ruSize.calls k _ _ l1 a2 t504 _ ?side1 ?side2 A4.out).mono ?_); (case side1 => repeat (first | exact HR1.out | (with_reducible refine Kd.C_alloc ?_ _) | (with_reducible refine Kd.C_drewN ?_ _) | (with_reducible refine Kd.C_drew ?_))); (case side2 => exact HC1.out); rintro e w' ⟨rfl, ⟨nd, rfl⟩⟩; refine ⟨_, rfl, ?_⟩; have q11 : ((wrap64 (a2 + 1)) : Int) ≤ ((l0.length : Int) : Int) := of_decide_eq_true (by first | (with_reducible assumption) | assumption); obtain ⟨i011, hi011, _, hsz11, _⟩ := info_parts info52; have hroom11 : l0.length ≤ c0 := HC0.out; have hC11 : Kd.C k52 _ A0 l0.length l0 := HR0.out; have ql11 : ((ji5) : Int) ≤ ((wrap64 (a2 + 1)) : Int) := of_decide_eq_true (by first | (with_reducible assumption) | assumption); have q011 : (0 : Int) ≤ ((ji5) : Int) := of_decide_eq_true (by first | (with_reducible assumption) | assumption); have hcut11 := cut_mid (P := Try.prog) 23 52 .i64 .i64 Try.underlying23 hi011 2 hsz11 A0 l0.length c0 (ji5) (wrap64 (a2 + 1)) q011 ql11 q11 hroom11; have hr11 := Kd.C_mid (lo := ((ji5) : Int).toNat) (hi := ((wrap64 (a2 + 1)) : Int).toNat) (c := c0) hC11 (by omega) (by omega) hroom11; obtain ⟨A11, hA11⟩ : ∃ A1, A1 = (if c0 = ((ji5) : Int).toNat then A0 else (A0 : Option Addr).map (·.add (((ji5) : Int).toNat * 2))) := ⟨_, rfl⟩; obtain ⟨c11, hc11⟩ : ∃ c1, c1 = c0 - ((ji5) : Int).toNat := ⟨_, rfl⟩; have hy11 : y505.length = ((wrap64 (a2 + 1)) : Int).toNat - ((ji5) : Int).toNat := (by rw [Ny505.out, List.length_drop, List.length_take] <;> omega); rw [show ((l0).take ((wrap64 (a2 + 1)) : Int).toNat).drop ((ji5) : Int).toNat = y505 from Ny505.out.symm] at hr11; replace hr11 : Kd.C k52 _ A11 y505.length y505 := (by rw [hA11]; exact hr11); rw [← hy11, ← hA11, ← hc11] at hcut11; have HR508 := Aside0.mk hr11; have HC508 := Aside0.mk (show y505.length ≤ c11 from by rw [hy11, hc11]; exact Nat.sub_le_sub_right (Nat.le_trans (by omega) hroom11) _); clear hr11 hC11 hroom11 hi011 hsz11 hc11; have KY11 := Aside0.mk hy11; have KA11 := Aside0.mk hA11; clear hy11 hA11; replace q11 := eq_true q11) | ((with_reducible refine gate_callee (f := 39) rfl ?_); refine gl_ (some 24) Try.func39 #[.slice A11 y505.length c11] rfl rfl rfl ?_; (with_reducible refine (spec_ruWithout.calls k _ _ y505 t509 _ ?side1 ?side2 A9.out).mono ?_); (case side1 => repeat (first | exact HR508.out | (with_reducible refine Kd.C_alloc ?_ _) | (with_reducible refine Kd.C_drewN ?_ _) | (with_reducible refine Kd.C_drew ?_))); (case side2 => exact HC508.out); rintro e w12 ⟨rfl, hb⟩; refine ⟨_, rfl, ?_⟩; replace HB := hbs_ HB hb; (try clear hb); (try clear hb2); (try clear hk); (try clear hi)))
    (try simp only [Act.put, List.setIfInBounds_toArray, List.set_cons_zero, List.set_cons_succ])
    go_cut [] (fun wc => ∃ (kq : Nat), Aside0 (spec_ruFold.j0 kq l0 l1 a2 = some r) ∧ Aside0 (kq ≤ k) ∧ Aside0 (Below w.heap.size w wc))
    case first =>
     have H := HC10.out
     clear HC10
     by_cases c13 : t509 = true
     ·subst c13
      have H1 : (if 5 ≤ 35184372088832 then ((spec_ruEval.f k y505 (List.replicate 5 0)).bind fun bt513 => (if bt513.2 = true then ((spec_l1In.f bt513.1 0 1000000).bind fun t515 => (if t515 = true then (some (([(⟨0, bt513.1⟩ : S52)] : List (S52)))) else (spec_ruFold.j0 k l0 l1 a2))) else (spec_ruFold.j0 k l0 l1 a2))) else (none)) = some r := by rw [if_pos rfl] at H; exact H
      clear H
      have H := H1
      clear H1
      by_cases c14 : 5 ≤ 35184372088832
      ·rw [if_pos c14] at H
       have c14b0 := eq_true c14
       have c14b1 : decide (5 ≤ 35184372088832) = true := decide_eq_true c14
       clear c14
       obtain ⟨y510, hy510⟩ : ∃ y_ : List Int, y_ = (List.replicate 5 0) := ⟨_, rfl⟩
       replace H : ((spec_ruEval.f k y505 y510).bind fun bt513 => (if bt513.2 = true then ((spec_l1In.f bt513.1 0 1000000).bind fun t515 => (if t515 = true then (some (([(⟨0, bt513.1⟩ : S52)] : List (S52)))) else (spec_ruFold.j0 k l0 l1 a2))) else (spec_ruFold.j0 k l0 l1 a2))) = some r := by first | (rw [hy510]; with_reducible exact H) | (have H2_ := (Option.bind_some _ _).symm.trans H; rw [hy510]; with_reducible exact H2_) | (have H2_ := (Option.bind_some _ _).symm.trans H; with_reducible exact H2_) | with_reducible exact H | (rw [hy510]; exact H) | exact H
       have Ny510 := Aside0.mk hy510
       clear hy510
       replace H := Option.bind_eq_some_iff.mp H
       obtain ⟨⟨t513, t514⟩, A150, H⟩ := H
       replace H : (if t514 = true then ((spec_l1In.f t513 0 1000000).bind fun t515 => (if t515 = true then (some (([(⟨0, t513⟩ : S52)] : List (S52)))) else (spec_ruFold.j0 k l0 l1 a2))) else (spec_ruFold.j0 k l0 l1 a2)) = some r := H
       have A15 := Aside0.mk A150
       clear A150
       by_cases c16 : t514 = true
       ·subst c16
        have H1 : ((spec_l1In.f t513 0 1000000).bind fun t515 => (if t515 = true then (some (([(⟨0, t513⟩ : S52)] : List (S52)))) else (spec_ruFold.j0 k l0 l1 a2))) = some r := by rw [if_pos rfl] at H; exact H
        clear H
        have H := H1
        clear H1
        replace H := Option.bind_eq_some_iff.mp H
        obtain ⟨t515, A170, H⟩ := H
        replace H : (if t515 = true then (some (([(⟨0, t513⟩ : S52)] : List (S52)))) else (spec_ruFold.j0 k l0 l1 a2)) = some r := H
        have A17 := Aside0.mk A170
        clear A170
        by_cases c18 : t515 = true
        ·subst c18
         have H1 : (some (([(⟨0, t513⟩ : S52)] : List (S52)))) = some r := by rw [if_pos rfl] at H; exact H
         clear H
         have H := H1
         clear H1
         obtain ⟨y516, hy516⟩ : ∃ y_ : List (S52), y_ = (([(⟨0, t513⟩ : S52)] : List (S52))) := ⟨_, rfl⟩
         replace H : (some y516) = some r := by first | (rw [hy516]; with_reducible exact H) | (have H2_ := (Option.bind_some _ _).symm.trans H; rw [hy516]; with_reducible exact H2_) | (have H2_ := (Option.bind_some _ _).symm.trans H; with_reducible exact H2_) | with_reducible exact H | (rw [hy516]; exact H) | exact H
         have Ny516 := Aside0.mk hy516
         clear hy516
         obtain rfl := Option.some.inj H
         go_wp2_with (first | ((with_reducible refine gate_dst (N := 27) rfl ?_); refine Kd.R_make (Kd.int .i64) _ 3 rfl (N := 27) rfl 24 _ _ rfl 5 rfl rfl Try.underlying24 (.int .i64 0) 8 info3 rfl (by decide) (by omega) 0 (ok := fun _ => True) (okp := fun _ => True) rfl (fun _ hk => hk) trivial (by omega) (by omega) (Below.refl _ _) (Nat.le_refl _) ?_; intro v511 w19 ho20 hb hg_ hnew_; clear hg_ hnew_; (first | rw [← Ny510.out] at ho20 | (simp only [Int.reduceToNat] at ho20; rw [← Ny510.out] at ho20)); have HO512 := Kd.R_lo ho20 HB; replace HB := hbs_ HB hb; clear hb ho20; obtain ⟨Ao21, co21, eo21⟩ := Kd.R_slice HO512.out; subst eo21) | ((with_reducible refine gate_callee (f := 20) rfl ?_); refine gl_ (some 28) Try.func20 #[.slice A11 y505.length c11, .slice Ao21 y510.length co21] rfl rfl rfl ?_; (with_reducible refine (spec_ruEval.calls k _ _ y505 _ _ y510 t513 true _ ?side1 ?side2 ?side3 ?side4 A15.out).mono ?_); (case side1 => exact Kd.C_w HR508 HB); (case side2 => exact HC508.out); (case side3 => exact Kd.C_o HO512); (case side4 => exact (Kd.R_reads' HO512.out).2.1); rintro e w22 ⟨rfl, hb⟩; refine ⟨_, rfl, ?_⟩; replace HO512 := Kd.R_b HO512 hb; replace HB := hbs_ HB hb; (try clear hb); (try clear hb2); (try clear hk); (try clear hi); try clear HO512) | (go_at_call 26; (with_reducible refine (spec_l1In.calls t513 0 1000000 true _ A17.out).mono ?_); rintro e w' ⟨rfl, ⟨nd, rfl⟩⟩) | ((with_reducible refine gate_dst (N := 38) rfl ?_); refine Kd.R_lit k52 _ 52 ?hg (N := 38) ?hd (xs := ([(⟨0, t513⟩ : S52)] : List (S52))) (inner := [.int .i64 0, .int .i64 t513]) (ok := fun _ => True) (okp := fun _ => True) ?hr ?hp (fun _ hk => hk) trivial (Below.refl _ _) (Nat.le_refl _) (by simp) ?_; (case hd => rfl); (case hg => rfl); (case hr => first | (go_simp; done) | (go_simp; rfl)); (case hp => exact (Reps.c2 (show Kd.M k52 _ _ _ (⟨0, t513⟩ : S52) [.int .i64 0, .int .i64 t513] from (k52_mkM _ _ _ (⟨0, t513⟩ : S52) )) (Reps.none _ _))); intro v517 w23 ho24 hb hg_ hnew_; clear hg_ hnew_; (first | rw [← Ny516.out] at ho24 | (simp only [Int.reduceToNat] at ho24; rw [← Ny516.out] at ho24)); have HO518 := Kd.R_lo ho24 HB; replace HB := hbs_ HB hb; clear hb ho24))
         go_ret
         exact ⟨_, by first | rfl | (simp [errW_none, errW_some] <;> rfl) | (simp only [← hji5]; first | rfl | (simp [errW_none, errW_some] <;> rfl)) | (simp [*, errW_none, errW_some] <;> rfl), Kd.R_p HO518, hb_ HB⟩
        ·replace c18 := Bool.eq_false_iff.mpr c18
         subst c18
         have H1 : (spec_ruFold.j0 k l0 l1 a2) = some r := by rw [if_neg (show ¬ (false = true) by decide)] at H; exact H
         clear H
         have H := H1
         clear H1
         have H' := Aside0.mk H
         clear H
         go_wp2_with (first | ((with_reducible refine gate_dst (N := 27) rfl ?_); refine Kd.R_make (Kd.int .i64) _ 3 rfl (N := 27) rfl 24 _ _ rfl 5 rfl rfl Try.underlying24 (.int .i64 0) 8 info3 rfl (by decide) (by omega) 0 (ok := fun _ => True) (okp := fun _ => True) rfl (fun _ hk => hk) trivial (by omega) (by omega) (Below.refl _ _) (Nat.le_refl _) ?_; intro v511 w25 ho26 hb hg_ hnew_; clear hg_ hnew_; (first | rw [← Ny510.out] at ho26 | (simp only [Int.reduceToNat] at ho26; rw [← Ny510.out] at ho26)); have HO512 := Kd.R_lo ho26 HB; replace HB := hbs_ HB hb; clear hb ho26; obtain ⟨Ao27, co27, eo27⟩ := Kd.R_slice HO512.out; subst eo27) | ((with_reducible refine gate_callee (f := 20) rfl ?_); refine gl_ (some 28) Try.func20 #[.slice A11 y505.length c11, .slice Ao27 y510.length co27] rfl rfl rfl ?_; (with_reducible refine (spec_ruEval.calls k _ _ y505 _ _ y510 t513 true _ ?side1 ?side2 ?side3 ?side4 A15.out).mono ?_); (case side1 => exact Kd.C_w HR508 HB); (case side2 => exact HC508.out); (case side3 => exact Kd.C_o HO512); (case side4 => exact (Kd.R_reads' HO512.out).2.1); rintro e w28 ⟨rfl, hb⟩; refine ⟨_, rfl, ?_⟩; replace HO512 := Kd.R_b HO512 hb; replace HB := hbs_ HB hb; (try clear hb); (try clear hb2); (try clear hk); (try clear hi); try clear HO512) | (go_at_call 26; (with_reducible refine (spec_l1In.calls t513 0 1000000 false _ A17.out).mono ?_); rintro e w' ⟨rfl, ⟨nd, rfl⟩⟩))
         go_meet
         case rel => exact ⟨_, H', ⟨by first | omega | exact Nat.le_refl _⟩, ⟨hb_ HB⟩⟩
       ·replace c16 := Bool.eq_false_iff.mpr c16
        subst c16
        have H1 : (spec_ruFold.j0 k l0 l1 a2) = some r := by rw [if_neg (show ¬ (false = true) by decide)] at H; exact H
        clear H
        have H := H1
        clear H1
        have H' := Aside0.mk H
        clear H
        go_wp2_with (first | ((with_reducible refine gate_dst (N := 27) rfl ?_); refine Kd.R_make (Kd.int .i64) _ 3 rfl (N := 27) rfl 24 _ _ rfl 5 rfl rfl Try.underlying24 (.int .i64 0) 8 info3 rfl (by decide) (by omega) 0 (ok := fun _ => True) (okp := fun _ => True) rfl (fun _ hk => hk) trivial (by omega) (by omega) (Below.refl _ _) (Nat.le_refl _) ?_; intro v511 w29 ho30 hb hg_ hnew_; clear hg_ hnew_; (first | rw [← Ny510.out] at ho30 | (simp only [Int.reduceToNat] at ho30; rw [← Ny510.out] at ho30)); have HO512 := Kd.R_lo ho30 HB; replace HB := hbs_ HB hb; clear hb ho30; obtain ⟨Ao31, co31, eo31⟩ := Kd.R_slice HO512.out; subst eo31) | ((with_reducible refine gate_callee (f := 20) rfl ?_); refine gl_ (some 28) Try.func20 #[.slice A11 y505.length c11, .slice Ao31 y510.length co31] rfl rfl rfl ?_; (with_reducible refine (spec_ruEval.calls k _ _ y505 _ _ y510 t513 false _ ?side1 ?side2 ?side3 ?side4 A15.out).mono ?_); (case side1 => exact Kd.C_w HR508 HB); (case side2 => exact HC508.out); (case side3 => exact Kd.C_o HO512); (case side4 => exact (Kd.R_reads' HO512.out).2.1); rintro e w32 ⟨rfl, hb⟩; refine ⟨_, rfl, ?_⟩; replace HO512 := Kd.R_b HO512 hb; replace HB := hbs_ HB hb; (try clear hb); (try clear hb2); (try clear hk); (try clear hi)))
        go_meet
        case rel => exact ⟨_, H', ⟨by first | omega | exact Nat.le_refl _⟩, ⟨hb_ HB⟩⟩
      ·rw [if_neg c14] at H
       exact absurd H (by simp)
     ·replace c13 := Bool.eq_false_iff.mpr c13
      subst c13
      have H1 : (spec_ruFold.j0 k l0 l1 a2) = some r := by rw [if_neg (show ¬ (false = true) by decide)] at H; exact H
      clear H
      have H := H1
      clear H1
      have H' := Aside0.mk H
      clear H
      go_wp2
      go_meet
      case rel => exact ⟨_, H', ⟨by first | omega | exact Nat.le_refl _⟩, ⟨hb_ HB⟩⟩
    case rest =>
     clear HC10
     (try clear c1); (try clear q1); (try clear c2); (try clear p2); (try clear c3); (try clear c6); (try clear c6b0); (try clear c6b1); (try clear p6); (try clear c7); (try clear c7b0); (try clear c7b1); (try clear c8); (try clear c8b0); (try clear c8b1); (try clear c11); (try clear q11); (try clear c13); (try clear c14); (try clear c14b0); (try clear c14b1); (try clear c16); (try clear c18); (try clear c20); (try clear c23); (try clear q011); (try clear q11)
     obtain ⟨kq, HA, HJ9, HB⟩ := hcut
     cases kq with
     | zero => exact absurd HA.out (by simp [spec_ruFold.j0])
     | succ kj9 =>
      have H := HA.out
      clear HA
      simp only [spec_ruFold.j0] at H
      by_cases c33 : 0 ≤ a2
      ·rw [if_pos c33] at H
       have c33b0 : decide (0 ≤ a2) = true := decide_eq_true c33
       clear c33
       by_cases c34 : a2 < (l1.length : Int)
       ·rw [if_pos c34] at H
        have c34b0 : decide (a2 < (l1.length : Int)) = true := decide_eq_true c34
        clear c34
        have H' := Aside0.mk H
        clear H
        have p519 : 0 ≤ (a2 : Int) := of_decide_eq_true (by first | (with_reducible assumption) | assumption)
        have q519 : a2 < (l1.length : Int) := of_decide_eq_true (by first | (with_reducible assumption) | assumption)
        obtain ⟨ad519, A519_0, c519_0, e519, hx519_0, hl519_0, hi519_0⟩ := at_L3 HR1.out a2 p519 q519
        cases e519
        replace hx519_0 := (HB.out.cell (World.block_lt_of_cell? w _ hx519_0)).trans hx519_0
        have HR519_0 := Aside0.mk hi519_0
        have HC519_0 := Aside0.mk hl519_0
        clear hi519_0 hl519_0
        replace p519 := eq_true p519
        replace q519 := eq_true q519
        go_wp2
        go_loopg [10, 44] kj9 (fun kq v10 v44 w' => ∃ (x10_2 : List (S52)) (x44_2 : Int), v44 = .int .i64 x44_2 ∧ Aside0 (spec_ruFold.l0 kq l0 l1 a2 x10_2 (rd_L3 l1 a2) ((rd_L3 l1 a2).length : Int) x44_2 = some r) ∧ Aside0 (kq ≤ kj9) ∧ Aside0 (Kd.R k52 52 w' w.heap.size (fun _ => True) v10 x10_2) ∧ Aside0 (Below w.heap.size w w'))
        case atStart => exact ⟨(([] : List (S52))), (0), (by first | rfl | (simp; done) | (simp [*]; done)), H', ⟨Nat.le_refl _⟩, ⟨by first | exact Kd.R_nil _ _ _ _ _ | exact Kd.N_nil _ _ _ _ _ | exact Kd.V_nil _ _ _ _ _ | exact Kd.Q_nil _ _ _ _ _ | exact Kd.S_nil _ _ _ _ _⟩, ⟨hb_ HB⟩⟩
        case round =>
         clear H'
         (try clear c1); (try clear q1); (try clear c2); (try clear p2); (try clear c3); (try clear c5); (try clear p5); (try clear q5); (try clear hx5); (try clear c6); (try clear c6b0); (try clear c6b1); (try clear p6); (try clear c7); (try clear c7b0); (try clear c7b1); (try clear c8); (try clear c8b0); (try clear c8b1); (try clear c11); (try clear q11); (try clear c13); (try clear c14); (try clear c14b0); (try clear c14b1); (try clear c16); (try clear c18); (try clear c20); (try clear c23); (try clear c33); (try clear c33b0); (try clear c34); (try clear c34b0); (try clear hx519_0); (try clear p519); (try clear q519)
         obtain ⟨x10_2, x44_2, rfl, HA, HK2, HO_10, HB⟩ := hrel
         cases gk with
         | zero => exact absurd HA.out (by simp [spec_ruFold.l0])
         | succ k2 =>
          have H := HA.out
          clear HA
          simp only [spec_ruFold.l0] at H
          by_cases c35 : x44_2 < ((rd_L3 l1 a2).length : Int)
          ·rw [if_pos c35] at H
           have c35b0 : decide (x44_2 < ((rd_L3 l1 a2).length : Int)) = true := decide_eq_true c35
           clear c35
           by_cases c36 : 0 ≤ x44_2
           ·rw [if_pos c36] at H
            have c36b0 : decide (0 ≤ x44_2) = true := decide_eq_true c36
            clear c36
            by_cases c37 : x44_2 < ((rd_L3 l1 a2).length : Int)
            ·rw [if_pos c37] at H
             have c37b0 : decide (x44_2 < ((rd_L3 l1 a2).length : Int)) = true := decide_eq_true c37
             clear c37
             replace H := Option.bind_eq_some_iff.mp H
             obtain ⟨t521, A380, H⟩ := H
             replace H : (if x10_2.length + t521.length < 8796093022208 then (spec_ruFold.l0 k2 l0 l1 a2 (x10_2 ++ t521) (rd_L3 l1 a2) ((rd_L3 l1 a2).length : Int) (wrap64 (x44_2 + 1))) else (none)) = some r := H
             have A38 := Aside0.mk A380
             clear A380
             by_cases c39 : x10_2.length + t521.length < 8796093022208
             ·rw [if_pos c39] at H
              have LMc39 := Aside0.mk c39
              clear c39
              obtain ⟨y524, hy524⟩ : ∃ y_ : List (S52), y_ = (x10_2 ++ t521) := ⟨_, rfl⟩
              replace H : (spec_ruFold.l0 k2 l0 l1 a2 y524 (rd_L3 l1 a2) ((rd_L3 l1 a2).length : Int) (wrap64 (x44_2 + 1))) = some r := by first | (rw [hy524]; with_reducible exact H) | (have H2_ := (Option.bind_some _ _).symm.trans H; rw [hy524]; with_reducible exact H2_) | (have H2_ := (Option.bind_some _ _).symm.trans H; with_reducible exact H2_) | with_reducible exact H | (rw [hy524]; exact H) | exact H
              have Ny524 := Aside0.mk hy524
              clear hy524
              have H' := Aside0.mk H
              clear H
              have p520 : 0 ≤ (x44_2 : Int) := of_decide_eq_true (by first | (with_reducible assumption) | assumption)
              have q520 : x44_2 < ((rd_L3 l1 a2).length : Int) := of_decide_eq_true (by first | (with_reducible assumption) | assumption)
              obtain ⟨ad520, e520, hx520_0⟩ := Kd.at_int HR519_0.out x44_2 p520 q520
              cases e520
              replace hx520_0 := (HB.out.cell (World.block_lt_of_cell? w _ hx520_0)).trans hx520_0
              replace p520 := eq_true p520
              replace q520 := eq_true q520
              go_wp2_with (first | ((with_reducible refine gate_callee (f := 23) rfl ?_); refine gl_ (some 52) Try.func23 #[.slice A0 l0.length c0, .slice (some ad519) l1.length c1, .int .i64 (rd (rd_L3 l1 a2) x44_2)] rfl rfl rfl ?_; (with_reducible refine (ih k2 (by have := HJ9.out; have := HK2.out; omega) _ _ l0 _ _ l1 (rd (rd_L3 l1 a2) x44_2) t521 _ ?side1 ?side2 ?side3 ?side4 A38.out).mono ?_); (case side1 => exact Kd.C_w HR0 HB); (case side2 => exact HC0.out); (case side3 => exact Kd.C_w HR1 HB); (case side4 => exact HC1.out); rintro e w40 ⟨v522, rfl, ho0, hb⟩; refine ⟨_, rfl, ?_⟩; have HO523 := Kd.R_lo (Kd.R_nw ho0 HO_10) HB; replace HO_10 := Kd.R_e HO_10 ho0 hb; replace HB := hbs_ HB hb; (try clear hb); (try clear hb2); (try clear hk); (try clear hi); (try clear ho0); obtain ⟨Ao42, co42, eo42⟩ := Kd.R_slice HO523.out; subst eo42) | ((with_reducible refine gate_builtin (b := .append) (xs := #[.tmp 48, .tmp 52]) rfl ?_); at_builtin; refine Kd.R_append_rows k52 (w0 := w) w.heap.size rfl (.tmp 48) (.tmp 52) 23 52 (.agg #[(.int .i64 0), (.int .i64 0)]) 16 rfl Try.underlying23 info52 rfl (by decide) (by omega) u10 x10_2 t521 _ _ _ (fun k_ => some k_ ≠ (.slice Ao42 t521.length co42 : Value).ownBlock) (fun _ => False) rfl rfl ?aO ?aR (fun _ _ h => h) (fun _ h => h.elim) ?aF ?aB ?aS ?aL ?_; (case aR => exact Kd.C_o HO523); (case aB => exact (hb_ HB)); (case aF => exact (fun k_ hk => Kd.fresh' (Kd.R_lt (Kd.R_p HO523)) k_ hk)); (case aO => exact (Kd.R_pp (Kd.R_mono HO_10.out (fun _ hk => hk.2)))); (case aS => exact (below_size (hb_ HB))); (case aL => have := LMc39.out; omega); intro v525 w41 ho hb hg hat; rw [← Ny524.out] at ho; have HO526 := Aside0.mk (ho); replace HO523 := Aside0.mk (Kd.R_after (ok := (fun _ => True)) (Kd.R_p HO523) hg hat); replace HB := Aside0.mk (hb); clear HO_10; clear ho hb hg hat))
              go_roundg k2
              case measure => have := HJ9.out; have := HK2.out; omega
              case rel => exact ⟨(y524), (wrap64 (x44_2 + 1)), (by first | rfl | (simp; done) | (simp [*]; done)), H', ⟨by have := HJ9.out; have := HK2.out; omega⟩, ⟨Kd.R_pp (Kd.R_mono HO526.out (fun _ hk => trivial))⟩, ⟨hb_ HB⟩⟩
             ·rw [if_neg c39] at H
              exact absurd H (by simp)
            ·rw [if_neg c37] at H
             exact absurd H (by simp)
           ·rw [if_neg c36] at H
            exact absurd H (by simp)
          ·rw [if_neg c35] at H
           have c35b0 : decide (x44_2 < ((rd_L3 l1 a2).length : Int)) = false := decide_eq_false c35
           clear c35
           by_cases c43 : 0 ≤ a2
           ·rw [if_pos c43] at H
            have c43b0 : decide (0 ≤ a2) = true := decide_eq_true c43
            clear c43
            by_cases c44 : a2 < (l0.length : Int)
            ·rw [if_pos c44] at H
             have c44b0 : decide (a2 < (l0.length : Int)) = true := decide_eq_true c44
             clear c44
             by_cases c45 : x10_2.length < 8796093022208
             ·rw [if_pos c45] at H
              have LMc45 := Aside0.mk c45
              clear c45
              obtain ⟨y528, hy528⟩ : ∃ y_ : List (S52), y_ = (x10_2 ++ [(⟨(rd_T52 l0 a2).f0, (rd_T52 l0 a2).f1⟩ : S52)]) := ⟨_, rfl⟩
              replace H : (some y528) = some r := by first | (rw [hy528]; with_reducible exact H) | (have H2_ := (Option.bind_some _ _).symm.trans H; rw [hy528]; with_reducible exact H2_) | (have H2_ := (Option.bind_some _ _).symm.trans H; with_reducible exact H2_) | with_reducible exact H | (rw [hy528]; exact H) | exact H
              have Ny528 := Aside0.mk hy528
              clear hy528
              obtain rfl := Option.some.inj H
              have p527 : 0 ≤ (a2 : Int) := of_decide_eq_true (by first | (with_reducible assumption) | assumption)
              have q527 : a2 < (l0.length : Int) := of_decide_eq_true (by first | (with_reducible assumption) | assumption)
              obtain ⟨ad527, e527, hx527_0, hx527_1⟩ := at_T52 HR0.out a2 p527 q527
              cases e527
              replace hx527_0 := (HB.out.cell (World.block_lt_of_cell? w _ hx527_0)).trans hx527_0
              replace hx527_1 := (HB.out.cell (World.block_lt_of_cell? w _ hx527_1)).trans hx527_1
              replace p527 := eq_true p527
              replace q527 := eq_true q527
              go_wp2_with (first | ((with_reducible refine gate_builtin (b := .append) (xs := #[.tmp 55, .tmp 60]) rfl ?_); at_builtin; refine Kd.R_append k52 (w0 := w) w.heap.size rfl (.tmp 55) (.tmp 60) 23 52 (.agg #[(.int .i64 0), (.int .i64 0)]) 16 rfl Try.underlying23 info52 rfl (by decide) (by omega) u10 x10_2 (⟨(rd_T52 l0 a2).f0, (rd_T52 l0 a2).f1⟩ : S52) [.int .i64 ((rd_T52 l0 a2).f0), .int .i64 ((rd_T52 l0 a2).f1)] (fun _ => True) (fun _ => False) rfl rfl ?aP (fun _ hk => hk.elim) ?aF ?aO ?aB ?aS ?aL ?_; (case aP => exact k52_mkM _ _ _ (⟨(rd_T52 l0 a2).f0, (rd_T52 l0 a2).f1⟩ : S52)); (case aB => exact (hb_ HB)); (case aF => exact (fun _ _ => trivial)); (case aO => exact (Kd.R_p HO_10)); (case aS => exact (below_size (hb_ HB))); (case aL => have := LMc45.out; omega); intro v529 w46 ho hb hg hat; rw [← Ny528.out] at ho; have HO530 := Aside0.mk (ho); replace HB := Aside0.mk (hb); clear HO_10; clear ho hb hg hat))
              go_ret
              exact ⟨_, by first | rfl | (simp [errW_none, errW_some] <;> rfl) | (simp only [← hji5]; first | rfl | (simp [errW_none, errW_some] <;> rfl)) | (simp [*, errW_none, errW_some] <;> rfl), Kd.R_p HO530, hb_ HB⟩
             ·rw [if_neg c45] at H
              exact absurd H (by simp)
            ·rw [if_neg c44] at H
             exact absurd H (by simp)
           ·rw [if_neg c43] at H
            exact absurd H (by simp)
       ·rw [if_neg c34] at H
        exact absurd H (by simp)
      ·rw [if_neg c33] at H
       exact absurd H (by simp)
   ·rw [if_neg c8] at H
    exact absurd H (by simp)
  ·rw [if_neg c7] at H
   exact absurd H (by simp)
 ·rw [if_neg c6] at H
  exact absurd H (by simp)

/-! ### spec_FoldRule: function 8 -/
def spec_FoldRule.f (k : Nat) (l0 : List (S52)) : Option ((List (S52)) × Bool) := (spec_ruGood.f k l0).bind fun t531 => (if t531 = true then ((spec_ruTree.f k l0).bind fun bt532 => ((spec_ruFold.f k l0 bt532.1 (wrap64 ((l0.length : Int) - 1))).bind fun t536 => (some (t536, true)))) else (some (([] : List (S52)), false)))
set_option maxHeartbeats 8000000 in
set_option maxRecDepth 100000 in
theorem spec_FoldRule.calls (k : Nat) (A0 : Option Addr) (c0 : Nat) (l0 : List (S52)) (r1 : List (S52)) (r2 : Bool) (w : World) (hr0 : Kd.C k52 w A0 l0.length l0) (hc0 : l0.length ≤ c0) (h : spec_FoldRule.f k l0 = some (r1, r2)) :
  Calls Try.prog 8 #[.slice A0 l0.length c0] w fun e w' => ∃ v0_ : Value, e = .returned (.tuple #[v0_, .bool r2]) ∧ Kd.R k52 52 w' w.heap.size (fun _ => True) v0_ r1 ∧ Below w.heap.size w w' := by
 have HR0 := Aside0.mk hr0
 have HC0 := Aside0.mk hc0
 clear hr0 hc0
 have HB := Aside0.mk (Below.refl w.heap.size w)
 have H : ((spec_ruGood.f k l0).bind fun t531 => (if t531 = true then ((spec_ruTree.f k l0).bind fun bt532 => ((spec_ruFold.f k l0 bt532.1 (wrap64 ((l0.length : Int) - 1))).bind fun t536 => (some (t536, true)))) else (some (([] : List (S52)), false)))) = some (r1, r2) := h
 clear h
 replace H := Option.bind_eq_some_iff.mp H
 obtain ⟨t531, A20, H⟩ := H
 replace H : (if t531 = true then ((spec_ruTree.f k l0).bind fun bt532 => ((spec_ruFold.f k l0 bt532.1 (wrap64 ((l0.length : Int) - 1))).bind fun t536 => (some (t536, true)))) else (some (([] : List (S52)), false))) = some (r1, r2) := H
 have A2 := Aside0.mk A20
 clear A20
 by_cases c3 : t531 = true
 ·subst c3
  have H1 : ((spec_ruTree.f k l0).bind fun bt532 => ((spec_ruFold.f k l0 bt532.1 (wrap64 ((l0.length : Int) - 1))).bind fun t536 => (some (t536, true)))) = some (r1, r2) := by rw [if_pos rfl] at H; exact H
  clear H
  have H := H1
  clear H1
  replace H := Option.bind_eq_some_iff.mp H
  obtain ⟨⟨t532, t533⟩, A40, H⟩ := H
  replace H : ((spec_ruFold.f k l0 t532 (wrap64 ((l0.length : Int) - 1))).bind fun t536 => (some (t536, true))) = some (r1, r2) := H
  have A4 := Aside0.mk A40
  clear A40
  replace H := Option.bind_eq_some_iff.mp H
  obtain ⟨t536, A50, H⟩ := H
  replace H : (some (t536, true)) = some (r1, r2) := H
  have A5 := Aside0.mk A50
  clear A50
  simp only [Option.some.injEq, Prod.mk.injEq] at H
  obtain ⟨rfl, rfl⟩ := H
  go_enter Try.func8, Try.ntmps8
  go_wp2_with (first | ((with_reducible refine gate_callee (f := 18) rfl ?_); refine gl_ (some 7) Try.func18 #[.slice A0 l0.length c0] rfl rfl rfl ?_; (with_reducible refine (spec_ruGood.calls k _ _ l0 true _ ?side1 ?side2 A2.out).mono ?_); (case side1 => repeat (first | exact HR0.out | (with_reducible refine Kd.C_alloc ?_ _) | (with_reducible refine Kd.C_drewN ?_ _) | (with_reducible refine Kd.C_drew ?_))); (case side2 => exact HC0.out); rintro e w6 ⟨rfl, hb⟩; refine ⟨_, rfl, ?_⟩; replace HB := hbs_ HB hb; (try clear hb); (try clear hb2); (try clear hk); (try clear hi)) | ((with_reducible refine gate_callee (f := 22) rfl ?_); refine gl_ (some 11) Try.func22 #[.slice A0 l0.length c0] rfl rfl rfl ?_; (with_reducible refine (spec_ruTree.calls k _ _ l0 t532 t533 _ ?side1 ?side2 A4.out).mono ?_); (case side1 => exact Kd.C_w HR0 HB); (case side2 => exact HC0.out); rintro e w7 ⟨v534, rfl, ho0, hb⟩; refine ⟨_, rfl, ?_⟩; have HO535 := Aside0.mk (Kd.S_lower ho0 (below_size (hb_ HB))); replace HB := hbs_ HB hb; (try clear hb); (try clear hb2); (try clear hk); (try clear hi); (try clear ho0); obtain ⟨Ao8, co8, eo8⟩ := Kd.S_slice HO535.out; subst eo8) | ((with_reducible refine gate_callee (f := 23) rfl ?_); refine gl_ (some 19) Try.func23 #[.slice A0 l0.length c0, .slice Ao8 t532.length co8, .int .i64 (wrap64 ((l0.length : Int) - 1))] rfl rfl rfl ?_; (with_reducible refine (spec_ruFold.calls k _ _ l0 _ _ t532 (wrap64 ((l0.length : Int) - 1)) t536 _ ?side1 ?side2 ?side3 ?side4 A5.out).mono ?_); (case side1 => exact Kd.C_w HR0 HB); (case side2 => exact HC0.out); (case side3 => repeat (first | exact (Kd.S_reads' HO535.out).2.2 | (with_reducible refine Kd.C_alloc ?_ _) | (with_reducible refine Kd.C_drewN ?_ _) | (with_reducible refine Kd.C_drew ?_))); (case side4 => exact (Kd.S_reads' HO535.out).2.1); rintro e w9 ⟨v537, rfl, ho0, hb⟩; refine ⟨_, rfl, ?_⟩; have HO538 := Kd.R_lo ho0 HB; replace HO535 := Aside0.mk (Kd.S_below (by (with_reducible repeat (first | apply Kd.S_alloc | apply Kd.S_drewN | apply Kd.S_drew)); exact HO535.out) hb); replace HB := hbs_ HB hb; (try clear hb); (try clear hb2); (try clear hk); (try clear hi); (try clear ho0)))
  go_ret2
  exact ⟨_, by first | rfl | (simp [errW_none, errW_some] <;> rfl) | (simp [*, errW_none, errW_some] <;> rfl), Kd.R_p HO538, hb_ HB⟩
 ·replace c3 := Bool.eq_false_iff.mpr c3
  subst c3
  have H1 : (some (([] : List (S52)), false)) = some (r1, r2) := by rw [if_neg (show ¬ (false = true) by decide)] at H; exact H
  clear H
  have H := H1
  clear H1
  simp only [Option.some.injEq, Prod.mk.injEq] at H
  obtain ⟨rfl, rfl⟩ := H
  go_enter Try.func8, Try.ntmps8
  go_wp2_with (first | ((with_reducible refine gate_callee (f := 18) rfl ?_); refine gl_ (some 7) Try.func18 #[.slice A0 l0.length c0] rfl rfl rfl ?_; (with_reducible refine (spec_ruGood.calls k _ _ l0 false _ ?side1 ?side2 A2.out).mono ?_); (case side1 => repeat (first | exact HR0.out | (with_reducible refine Kd.C_alloc ?_ _) | (with_reducible refine Kd.C_drewN ?_ _) | (with_reducible refine Kd.C_drew ?_))); (case side2 => exact HC0.out); rintro e w10 ⟨rfl, hb⟩; refine ⟨_, rfl, ?_⟩; replace HB := hbs_ HB hb; (try clear hb); (try clear hb2); (try clear hk); (try clear hi)))
  go_ret2
  exact ⟨_, by first | rfl | (simp [errW_none, errW_some] <;> rfl) | (simp [*, errW_none, errW_some] <;> rfl), by first | exact Kd.R_nil _ _ _ _ _ | exact Kd.N_nil _ _ _ _ _ | exact Kd.V_nil _ _ _ _ _ | exact Kd.Q_nil _ _ _ _ _ | exact Kd.S_nil _ _ _ _ _, hb_ HB⟩

/-! ### spec_DrawPutField: function 9 -/
def spec_DrawPutField.f (k : Nat) (l0 : List Int) : Option ((List (S52)) × Int × (List (S52))) := (spec_l1Cur_anyRule.f k l0 0 0).bind fun bt540 => ((spec_l1Cur_pick.f l0 bt540.2.1 bt540.2.2 6).bind fun bt545 => ((spec_l1Cur_pick.f l0 bt545.2.1 bt545.2.2 20).bind fun bt548 => ((spec_l1Cur_rule.f k l0 bt548.2.1 bt548.2.2).bind fun bt551 => (some (bt540.1, wrap64 (bt545.1 - (wrap64 (Int.tdiv bt548.1 19))), bt551.1)))))
set_option maxHeartbeats 8000000 in
set_option maxRecDepth 100000 in
theorem spec_DrawPutField.calls (k : Nat) (A0 : Option Addr) (c0 : Nat) (l0 : List Int) (r1 : List (S52)) (r2 : Int) (r3 : List (S52)) (w : World) (hr0 : Kd.C (Kd.int .u8) w A0 l0.length l0) (hc0 : l0.length ≤ c0) (h : spec_DrawPutField.f k l0 = some (r1, r2, r3)) :
  Calls Try.prog 9 #[.slice A0 l0.length c0] w fun e w' => ∃ v0_ v2_ : Value, e = .returned (.tuple #[v0_, .int .i64 r2, v2_]) ∧ Kd.R k52 52 w' w.heap.size (fun k_ => some k_ ≠ (v2_ : Value).ownBlock) v0_ r1 ∧ Kd.R k52 52 w' w.heap.size (fun k_ => some k_ ≠ (v0_ : Value).ownBlock) v2_ r3 ∧ Below w.heap.size w w' := by
 have hu40 := Try.underlying40
 have HR0 := Aside0.mk hr0
 have HC0 := Aside0.mk hc0
 clear hr0 hc0
 have HB := Aside0.mk (Below.refl w.heap.size w)
 have H : ((spec_l1Cur_anyRule.f k l0 0 0).bind fun bt540 => ((spec_l1Cur_pick.f l0 bt540.2.1 bt540.2.2 6).bind fun bt545 => ((spec_l1Cur_pick.f l0 bt545.2.1 bt545.2.2 20).bind fun bt548 => ((spec_l1Cur_rule.f k l0 bt548.2.1 bt548.2.2).bind fun bt551 => (some (bt540.1, wrap64 (bt545.1 - (wrap64 (Int.tdiv bt548.1 19))), bt551.1)))))) = some (r1, r2, r3) := h
 clear h
 replace H := Option.bind_eq_some_iff.mp H
 obtain ⟨⟨t540, t543, t544⟩, A20, H⟩ := H
 replace H : ((spec_l1Cur_pick.f l0 t543 t544 6).bind fun bt545 => ((spec_l1Cur_pick.f l0 bt545.2.1 bt545.2.2 20).bind fun bt548 => ((spec_l1Cur_rule.f k l0 bt548.2.1 bt548.2.2).bind fun bt551 => (some (t540, wrap64 (bt545.1 - (wrap64 (Int.tdiv bt548.1 19))), bt551.1))))) = some (r1, r2, r3) := H
 have A2 := Aside0.mk A20
 clear A20
 replace H := Option.bind_eq_some_iff.mp H
 obtain ⟨⟨t545, t546, t547⟩, A30, H⟩ := H
 replace H : ((spec_l1Cur_pick.f l0 t546 t547 20).bind fun bt548 => ((spec_l1Cur_rule.f k l0 bt548.2.1 bt548.2.2).bind fun bt551 => (some (t540, wrap64 (t545 - (wrap64 (Int.tdiv bt548.1 19))), bt551.1)))) = some (r1, r2, r3) := H
 have A3 := Aside0.mk A30
 clear A30
 replace H := Option.bind_eq_some_iff.mp H
 obtain ⟨⟨t548, t549, t550⟩, A40, H⟩ := H
 replace H : ((spec_l1Cur_rule.f k l0 t549 t550).bind fun bt551 => (some (t540, wrap64 (t545 - (wrap64 (Int.tdiv t548 19))), bt551.1))) = some (r1, r2, r3) := H
 have A4 := Aside0.mk A40
 clear A40
 replace H := Option.bind_eq_some_iff.mp H
 obtain ⟨⟨t551, t554, t555⟩, A50, H⟩ := H
 replace H : (some (t540, wrap64 (t545 - (wrap64 (Int.tdiv t548 19))), t551)) = some (r1, r2, r3) := H
 have A5 := Aside0.mk A50
 clear A50
 simp only [Option.some.injEq, Prod.mk.injEq] at H
 obtain ⟨rfl, rfl, rfl⟩ := H
 go_enter Try.func9, Try.ntmps9
 go_wp2_with (first | ((with_reducible refine gate_dst (N := 8) rfl ?_); refine box_event ?hg (N := 8) ?hd (cs := #[.slice A0 l0.length c0, .int .i64 0, .int .u64 0]) (t := 40) ?hr ?_; (case hd => rfl); (case hg => rfl); (case hr => first | (go_simp; done) | (go_simp; rfl)); intro gb539 hg w6 hbox hb; have HI539 := Aside0.mk ((show IsS40 w w6 gb539 l0 0 0 from ⟨A0, c0, hbox, (by rw [hg]; exact (below_size (hb_ HB))), HR0.out⟩)); have GW539 := gs_ hg HB; have GE539 := gs_ hg HB; replace HB := hbs_ HB hb; clear hb hbox hg) | ((with_reducible refine gate_callee (f := 14) rfl ?_); refine gl_ (some 10) Try.func14 #[.pointer (some ⟨gb539, 0, none⟩)] rfl rfl rfl ?_; (with_reducible refine (spec_l1Cur_anyRule.calls k gb539 l0 0 0 t540 t543 t544 w _ ?side1 ?side2 A2.out).mono ?_); (case side1 => exact IsS40.q HI539); (case side2 => exact hbI_ HB (IsS40.ge HI539.out)); rintro e w7 ⟨v541, rfl, ho0, hi, hb, hk⟩; refine ⟨_, rfl, ?_⟩; have HO542 := Aside0.mk (Kd.R_lower ho0 (below_size (hbI_ HB (IsS40.ge HI539.out)))); replace HB := Aside0.mk (hb); replace HI539 := Aside0.mk (hi); (try clear hb); (try clear hb2); (try clear hk); (try clear hi); (try clear ho0)) | ((with_reducible refine gate_callee (f := 24) rfl ?_); refine gl_ (some 12) Try.func24 #[.pointer (some ⟨gb539, 0, none⟩), .int .i64 6] rfl rfl rfl ?_; (with_reducible refine (spec_l1Cur_pick.calls gb539 l0 t543 t544 6 t545 t546 t547 w _ ?side1 ?side2 A3.out).mono ?_); (case side1 => exact IsS40.q HI539); (case side2 => exact hbI_ HB (IsS40.ge HI539.out)); rintro e w8 ⟨rfl, hi, hb, hk⟩; refine ⟨_, rfl, ?_⟩; have n0_ := IsS40.rk HI539 HO542 hk; have n1_ := Aside0.mk (hb); have n2_ := Aside0.mk (hi); clear HO542 HB HI539; have HO542 := n0_; have HB := n1_; have HI539 := n2_; clear n0_ n1_ n2_; (try clear hb); (try clear hb2); (try clear hk); (try clear hi)) | ((with_reducible refine gate_callee (f := 24) rfl ?_); refine gl_ (some 14) Try.func24 #[.pointer (some ⟨gb539, 0, none⟩), .int .i64 20] rfl rfl rfl ?_; (with_reducible refine (spec_l1Cur_pick.calls gb539 l0 t546 t547 20 t548 t549 t550 w _ ?side1 ?side2 A4.out).mono ?_); (case side1 => exact IsS40.q HI539); (case side2 => exact hbI_ HB (IsS40.ge HI539.out)); rintro e w9 ⟨rfl, hi, hb, hk⟩; refine ⟨_, rfl, ?_⟩; have n0_ := IsS40.rk HI539 HO542 hk; have n1_ := Aside0.mk (hb); have n2_ := Aside0.mk (hi); clear HO542 HB HI539; have HO542 := n0_; have HB := n1_; have HI539 := n2_; clear n0_ n1_ n2_; (try clear hb); (try clear hb2); (try clear hk); (try clear hi)) | ((with_reducible refine gate_callee (f := 25) rfl ?_); refine gl_ (some 18) Try.func25 #[.pointer (some ⟨gb539, 0, none⟩)] rfl rfl rfl ?_; (with_reducible refine (spec_l1Cur_rule.calls k gb539 l0 t549 t550 t551 t554 t555 w _ ?side1 ?side2 A5.out).mono ?_); (case side1 => exact IsS40.q HI539); (case side2 => exact hbI_ HB (IsS40.ge HI539.out)); rintro e w10 ⟨v552, rfl, ho0, hi, hb, hk⟩; refine ⟨_, rfl, ?_⟩; have HO553 := Aside0.mk (Kd.R_lower (Kd.R_nw ho0 HO542) (below_size (hbI_ HB (IsS40.ge HI539.out)))); replace HO542 := Aside0.mk (Kd.R_mono (Kd.R_told (Kd.R_oldK (IsS40.apart (show IsS40 w _ gb539 l0 t549 t550 from IsS40.q HI539) (Kd.R_p HO542) (by decide)) hk) (Kd.R_base ho0)) (fun _ h_ => h_.1)); replace HB := Aside0.mk (hb); replace HI539 := Aside0.mk (hi); (try clear hb); (try clear hb2); (try clear hk); (try clear hi); (try clear ho0)))
 go_ret3
 exact ⟨_, _, by first | rfl | (simp [errW_none, errW_some] <;> rfl) | (simp [*, errW_none, errW_some] <;> rfl), Kd.R_pp (Kd.R_mono HO542.out (fun _ hk => hk.2)), Kd.R_pp (Kd.R_mono HO553.out (fun _ hk => hk.2)), hbI_ HB (IsS40.ge HI539.out)⟩

end Go.Proofs.Ytmhalgeoaccchaa.PFnFolded
