-- Laid for this claim by wip/tools/print2.sh, a changed copy of the kit's print (wip/tools/patch_print.py): not by print.sh.
import Derived.Test.YtikdododhkljeaaDoorPFnExactRuleTextx0
import Derived.Test.YtikdododhkljeaaDoorWSteps
import Derived.Test.YtikdododhkljeaaDoorWSqueeze
namespace Go.Proofs.YtikdododhkljeaaDoor.PFnExactRuleText
open Go.RowKit Go.Proofs.YtikdododhkljeaaDoorW.PrintWords Go.Proofs.YtikdododhkljeaaDoorW.PrintLast Go.Proofs.YtikdododhkljeaaDoorW.PrintMore
attribute [local go_sem] max2_int min2_int max_two min_two max_three min_three max_four min_four   -- for this text's walks alone
set_option linter.unusedVariables false
set_option linter.unusedSimpArgs false

/-! ### laws_szPartS: function 4 -/
def laws_szPartS.f (l0 : List (S35)) (a1 : Int) : Option (Int) := if (wrap64 (a1 - (l0.length : Int))) < 0 then (some (-1)) else (some (wrap64 (a1 - (l0.length : Int))))
set_option maxHeartbeats 8000000 in
set_option maxRecDepth 100000 in
theorem laws_szPartS.calls (A0 : Option Addr) (c0 : Nat) (l0 : List (S35)) (a1 : Int) (r : Int) (w : World) (hr0 : Kd.C k35 w A0 l0.length l0) (hc0 : l0.length ≤ c0) (h : laws_szPartS.f l0 a1 = some r) :
  Calls Tryd.prog 4 #[.slice A0 l0.length c0, .int .i64 a1] w fun e w' => e = .returned (.int .i64 r) ∧ Drawn0 w w' := by
 have HR0 := Aside0.mk hr0
 have HC0 := Aside0.mk hc0
 clear hr0 hc0
 have H := h
 unfold laws_szPartS.f at H
 clear h
 by_cases c3 : (wrap64 (a1 - (l0.length : Int))) < 0
 ·rw [if_pos c3] at H
  have c3b0 := decide_eq_true c3
  clear c3
  obtain rfl := Option.some.inj H
  go_enter Tryd.func4, Tryd.ntmps4
  go_wp2
  go_ret
  exact ⟨by first | rfl | (simp; done) | (simp [*]; done), by repeat (first | exact Drawn0.refl _ | apply Drawn0.step)⟩
 rw [if_neg c3] at H
 have c3b0 := decide_eq_false c3
 clear c3
 obtain rfl := Option.some.inj H
 go_enter Tryd.func4, Tryd.ntmps4
 go_wp2
 go_ret
 exact ⟨by first | rfl | (simp; done) | (simp [*]; done), by repeat (first | exact Drawn0.refl _ | apply Drawn0.step)⟩

/-! ### spec_l1In: function 15 -/
def spec_l1In.f (a0 : Int) (a1 : Int) (a2 : Int) : Option (Bool) := if a0 ≥ a1 then (some (decide (a0 ≤ a2))) else (some false)
set_option maxHeartbeats 8000000 in
set_option maxRecDepth 100000 in
theorem spec_l1In.calls (a0 : Int) (a1 : Int) (a2 : Int) (r : Bool) (w : World) (h : spec_l1In.f a0 a1 a2 = some r) :
  Calls Tryd.prog 15 #[.int .i64 a0, .int .i64 a1, .int .i64 a2] w fun e w' => e = .returned (.bool r) ∧ Drawn0 w w' := by
 have H := h
 unfold spec_l1In.f at H
 clear h
 by_cases c4 : a0 ≥ a1
 ·rw [if_pos c4] at H
  have c4b0 : decide (a1 ≤ a0) = true := decide_eq_true c4
  clear c4
  obtain rfl := Option.some.inj H
  go_enter Tryd.func15, Tryd.ntmps15
  go_wp2
  go_ret
  exact ⟨by first | rfl | (simp; done) | (simp [*]; done), by repeat (first | exact Drawn0.refl _ | apply Drawn0.step)⟩
 rw [if_neg c4] at H
 have c4b0 : decide (a1 ≤ a0) = false := decide_eq_false c4
 clear c4
 obtain rfl := Option.some.inj H
 go_enter Tryd.func15, Tryd.ntmps15
 go_wp2
 go_ret
 exact ⟨by first | rfl | (simp; done) | (simp [*]; done), by repeat (first | exact Drawn0.refl _ | apply Drawn0.step)⟩

/-! ### spec_ruPart: function 22 -/
def spec_ruPart.f (a0_0 : Int) (a0_1 : Int) : Option (Bool) := if a0_0 = 0 then ((spec_l1In.f a0_1 0 1000000).bind fun t102 => (some t102)) else (if a0_0 = 1 then ((spec_l1In.f a0_1 0 4).bind fun t103 => (some t103)) else ((spec_l1In.f a0_0 2 8).bind fun t104 => (if t104 = true then (some (a0_1 == 0)) else (some false))))
set_option maxHeartbeats 8000000 in
set_option maxRecDepth 100000 in
theorem spec_ruPart.calls (a0_0 : Int) (a0_1 : Int) (r : Bool) (w : World) (h : spec_ruPart.f a0_0 a0_1 = some r) :
  Calls Tryd.prog 22 #[.agg #[.int .i64 a0_0, .int .i64 a0_1]] w fun e w' => e = .returned (.bool r) ∧ Below w.heap.size w w' := by
 have hu33 := Tryd.underlying33
 have HB := Aside0.mk (Below.refl w.heap.size w)
 have H := h
 unfold spec_ruPart.f at H
 clear h
 by_cases c2 : a0_0 = 0
 ·rw [if_pos c2] at H
  have c2b0 : (a0_0 == 0) = true := beq_iff_eq.mpr c2
  have c2b1 : (a0_0 != 0) = false := bne_eq_false_iff_eq.mpr c2
  clear c2
  replace H := Option.bind_eq_some_iff.mp H
  obtain ⟨t102, A30, H⟩ := H
  try dsimp only at H
  have A3 := Aside0.mk A30
  clear A30
  obtain rfl := Option.some.inj H
  go_enter Tryd.func22, Tryd.ntmps22
  go_wp2_with (first | ((with_reducible refine gate_dst (N := 1) rfl ?_); refine bv_ 1 (cs := #[.int .i64 a0_0, .int .i64 a0_1]) (t := 33) ?_; intro gb101 hg w4 hbox hb; have BK101 := Aside0.mk (hbox); have GW101 := gs_ hg HB; have GE101 := gs_ hg HB; replace HB := hbs_ HB hb; clear hb hbox hg; obtain ⟨hcz5_0, hcz5_1, hfz5_0, hfz5_1⟩ := bx2 BK101) | ((with_reducible refine gate_callee (f := 15) rfl ?_); refine gl_ (some 9) Tryd.func15 #[.int .i64 a0_1, .int .i64 0, .int .i64 1000000] rfl rfl rfl ?_; (with_reducible refine (spec_l1In.calls a0_1 0 1000000 t102 _ A3.out).mono ?_); rintro e w' ⟨rfl, ⟨nd, rfl⟩⟩; refine ⟨_, rfl, ?_⟩))
  go_ret
  exact ad_ (hb_ HB)
 rw [if_neg c2] at H
 have c2b0 : (a0_0 == 0) = false := beq_eq_false_iff_ne.mpr c2
 have c2b1 : (a0_0 != 0) = true := bne_iff_ne.mpr c2
 by_cases c6 : a0_0 = 1
 ·rw [if_pos c6] at H
  have c6b0 : (a0_0 == 1) = true := beq_iff_eq.mpr c6
  have c6b1 : (a0_0 != 1) = false := bne_eq_false_iff_eq.mpr c6
  clear c6
  replace H := Option.bind_eq_some_iff.mp H
  obtain ⟨t103, A70, H⟩ := H
  try dsimp only at H
  have A7 := Aside0.mk A70
  clear A70
  obtain rfl := Option.some.inj H
  go_enter Tryd.func22, Tryd.ntmps22
  go_wp2_with (first | ((with_reducible refine gate_dst (N := 1) rfl ?_); refine bv_ 1 (cs := #[.int .i64 a0_0, .int .i64 a0_1]) (t := 33) ?_; intro gb101 hg w8 hbox hb; have BK101 := Aside0.mk (hbox); have GW101 := gs_ hg HB; have GE101 := gs_ hg HB; replace HB := hbs_ HB hb; clear hb hbox hg; obtain ⟨hcz9_0, hcz9_1, hfz9_0, hfz9_1⟩ := bx2 BK101) | ((with_reducible refine gate_callee (f := 15) rfl ?_); refine gl_ (some 14) Tryd.func15 #[.int .i64 a0_1, .int .i64 0, .int .i64 4] rfl rfl rfl ?_; (with_reducible refine (spec_l1In.calls a0_1 0 4 t103 _ A7.out).mono ?_); rintro e w' ⟨rfl, ⟨nd, rfl⟩⟩; refine ⟨_, rfl, ?_⟩))
  go_ret
  exact ad_ (hb_ HB)
 rw [if_neg c6] at H
 have c6b0 : (a0_0 == 1) = false := beq_eq_false_iff_ne.mpr c6
 have c6b1 : (a0_0 != 1) = true := bne_iff_ne.mpr c6
 replace H := Option.bind_eq_some_iff.mp H
 obtain ⟨t104, A100, H⟩ := H
 try dsimp only at H
 have A10 := Aside0.mk A100
 clear A100
 by_cases c11 : t104 = true
 ·subst c11
  rw [if_pos rfl] at H
  obtain rfl := Option.some.inj H
  go_enter Tryd.func22, Tryd.ntmps22
  go_wp2_with (first | ((with_reducible refine gate_dst (N := 1) rfl ?_); refine bv_ 1 (cs := #[.int .i64 a0_0, .int .i64 a0_1]) (t := 33) ?_; intro gb101 hg w12 hbox hb; have BK101 := Aside0.mk (hbox); have GW101 := gs_ hg HB; have GE101 := gs_ hg HB; replace HB := hbs_ HB hb; clear hb hbox hg; obtain ⟨hcz13_0, hcz13_1, hfz13_0, hfz13_1⟩ := bx2 BK101) | ((with_reducible refine gate_callee (f := 15) rfl ?_); refine gl_ (some 17) Tryd.func15 #[.int .i64 a0_0, .int .i64 2, .int .i64 8] rfl rfl rfl ?_; (with_reducible refine (spec_l1In.calls a0_0 2 8 true _ A10.out).mono ?_); rintro e w' ⟨rfl, ⟨nd, rfl⟩⟩; refine ⟨_, rfl, ?_⟩))
  go_ret
  exact ad_ (hb_ HB)
 replace c11 := Bool.eq_false_iff.mpr c11
 subst c11
 rw [if_neg (show ¬ (false = true) by decide)] at H
 obtain rfl := Option.some.inj H
 go_enter Tryd.func22, Tryd.ntmps22
 go_wp2_with (first | ((with_reducible refine gate_dst (N := 1) rfl ?_); refine bv_ 1 (cs := #[.int .i64 a0_0, .int .i64 a0_1]) (t := 33) ?_; intro gb101 hg w14 hbox hb; have BK101 := Aside0.mk (hbox); have GW101 := gs_ hg HB; have GE101 := gs_ hg HB; replace HB := hbs_ HB hb; clear hb hbox hg; obtain ⟨hcz15_0, hcz15_1, hfz15_0, hfz15_1⟩ := bx2 BK101) | ((with_reducible refine gate_callee (f := 15) rfl ?_); refine gl_ (some 17) Tryd.func15 #[.int .i64 a0_0, .int .i64 2, .int .i64 8] rfl rfl rfl ?_; (with_reducible refine (spec_l1In.calls a0_0 2 8 false _ A10.out).mono ?_); rintro e w' ⟨rfl, ⟨nd, rfl⟩⟩; refine ⟨_, rfl, ?_⟩))
 go_ret
 exact ad_ (hb_ HB)

/-! ### spec_ruNeeds: function 23 -/
def spec_ruNeeds.f (a0 : Int) : Option (Int) := if a0 ≤ 1 then (some 0) else (if a0 ≤ 5 then (some 2) else (some 4))
set_option maxHeartbeats 8000000 in
set_option maxRecDepth 100000 in
theorem spec_ruNeeds.calls (a0 : Int) (r : Int) (w : World) (h : spec_ruNeeds.f a0 = some r) :
  Calls Tryd.prog 23 #[.int .i64 a0] w fun e w' => e = .returned (.int .i64 r) ∧ Drawn0 w w' := by
 have H := h
 unfold spec_ruNeeds.f at H
 clear h
 by_cases c2 : a0 ≤ 1
 ·rw [if_pos c2] at H
  have c2b0 := decide_eq_true c2
  clear c2
  obtain rfl := Option.some.inj H
  go_enter Tryd.func23, Tryd.ntmps23
  go_wp2
  go_ret
  exact ⟨by first | rfl | (simp; done) | (simp [*]; done), by repeat (first | exact Drawn0.refl _ | apply Drawn0.step)⟩
 rw [if_neg c2] at H
 have c2b0 := decide_eq_false c2
 clear c2
 by_cases c3 : a0 ≤ 5
 ·rw [if_pos c3] at H
  have c3b0 := decide_eq_true c3
  clear c3
  obtain rfl := Option.some.inj H
  go_enter Tryd.func23, Tryd.ntmps23
  go_wp2
  go_ret
  exact ⟨by first | rfl | (simp; done) | (simp [*]; done), by repeat (first | exact Drawn0.refl _ | apply Drawn0.step)⟩
 rw [if_neg c3] at H
 have c3b0 := decide_eq_false c3
 clear c3
 obtain rfl := Option.some.inj H
 go_enter Tryd.func23, Tryd.ntmps23
 go_wp2
 go_ret
 exact ⟨by first | rfl | (simp; done) | (simp [*]; done), by repeat (first | exact Drawn0.refl _ | apply Drawn0.step)⟩

/-! ### spec_l1Own: function 24 -/
def spec_l1Own.f (l0 : List Int) : Option (List Int) := (some (([] : List Int) : List Int)).bind fun y105 => (if y105.length + l0.length < 17592186044416 then (some (y105 ++ l0)) else (none))
set_option maxHeartbeats 8000000 in
set_option maxRecDepth 100000 in
theorem spec_l1Own.calls (A0 : Option Addr) (c0 : Nat) (l0 : List Int) (r : List Int) (w : World) (hr0 : Kd.C (Kd.int .i64) w A0 l0.length l0) (hc0 : l0.length ≤ c0) (h : spec_l1Own.f l0 = some r) :
  Calls Tryd.prog 24 #[.slice A0 l0.length c0] w fun e w' => ∃ v0_ : Value, e = .returned (v0_) ∧ Kd.R (Kd.int .i64) 3 w' w.heap.size (fun _ => True) v0_ r ∧ Below w.heap.size w w' := by
 have HR0 := Aside0.mk hr0
 have HC0 := Aside0.mk hc0
 clear hr0 hc0
 have HB := Aside0.mk (Below.refl w.heap.size w)
 have H := h
 unfold spec_l1Own.f at H
 clear h
 obtain ⟨y105, hy105⟩ : ∃ y_ : List Int, y_ = (([] : List Int)) := ⟨_, rfl⟩
 replace H : (if y105.length + l0.length < 17592186044416 then (some (y105 ++ l0)) else (none)) = some r := by first | (rw [hy105]; with_reducible exact H) | (have H2_ := (Option.bind_some _ _).symm.trans H; rw [hy105]; with_reducible exact H2_) | (have H2_ := (Option.bind_some _ _).symm.trans H; with_reducible exact H2_) | with_reducible exact H | (rw [hy105]; exact H) | exact H
 have Ny105 := Aside0.mk hy105
 clear hy105
 by_cases c2 : y105.length + l0.length < 17592186044416
 case neg => rw [if_neg c2] at H; exact absurd H (by simp)
 rw [if_pos c2] at H
 have LMc2 := Aside0.mk c2
 clear c2
 obtain ⟨y108, hy108⟩ : ∃ y_ : List Int, y_ = (y105 ++ l0) := ⟨_, rfl⟩
 (try with_reducible replace H := (Option.bind_some _ _).symm.trans H); (try dsimp only at H); (try rw [← hy108] at H)
 have Ny108 := Aside0.mk hy108
 clear hy108
 obtain rfl := Option.some.inj H
 go_enter Tryd.func24, Tryd.ntmps24
 go_wp2_with (first | ((with_reducible refine gate_dst (N := 3) rfl ?_); refine Kd.R_lit (Kd.int .i64) _ 3 ?hg (N := 3) ?hd (xs := ([] : List Int)) (inner := []) (ok := fun _ => True) (okp := fun _ => True) ?hr ?hp (fun _ hk => hk) trivial (Below.refl _ _) (Nat.le_refl _) (by simp) ?_; (case hd => rfl); (case hg => rfl); (case hr => first | (go_simp; done) | (go_simp; rfl)); (case hp => exact (Reps.none _ _)); intro v106 w3 ho4 hb hg_ hnew_; clear hg_ hnew_; (first | rw [← Ny105.out] at ho4 | (simp only [Int.reduceToNat] at ho4; rw [← Ny105.out] at ho4)); have HO107 := Kd.R_lo ho4 HB; replace HB := hbs_ HB hb; clear hb ho4) | ((with_reducible refine gate_builtin (b := .append) (xs := #[.tmp 3, .tmp 4]) rfl ?_); at_builtin; refine Kd.R_append_rows (Kd.int .i64) (w0 := w) w.heap.size rfl (.tmp 3) (.tmp 4) 42 3 (.int .i64 0) 8 rfl Tryd.underlying42 info3 rfl (by decide) (by omega) v106 y105 l0 _ _ _ (fun _ => True) (fun _ => False) rfl rfl ?aO ?aR (fun _ _ h => h) (fun _ h => h.elim) ?aF ?aB ?aS ?aL ?_; (case aR => exact Kd.C_w HR0 HB); (case aB => exact (hb_ HB)); (case aF => exact (fun _ _ => trivial)); (case aO => exact (Kd.R_p HO107)); (case aS => exact (below_size (hb_ HB))); (case aL => have := LMc2.out; omega); intro v109 w5 ho hb hg hat; rw [← Ny108.out] at ho; have HO110 := Aside0.mk (ho); replace HB := Aside0.mk (hb); clear HO107; clear ho hb hg hat))
 go_ret
 exact ⟨_, by first | rfl | (simp [errW_none, errW_some] <;> rfl) | (simp [*, errW_none, errW_some] <;> rfl), Kd.R_p HO110, hb_ HB⟩

/-! ### spec_ruTree: function 16 -/
mutual
def spec_ruTree.l0 : Nat → List (List Int) → List Int → List (S33) → Int → Int → Option ((List (List Int)) × Bool)
 | 0, _, _, _, _, _ => none
 | k + 1, x4, x5, x9, x10, x11 => if x11 < x10 then (if 0 ≤ x11 then (if x11 < (x9.length : Int) then ((spec_ruPart.f ((rd_T33 x9 x11).f0) ((rd_T33 x9 x11).f1)).bind fun t113 => (if t113 = true then ((spec_ruNeeds.f ((rd_T33 x9 x11).f0)).bind fun t114 => (spec_ruTree.j1 k x4 x5 x11 x9 x10 x11 (decide (t114 > (x5.length : Int))) ((rd_T33 x9 x11).f0) ((rd_T33 x9 x11).f1))) else (spec_ruTree.j1 k x4 x5 x11 x9 x10 x11 true ((rd_T33 x9 x11).f0) ((rd_T33 x9 x11).f1)))) else (none)) else (none)) else (some (x4, ((x5.length : Int) == 1)))
def spec_ruTree.j1 : Nat → List (List Int) → List Int → Int → List (S33) → Int → Int → Bool → Int → Int → Option ((List (List Int)) × Bool)
 | 0, _, _, _, _, _, _, _, _, _ => none
 | k + 1, x4, x5, x6, x9, x10, x11, x26, x113000, x113001 => if x26 = true then (some (([] : List (List Int)), false)) else ((spec_ruNeeds.f x113000).bind fun t115 => (if 0 ≤ (wrap64 ((x5.length : Int) - t115)) then (if (wrap64 ((x5.length : Int) - t115)) ≤ (x5.length : Int) then ((spec_l1Own.f (x5.drop ((wrap64 ((x5.length : Int) - t115)) : Int).toNat)).bind fun t120 => (if x4.length < 5864062014805 then ((spec_l1Own.f (x5.take ((wrap64 ((x5.length : Int) - t115)) : Int).toNat)).bind fun t130 => (if t130.length < 17592186044416 then (spec_ruTree.l0 k (x4 ++ [t120]) (t130 ++ [x6]) x9 x10 (wrap64 (x11 + 1))) else (none))) else (none))) else (none)) else (none)))
end
def spec_ruTree.f (k : Nat) (l0 : List (S33)) : Option ((List (List Int)) × Bool) := spec_ruTree.l0 k ([] : List (List Int)) ([] : List Int) l0 (l0.length : Int) 0
set_option maxHeartbeats 8000000 in
set_option maxRecDepth 100000 in
theorem spec_ruTree.calls (k : Nat) (A0 : Option Addr) (c0 : Nat) (l0 : List (S33)) (r1 : List (List Int)) (r2 : Bool) (w : World) (hr0 : Kd.C k33 w A0 l0.length l0) (hc0 : l0.length ≤ c0) (h : spec_ruTree.f k l0 = some (r1, r2)) :
  Calls Tryd.prog 16 #[.slice A0 l0.length c0] w fun e w' => ∃ v0_ : Value, e = .returned (.tuple #[v0_, .bool r2]) ∧ Kd.S (Kd.slice 3 (Kd.int .i64)) 42 w' w.heap.size (fun _ => True) v0_ r1 ∧ Below w.heap.size w w' := by
 have hu33 := Tryd.underlying33
 have HR0 := Aside0.mk hr0
 have HC0 := Aside0.mk hc0
 clear hr0 hc0
 have HB := Aside0.mk (Below.refl w.heap.size w)
 have H := h
 unfold spec_ruTree.f at H
 clear h
 have H' := Aside0.mk H
 clear H
 go_enter Tryd.func16, Tryd.ntmps16
 go_wp2
 go_loopg [4, 5, 11] k (fun kq v4 v5 v11 w' => ∃ (x4_1 : List (List Int)) (x5_1 : List Int) (x11_1 : Int), v11 = .int .i64 x11_1 ∧ Aside0 (spec_ruTree.l0 kq x4_1 x5_1 l0 (l0.length : Int) x11_1 = some (r1, r2)) ∧ Aside0 (kq ≤ k) ∧ Aside0 (Kd.S (Kd.slice 3 (Kd.int .i64)) 42 w' w.heap.size (fun k_ => some k_ ≠ (v5 : Value).ownBlock) v4 x4_1) ∧ Aside0 (Kd.R (Kd.int .i64) 3 w' w.heap.size (fun _ => True) v5 x5_1) ∧ Aside0 (Below w.heap.size w w'))
 case atStart => exact ⟨(([] : List (List Int))), (([] : List Int)), (0), (by first | rfl | (simp; done) | (simp [*]; done)), H', ⟨Nat.le_refl _⟩, ⟨by first | exact Kd.S_nil _ _ _ _ _ | exact Kd.N_nil _ _ _ _ _ | exact Kd.V_nil _ _ _ _ _ | exact Kd.Q_nil _ _ _ _ _ | exact Kd.R_nil _ _ _ _ _⟩, ⟨by first | exact Kd.R_nil _ _ _ _ _ | exact Kd.N_nil _ _ _ _ _ | exact Kd.V_nil _ _ _ _ _ | exact Kd.Q_nil _ _ _ _ _ | exact Kd.S_nil _ _ _ _ _⟩, ⟨hb_ HB⟩⟩
 clear H'
 obtain ⟨x4_1, x5_1, x11_1, rfl, HA, HK1, HO_4, HO_5, HB⟩ := hrel
 cases gk with
 | zero => exact absurd HA.out (by simp [spec_ruTree.l0])
 | succ k1 => ?_
 have H := HA.out
 clear HA
 simp only [spec_ruTree.l0] at H
 by_cases c2 : x11_1 < (l0.length : Int)
 ·rw [if_pos c2] at H
  have c2b0 := decide_eq_true c2
  clear c2
  by_cases c3 : 0 ≤ x11_1
  case neg => rw [if_neg c3] at H; exact absurd H (by simp)
  rw [if_pos c3] at H
  have c3b0 := decide_eq_true c3
  clear c3
  by_cases c4 : x11_1 < (l0.length : Int)
  case neg => rw [if_neg c4] at H; exact absurd H (by simp)
  rw [if_pos c4] at H
  have c4b0 := decide_eq_true c4
  clear c4
  have HC5 := Aside0.mk H
  clear H
  have p111 : 0 ≤ (x11_1 : Int) := of_decide_eq_true (by first | (with_reducible assumption) | assumption)
  have q111 : x11_1 < (l0.length : Int) := of_decide_eq_true (by first | (with_reducible assumption) | assumption)
  obtain ⟨ad111, e111, hx111_0, hx111_1⟩ := at_T33 HR0.out x11_1 p111 q111
  cases e111
  replace hx111_0 := hc_ HB hx111_0
  replace hx111_1 := hc_ HB hx111_1
  replace p111 := eq_true p111
  replace q111 := eq_true q111
  go_upto_region 6 with (first | ((with_reducible refine gate_dst (N := 7) rfl ?_); (try (refine gate_guard (by rfl) ?_; dsimp only)); refine bv_ 7 (cs := #[.int .i64 0, .int .i64 0]) (t := 33) ?_; intro gb112 hg w6 hbox hb; have BK112 := Aside0.mk (hbox); have GW112 := gs_ hg HB; have GE112 := gs_ hg HB; replace HO_4 := Aside0.mk (Kd.S_below (by (with_reducible repeat (first | apply Kd.S_alloc | apply Kd.S_drewN | apply Kd.S_drew)); exact HO_4.out) hb); replace HO_5 := Kd.R_b HO_5 hb; replace HB := hbs_ HB hb; clear hb hbox hg; obtain ⟨hcz7_0, hcz7_1, hfz7_0, hfz7_1⟩ := bx2 BK112))
  (try simp only [Act.put, List.setIfInBounds_toArray, List.set_cons_zero, List.set_cons_succ])
  go_cut [26] (fun v26 wc => ∃ (kq : Nat) (x26_4 : Bool), v26 = .bool x26_4 ∧ Aside0 (spec_ruTree.j1 kq x4_1 x5_1 x11_1 l0 (l0.length : Int) x11_1 x26_4 ((rd_T33 l0 x11_1).f0) ((rd_T33 l0 x11_1).f1) = some (r1, r2)) ∧ Aside0 (kq ≤ k1) ∧ Aside0 (Kd.S (Kd.slice 3 (Kd.int .i64)) 42 wc w.heap.size (fun k_ => some k_ ≠ (u5 : Value).ownBlock) u4 x4_1) ∧ Aside0 (Kd.R (Kd.int .i64) 3 wc w.heap.size (fun _ => True) u5 x5_1) ∧ Aside0 (wc.heap[gb112]? = some (.cells #[.int .i64 ((rd_T33 l0 x11_1).f0), .int .i64 ((rd_T33 l0 x11_1).f1)] 33 (0, 0))) ∧ Aside0 (Below w.heap.size w wc))
  case first =>
   have H := HC5.out
   clear HC5
   replace H := Option.bind_eq_some_iff.mp H
   obtain ⟨t113, A80, H⟩ := H
   try dsimp only at H
   have A8 := Aside0.mk A80
   clear A80
   by_cases c9 : t113 = true
   ·subst c9
    rw [if_pos rfl] at H
    replace H := Option.bind_eq_some_iff.mp H
    obtain ⟨t114, A100, H⟩ := H
    try dsimp only at H
    have A10 := Aside0.mk A100
    clear A100
    have H' := Aside0.mk H
    clear H
    obtain ⟨hcz11_0, hcz11_1, hfz11_0, hfz11_1⟩ := bx2 BK112
    go_wp2_with (first | ((with_reducible refine gate_callee (f := 22) rfl ?_); refine gl_ (some 17) Tryd.func22 #[.agg #[.int .i64 ((rd_T33 l0 x11_1).f0), .int .i64 ((rd_T33 l0 x11_1).f1)]] rfl rfl rfl ?_; (with_reducible refine (spec_ruPart.calls ((rd_T33 l0 x11_1).f0) ((rd_T33 l0 x11_1).f1) true _ A8.out).mono ?_); rintro e w12 ⟨rfl, hb⟩; refine ⟨_, rfl, ?_⟩; replace HO_4 := Aside0.mk (Kd.S_below (by (with_reducible repeat (first | apply Kd.S_alloc | apply Kd.S_drewN | apply Kd.S_drew)); exact (Kd.S_mono (Kd.S_far (p := ⟨gb112, 1, none⟩) (Kd.S_far (p := ⟨gb112, 0, none⟩) (Kd.S_types HO_4.out BK112.out (by decide)) (fun _ hk => hk.2) (.int .i64 ((rd_T33 l0 x11_1).f0))) (fun _ hk => hk.2) (.int .i64 ((rd_T33 l0 x11_1).f1))) (fun _ h_ => h_.1))) hb); replace HO_5 := Kd.R_sb HO_5 BK112 hb; replace HB := hbs_ HB hb; replace BK112 := Aside0.mk (blk_below (g := gb112) (o := .cells #[.int .i64 ((rd_T33 l0 x11_1).f0), .int .i64 ((rd_T33 l0 x11_1).f1)] 33 (0, 0)) (kpq_ (kputs BK112 [(0, _), (1, _)])) hb); obtain ⟨hcz13_0, hcz13_1, hfz13_0, hfz13_1⟩ := bx2 BK112) | (go_at_call 23; (with_reducible refine (spec_ruNeeds.calls ((rd_T33 l0 x11_1).f0) t114 _ A10.out).mono ?_); rintro e w' ⟨rfl, ⟨nd, rfl⟩⟩; obtain ⟨Ao14, co14, eo14⟩ := Kd.R_slice HO_5.out; subst eo14))
    go_meet
    case rel => exact ⟨_, (decide (t114 > (x5_1.length : Int))), (by first | rfl | (simp; done) | (simp [*]; done)), H', ⟨by have := HK1.out; first | omega | exact Nat.le_refl _⟩, ⟨by (with_reducible repeat (first | apply Kd.S_alloc | apply Kd.S_drewN | apply Kd.S_drew)); exact HO_4.out⟩, ⟨Kd.R_p HO_5⟩, ⟨kp_ BK112⟩, ⟨hb_ HB⟩⟩
   replace c9 := Bool.eq_false_iff.mpr c9
   subst c9
   rw [if_neg (show ¬ (false = true) by decide)] at H
   have H' := Aside0.mk H
   clear H
   obtain ⟨hcz15_0, hcz15_1, hfz15_0, hfz15_1⟩ := bx2 BK112
   go_wp2_with (first | ((with_reducible refine gate_callee (f := 22) rfl ?_); refine gl_ (some 17) Tryd.func22 #[.agg #[.int .i64 ((rd_T33 l0 x11_1).f0), .int .i64 ((rd_T33 l0 x11_1).f1)]] rfl rfl rfl ?_; (with_reducible refine (spec_ruPart.calls ((rd_T33 l0 x11_1).f0) ((rd_T33 l0 x11_1).f1) false _ A8.out).mono ?_); rintro e w16 ⟨rfl, hb⟩; refine ⟨_, rfl, ?_⟩; replace HO_4 := Aside0.mk (Kd.S_below (by (with_reducible repeat (first | apply Kd.S_alloc | apply Kd.S_drewN | apply Kd.S_drew)); exact (Kd.S_mono (Kd.S_far (p := ⟨gb112, 1, none⟩) (Kd.S_far (p := ⟨gb112, 0, none⟩) (Kd.S_types HO_4.out BK112.out (by decide)) (fun _ hk => hk.2) (.int .i64 ((rd_T33 l0 x11_1).f0))) (fun _ hk => hk.2) (.int .i64 ((rd_T33 l0 x11_1).f1))) (fun _ h_ => h_.1))) hb); replace HO_5 := Kd.R_sb HO_5 BK112 hb; replace HB := hbs_ HB hb; replace BK112 := Aside0.mk (blk_below (g := gb112) (o := .cells #[.int .i64 ((rd_T33 l0 x11_1).f0), .int .i64 ((rd_T33 l0 x11_1).f1)] 33 (0, 0)) (kpq_ (kputs BK112 [(0, _), (1, _)])) hb)))
   go_meet
   case rel => exact ⟨_, (true), (by first | rfl | (simp; done) | (simp [*]; done)), H', ⟨by have := HK1.out; first | omega | exact Nat.le_refl _⟩, ⟨by (with_reducible repeat (first | apply Kd.S_alloc | apply Kd.S_drewN | apply Kd.S_drew)); exact HO_4.out⟩, ⟨Kd.R_p HO_5⟩, ⟨kp_ BK112⟩, ⟨hb_ HB⟩⟩
  clear HC5
  obtain ⟨kq, x26_4, rfl, HA, HJ4, HO_4, HO_5, BK112, HB⟩ := hcut
  cases kq with
  | zero => exact absurd HA.out (by simp [spec_ruTree.j1])
  | succ kj4 => ?_
  have H := HA.out
  clear HA
  simp only [spec_ruTree.j1] at H
  by_cases c17 : x26_4 = true
  ·subst c17
   rw [if_pos rfl] at H
   simp only [Option.some.injEq, Prod.mk.injEq] at H
   obtain ⟨rfl, rfl⟩ := H
   go_wp2
   go_ret2
   exact ⟨_, by first | rfl | (simp [errW_none, errW_some] <;> rfl) | (simp [*, errW_none, errW_some] <;> rfl), by first | exact Kd.S_nil _ _ _ _ _ | exact Kd.N_nil _ _ _ _ _ | exact Kd.V_nil _ _ _ _ _ | exact Kd.Q_nil _ _ _ _ _ | exact Kd.R_nil _ _ _ _ _, hb_ HB⟩
  replace c17 := Bool.eq_false_iff.mpr c17
  subst c17
  rw [if_neg (show ¬ (false = true) by decide)] at H
  replace H := Option.bind_eq_some_iff.mp H
  obtain ⟨t115, A180, H⟩ := H
  try dsimp only at H
  have A18 := Aside0.mk A180
  clear A180
  obtain ⟨ji19, hji19⟩ : ∃ j_ : Int, (wrap64 ((x5_1.length : Int) - t115)) = j_ := ⟨_, rfl⟩
  replace H : (if 0 ≤ (ji19) then (if (ji19) ≤ (x5_1.length : Int) then ((spec_l1Own.f (x5_1.drop ((ji19) : Int).toNat)).bind fun t120 => (if x4_1.length < 5864062014805 then ((spec_l1Own.f (x5_1.take ((ji19) : Int).toNat)).bind fun t130 => (if t130.length < 17592186044416 then (spec_ruTree.l0 kj4 (x4_1 ++ [t120]) (t130 ++ [x11_1]) l0 (l0.length : Int) (wrap64 (x11_1 + 1))) else (none))) else (none))) else (none)) else (none)) = some (r1, r2) := by first | (rw [hji19] at H; exact H) | (simp only [hji19] at H ⊢; exact H)
  (try rw [hji19] at A18)
  have hji19w : (IntKind.i64.wrap ((x5_1.length : Int) - t115)) = ji19 := (i64_w _).trans hji19
  by_cases c20 : 0 ≤ (ji19)
  case neg => rw [if_neg c20] at H; exact absurd H (by simp)
  rw [if_pos c20] at H
  have c20b0 := eq_true c20
  have c20b1 := decide_eq_true c20
  clear c20
  by_cases c21 : (ji19) ≤ (x5_1.length : Int)
  case neg => rw [if_neg c21] at H; exact absurd H (by simp)
  rw [if_pos c21] at H
  have c21b0 := eq_true c21
  have c21b1 := decide_eq_true c21
  clear c21
  obtain ⟨y116, hy116⟩ : ∃ y_ : List Int, y_ = (x5_1.drop ((ji19) : Int).toNat) := ⟨_, rfl⟩
  (try with_reducible replace H := (Option.bind_some _ _).symm.trans H); (try dsimp only at H); (try rw [← hy116] at H)
  have Ny116 := Aside0.mk hy116
  clear hy116
  replace H := Option.bind_eq_some_iff.mp H
  obtain ⟨t120, A220, H⟩ := H
  try dsimp only at H
  have A22 := Aside0.mk A220
  clear A220
  by_cases c23 : x4_1.length < 5864062014805
  case neg => rw [if_neg c23] at H; exact absurd H (by simp)
  rw [if_pos c23] at H
  have LMc23 := Aside0.mk c23
  clear c23
  obtain ⟨y123, hy123⟩ : ∃ y_ : List (List Int), y_ = (x4_1 ++ [t120]) := ⟨_, rfl⟩
  (try with_reducible replace H := (Option.bind_some _ _).symm.trans H); (try dsimp only at H); (try rw [← hy123] at H)
  have Ny123 := Aside0.mk hy123
  clear hy123
  have c24b0 := eq_true (of_decide_eq_true (by first | (with_reducible assumption) | assumption) : 0 ≤ (ji19))
  have c25b0 := eq_true (of_decide_eq_true (by first | (with_reducible assumption) | assumption) : (ji19) ≤ (x5_1.length : Int))
  obtain ⟨y126, hy126⟩ : ∃ y_ : List Int, y_ = (x5_1.take ((ji19) : Int).toNat) := ⟨_, rfl⟩
  (try with_reducible replace H := (Option.bind_some _ _).symm.trans H); (try dsimp only at H); (try rw [← hy126] at H)
  have Ny126 := Aside0.mk hy126
  clear hy126
  replace H := Option.bind_eq_some_iff.mp H
  obtain ⟨t130, A260, H⟩ := H
  try dsimp only at H
  have A26 := Aside0.mk A260
  clear A260
  by_cases c27 : t130.length < 17592186044416
  case neg => rw [if_neg c27] at H; exact absurd H (by simp)
  rw [if_pos c27] at H
  have LMc27 := Aside0.mk c27
  clear c27
  obtain ⟨y133, hy133⟩ : ∃ y_ : List Int, y_ = (t130 ++ [x11_1]) := ⟨_, rfl⟩
  (try with_reducible replace H := (Option.bind_some _ _).symm.trans H); (try dsimp only at H); (try rw [← hy133] at H)
  have Ny133 := Aside0.mk hy133
  clear hy133
  have H' := Aside0.mk H
  clear H
  obtain ⟨Ao28, co28, eo28⟩ := Kd.R_slice HO_5.out
  subst eo28
  obtain ⟨hcz29_0, hcz29_1, hfz29_0, hfz29_1⟩ := bx2 BK112
  go_wp2_with (first | ((with_reducible refine gate_callee (f := 23) rfl ?_); refine gl_ (some 31) Tryd.func23 #[.int .i64 ((rd_T33 l0 x11_1).f0)] rfl rfl rfl ?_; (with_reducible refine (spec_ruNeeds.calls ((rd_T33 l0 x11_1).f0) t115 _ A18.out).mono ?_); rintro e w' ⟨rfl, ⟨nd, rfl⟩⟩; refine ⟨_, rfl, ?_⟩; have q30 : ((ji19) : Int) ≤ ((x5_1.length : Int) : Int) := of_decide_eq_true (by first | (with_reducible assumption) | assumption); obtain ⟨i030, hi030, _, hsz30, _⟩ := info_parts info3; have hroom30 : x5_1.length ≤ co28 := (Kd.R_reads' HO_5.out).2.1; have hC30 : Kd.C (Kd.int .i64) _ Ao28 x5_1.length x5_1 := (Kd.R_reads' HO_5.out).2.2; have q030 : (0 : Int) ≤ ((ji19) : Int) := of_decide_eq_true (by first | (with_reducible assumption) | assumption); have hcut30 := cut_from (P := Tryd.prog) 42 3 .i64 Tryd.underlying42 hi030 1 hsz30 Ao28 x5_1.length co28 (ji19) q030 q30; have hr30 := Kd.C_drop (m := ((ji19) : Int).toNat) (c := co28) hC30 (by omega) hroom30; obtain ⟨A30, hA30⟩ : ∃ A1, A1 = (if co28 = ((ji19) : Int).toNat then Ao28 else (Ao28 : Option Addr).map (·.add (((ji19) : Int).toNat * 1))) := ⟨_, rfl⟩; obtain ⟨c30, hc30⟩ : ∃ c1, c1 = co28 - ((ji19) : Int).toNat := ⟨_, rfl⟩; have hy30 : y116.length = x5_1.length - ((ji19) : Int).toNat := (by rw [Ny116.out, List.length_drop] <;> omega); rw [show (x5_1).drop ((ji19) : Int).toNat = y116 from Ny116.out.symm] at hr30; replace hr30 : Kd.C (Kd.int .i64) _ A30 y116.length y116 := (by rw [hA30]; exact hr30); rw [← hy30, ← hA30, ← hc30] at hcut30; have HR119 := Aside0.mk hr30; have HC119 := Aside0.mk (show y116.length ≤ c30 from by rw [hy30, hc30]; exact Nat.sub_le_sub_right hroom30 _); clear hr30 hC30 hroom30 hi030 hsz30 hc30; have KY30 := Aside0.mk hy30; have KA30 := Aside0.mk hA30; clear hy30 hA30; have KL30 := Aside0.mk (show ((ji19) : Int).toNat ≤ x5_1.length from by omega); replace q30 := eq_true q30) | ((with_reducible refine gate_callee (f := 24) rfl ?_); refine gl_ (some 37) Tryd.func24 #[.slice A30 y116.length c30] rfl rfl rfl ?_; (with_reducible refine (spec_l1Own.calls _ _ y116 t120 _ ?side1 ?side2 A22.out).mono ?_); (case side1 => repeat (first | exact (by repeat (first | (with_reducible exact HR119.out) | (with_reducible refine Kd.C_alloc ?_ _) | (with_reducible refine Kd.C_drewN ?_ _) | (with_reducible refine Kd.C_drew ?_) | exact HR119.out)) | (with_reducible refine Kd.C_alloc ?_ _) | (with_reducible refine Kd.C_drewN ?_ _) | (with_reducible refine Kd.C_drew ?_))); (case side2 => exact HC119.out); rintro e w31 ⟨v121, rfl, ho0, hb⟩; refine ⟨_, rfl, ?_⟩; have HO122 := Kd.R_lo (Kd.R_nw ho0 HO_5) HB; replace HO_4 := Aside0.mk (Kd.S_elder' (by (with_reducible repeat (first | apply Kd.S_alloc | apply Kd.S_drewN | apply Kd.S_drew)); exact HO_4.out) (Kd.R_base ho0) hb); replace HO_5 := Kd.R_e HO_5 ho0 hb; replace BK112 := kb_ BK112 hb; replace HR119 := Aside0.mk (Kd.C_below (by repeat (first | (with_reducible exact HR119.out) | (with_reducible refine Kd.C_alloc ?_ _) | (with_reducible refine Kd.C_drewN ?_ _) | (with_reducible refine Kd.C_drew ?_) | exact HR119.out)) hb); replace HB := hbs_ HB hb; try clear HR119; obtain ⟨Ao33, co33, eo33⟩ := Kd.R_slice HO122.out; subst eo33) | ((with_reducible refine gate_builtin (b := .append) (xs := #[.tmp 33, .tmp 38]) rfl ?_); (try (refine gate_guard (by rfl) ?_; dsimp only)); at_builtin; refine Kd.S_append (Kd.slice 3 (Kd.int .i64)) (w0 := w) w.heap.size rfl (.tmp 33) (.tmp 38) 39 42 (.slice none 0 0) 24 rfl Tryd.underlying39 info42 rfl (by decide) (by omega) u4 x4_1 t120 [.slice Ao33 t120.length co33] (fun k_ => some k_ ≠ (.slice Ao28 x5_1.length co28 : Value).ownBlock) (fun k_ => some k_ = (.slice Ao33 t120.length co33 : Value).ownBlock) rfl rfl ?aP (fun k_ hk_ => ((Kd.R_mono (ok' := fun k_ => ((fun k_ => some k_ ≠ (.slice Ao28 x5_1.length co28 : Value).ownBlock)) k_ ∧ some k_ ≠ (u4 : Value).ownBlock) (Kd.R_apart' (HO122.out) (Kd.S_typed HO_4.out) (by decide)) (fun k_ hk => ⟨hk.1.2, hk.2⟩))).1 k_ hk_.symm) ?aF ?aO ?aB ?aS ?aL ?_; (case aP => exact Kd.M_row (Kd.R_mono (Kd.R_tight rfl (Kd.R_mono (ok' := fun k_ => ((fun k_ => some k_ ≠ (.slice Ao28 x5_1.length co28 : Value).ownBlock)) k_ ∧ some k_ ≠ (u4 : Value).ownBlock) (Kd.R_apart' (HO122.out) (Kd.S_typed HO_4.out) (by decide)) (fun k_ hk => ⟨hk.1.2, hk.2⟩))) (fun _ h_ => h_))); (case aB => exact (hb_ HB)); (case aF => exact (fun k_ hk => Kd.fresh' (Kd.R_lt (Kd.R_p HO_5)) k_ hk)); (case aO => exact (by (with_reducible repeat (first | apply Kd.S_alloc | apply Kd.S_drewN | apply Kd.S_drew)); exact Kd.S_mono HO_4.out (fun k_ hk => ⟨hk.1, fun e_ => hk.2 e_⟩))); (case aS => exact (below_size (hb_ HB))); (case aL => have := LMc23.out; omega); intro v124 w32 ho hb hg hat; rw [← Ny123.out] at ho; have HO125 := Aside0.mk (ho); replace HO_5 := Aside0.mk (Kd.R_over' (Kd.R_p HO_5) (Kd.S_typed (by (with_reducible repeat (first | apply Kd.S_alloc | apply Kd.S_drewN | apply Kd.S_drew)); exact HO_4.out)) (by decide) hg); replace BK112 := Aside0.mk (blk_grown (kp_ BK112) hg (Kd.S_ne HO_4.out BK112.out (by decide))); replace HB := Aside0.mk (hb); clear HO_4 HO122; clear ho hb hg hat; have q34 : ((ji19) : Int) ≤ ((x5_1.length : Int) : Int) := of_decide_eq_true (by first | (with_reducible assumption) | assumption); obtain ⟨i034, hi034, _, hsz34, _⟩ := info_parts info3; have hroom34 : x5_1.length ≤ co28 := (Kd.R_reads' HO_5.out).2.1; have hC34 : Kd.C (Kd.int .i64) _ Ao28 x5_1.length x5_1 := (Kd.R_reads' HO_5.out).2.2; have hcut34 := cut_to (P := Tryd.prog) 42 3 .i64 Tryd.underlying42 hi034 Ao28 x5_1.length co28 (ji19) (of_decide_eq_true (by first | (with_reducible assumption) | assumption)) q34 hroom34; have hr34 := Kd.C_take (m := ((ji19) : Int).toNat) hC34 (by omega); have hy34 : y126.length = ((ji19) : Int).toNat := (by rw [Ny126.out, List.length_take]; omega); rw [← Ny126.out] at hr34; rw [← hy34] at hcut34; have HR129 := Aside0.mk hr34; have HC129 := Aside0.mk (show y126.length ≤ co28 from by omega); clear hr34 hC34 hroom34 hi034 hsz34; have KY34 := Aside0.mk hy34; clear hy34; have KL34 := Aside0.mk (show ((ji19) : Int).toNat ≤ x5_1.length from by omega); replace q34 := eq_true q34) | ((with_reducible refine gate_callee (f := 24) rfl ?_); refine gl_ (some 43) Tryd.func24 #[.slice Ao28 y126.length co28] rfl rfl rfl ?_; (with_reducible refine (spec_l1Own.calls _ _ y126 t130 _ ?side1 ?side2 A26.out).mono ?_); (case side1 => repeat (first | exact (by repeat (first | (with_reducible exact HR129.out) | (with_reducible refine Kd.C_alloc ?_ _) | (with_reducible refine Kd.C_drewN ?_ _) | (with_reducible refine Kd.C_drew ?_) | exact HR129.out)) | (with_reducible refine Kd.C_alloc ?_ _) | (with_reducible refine Kd.C_drewN ?_ _) | (with_reducible refine Kd.C_drew ?_))); (case side2 => exact HC129.out); rintro e w35 ⟨v131, rfl, ho0, hb⟩; refine ⟨_, rfl, ?_⟩; have HO132 := Kd.R_lo (Kd.R_nw ho0 HO_5) HB; replace HO_5 := Kd.R_e HO_5 ho0 hb; replace HO125 := Aside0.mk (Kd.S_elder' (by (with_reducible repeat (first | apply Kd.S_alloc | apply Kd.S_drewN | apply Kd.S_drew)); exact HO125.out) (Kd.R_base ho0) hb); replace BK112 := kb_ BK112 hb; replace HR129 := Aside0.mk (Kd.C_below (by repeat (first | (with_reducible exact HR129.out) | (with_reducible refine Kd.C_alloc ?_ _) | (with_reducible refine Kd.C_drewN ?_ _) | (with_reducible refine Kd.C_drew ?_) | exact HR129.out)) hb); replace HB := hbs_ HB hb; try clear HR129) | ((with_reducible refine gate_builtin (b := .append) (xs := #[.tmp 43, .tmp 45]) rfl ?_); (try (refine gate_guard (by rfl) ?_; dsimp only)); at_builtin; refine Kd.R_append (Kd.int .i64) (w0 := w) w.heap.size rfl (.tmp 43) (.tmp 45) 42 3 (.int .i64 0) 8 rfl Tryd.underlying42 info3 rfl (by decide) (by omega) v131 t130 x11_1 [.int .i64 x11_1] (fun k_ => some k_ ≠ (.slice Ao28 x5_1.length co28 : Value).ownBlock) (fun _ => False) rfl rfl ?aP (fun _ hk => hk.elim) ?aF ?aO ?aB ?aS ?aL ?_; (case aP => exact rfl); (case aB => exact (hb_ HB)); (case aF => exact (fun k_ hk => Kd.fresh' (Kd.R_lt (Kd.R_p HO_5)) k_ hk)); (case aO => exact (rm_ (h := HO132.out))); (case aS => exact (below_size (hb_ HB))); (case aL => have := LMc27.out; omega); intro v134 w36 ho hb hg hat; rw [← Ny133.out] at ho; have HO135 := Aside0.mk (ho); replace HO_5 := Aside0.mk (Kd.R_after (ok := (fun _ => True)) (rm_ (h := HO_5.out)) hg hat); replace BK112 := Aside0.mk (blk_grown (kp_ BK112) hg (Kd.R_ne HO132.out BK112.out (by decide))); replace HO125 := Aside0.mk (Kd.S_after (ok := (fun k_ => some k_ ≠ (.slice Ao28 x5_1.length co28 : Value).ownBlock)) (by (with_reducible repeat (first | apply Kd.S_alloc | apply Kd.S_drewN | apply Kd.S_drew)); exact HO125.out) hg hat); replace HB := Aside0.mk (hb); clear HO132; clear ho hb hg hat))
  go_roundg kj4
  case measure => have := HK1.out; have := HJ4.out; omega
  case rel => exact ⟨(y123), (y133), (wrap64 (x11_1 + 1)), (by first | rfl | (simp; done) | (simp [*]; done)), H', ⟨by have := HK1.out; have := HJ4.out; omega⟩, ⟨by (with_reducible repeat (first | apply Kd.S_alloc | apply Kd.S_drewN | apply Kd.S_drew)); exact Kd.S_mono HO125.out (fun _ hk => hk.2)⟩, ⟨rm_ (h := HO135.out)⟩, ⟨hb_ HB⟩⟩
 rw [if_neg c2] at H
 have c2b0 := decide_eq_false c2
 clear c2
 simp only [Option.some.injEq, Prod.mk.injEq] at H
 obtain ⟨rfl, rfl⟩ := H
 obtain ⟨Ao37, co37, eo37⟩ := Kd.R_slice HO_5.out
 subst eo37
 go_wp2
 go_ret2
 exact ⟨_, by first | rfl | (simp [errW_none, errW_some] <;> rfl) | (simp [*, errW_none, errW_some] <;> rfl), by (with_reducible repeat (first | apply Kd.S_alloc | apply Kd.S_drewN | apply Kd.S_drew)); exact Kd.S_mono HO_4.out (fun _ hk => trivial), hb_ HB⟩

/-! ### spec_l1Most: function 25 -/
def spec_l1Most.f (a0 : Int) (a1 : Int) : Option (Int) := if a0 > a1 then (some a0) else (some a1)
set_option maxHeartbeats 8000000 in
set_option maxRecDepth 100000 in
theorem spec_l1Most.calls (a0 : Int) (a1 : Int) (r : Int) (w : World) (h : spec_l1Most.f a0 a1 = some r) :
  Calls Tryd.prog 25 #[.int .i64 a0, .int .i64 a1] w fun e w' => e = .returned (.int .i64 r) ∧ Drawn0 w w' := by
 have H := h
 unfold spec_l1Most.f at H
 clear h
 by_cases c3 : a0 > a1
 ·rw [if_pos c3] at H
  have c3b0 : decide (a1 < a0) = true := decide_eq_true c3
  clear c3
  obtain rfl := Option.some.inj H
  go_enter Tryd.func25, Tryd.ntmps25
  go_wp2
  go_ret
  exact ⟨by first | rfl | (simp; done) | (simp [*]; done), by repeat (first | exact Drawn0.refl _ | apply Drawn0.step)⟩
 rw [if_neg c3] at H
 have c3b0 : decide (a1 < a0) = false := decide_eq_false c3
 clear c3
 obtain rfl := Option.some.inj H
 go_enter Tryd.func25, Tryd.ntmps25
 go_wp2
 go_ret
 exact ⟨by first | rfl | (simp; done) | (simp [*]; done), by repeat (first | exact Drawn0.refl _ | apply Drawn0.step)⟩

/-! ### spec_ruDepths: function 17 -/
mutual
def spec_ruDepths.l0 : Nat → List Int → List (List Int) → Int → Int → Option (List Int)
 | 0, _, _, _, _ => none
 | k + 1, x3, x9, x10, x11 => if x11 < x10 then (if 0 ≤ x11 then (if x11 < (x9.length : Int) then (spec_ruDepths.l1 k x3 0 x9 x10 x11 (rd_L3 x9 x11) ((rd_L3 x9 x11).length : Int) 0) else (none)) else (none)) else (some x3)
def spec_ruDepths.l1 : Nat → List Int → Int → List (List Int) → Int → Int → List Int → Int → Int → Option (List Int)
 | 0, _, _, _, _, _, _, _, _ => none
 | k + 1, x3, x6, x9, x10, x11, x15, x16, x17 => if x17 < x16 then (if 0 ≤ x17 then (if x17 < (x15.length : Int) then (if 0 ≤ (rd x15 x17) then (if (rd x15 x17) < (x3.length : Int) then ((spec_l1Most.f x6 (rd x3 (rd x15 x17))).bind fun t139 => (spec_ruDepths.l1 k x3 t139 x9 x10 x11 x15 x16 (wrap64 (x17 + 1)))) else (none)) else (none)) else (none)) else (none)) else (if x3.length < 17592186044416 then (spec_ruDepths.l0 k (x3 ++ [wrap64 (x6 + 1)]) x9 x10 (wrap64 (x11 + 1))) else (none))
end
def spec_ruDepths.f (k : Nat) (l0 : List (List Int)) : Option (List Int) := spec_ruDepths.l0 k ([] : List Int) l0 (l0.length : Int) 0
set_option maxHeartbeats 8000000 in
set_option maxRecDepth 100000 in
theorem spec_ruDepths.calls (k : Nat) (A0 : Option Addr) (c0 : Nat) (l0 : List (List Int)) (r : List Int) (w : World) (hr0 : Kd.C (Kd.slice 3 (Kd.int .i64)) w A0 l0.length l0) (hc0 : l0.length ≤ c0) (h : spec_ruDepths.f k l0 = some r) :
  Calls Tryd.prog 17 #[.slice A0 l0.length c0] w fun e w' => ∃ v0_ : Value, e = .returned (v0_) ∧ Kd.R (Kd.int .i64) 3 w' w.heap.size (fun _ => True) v0_ r ∧ Below w.heap.size w w' := by
 have HR0 := Aside0.mk hr0
 have HC0 := Aside0.mk hc0
 clear hr0 hc0
 have HB := Aside0.mk (Below.refl w.heap.size w)
 have H := h
 unfold spec_ruDepths.f at H
 clear h
 have H' := Aside0.mk H
 clear H
 go_enter Tryd.func17, Tryd.ntmps17
 go_wp2
 go_loopg [3, 11] k (fun kq v3 v11 w' => ∃ (x3_1 : List Int) (x11_1 : Int), v11 = .int .i64 x11_1 ∧ Aside0 (spec_ruDepths.l0 kq x3_1 l0 (l0.length : Int) x11_1 = some r) ∧ Aside0 (kq ≤ k) ∧ Aside0 (Kd.R (Kd.int .i64) 3 w' w.heap.size (fun _ => True) v3 x3_1) ∧ Aside0 (Below w.heap.size w w'))
 case atStart => exact ⟨(([] : List Int)), (0), (by first | rfl | (simp; done) | (simp [*]; done)), H', ⟨Nat.le_refl _⟩, ⟨by first | exact Kd.R_nil _ _ _ _ _ | exact Kd.N_nil _ _ _ _ _ | exact Kd.V_nil _ _ _ _ _ | exact Kd.Q_nil _ _ _ _ _ | exact Kd.S_nil _ _ _ _ _⟩, ⟨hb_ HB⟩⟩
 clear H'
 obtain ⟨x3_1, x11_1, rfl, HA, HK1, HO_3, HB⟩ := hrel
 cases gk with
 | zero => exact absurd HA.out (by simp [spec_ruDepths.l0])
 | succ k1 => ?_
 have H := HA.out
 clear HA
 simp only [spec_ruDepths.l0] at H
 by_cases c2 : x11_1 < (l0.length : Int)
 case neg => rw [if_neg c2] at H; have c2b0 := decide_eq_false c2; clear c2; obtain rfl := Option.some.inj H; go_wp2; go_ret; (exact ⟨_, by first | rfl | (simp [errW_none, errW_some] <;> rfl) | (simp [*, errW_none, errW_some] <;> rfl), Kd.R_p HO_3, hb_ HB⟩)
 rw [if_pos c2] at H
 have c2b0 := decide_eq_true c2
 clear c2
 by_cases c3 : 0 ≤ x11_1
 case neg => rw [if_neg c3] at H; exact absurd H (by simp)
 rw [if_pos c3] at H
 have c3b0 := decide_eq_true c3
 clear c3
 by_cases c4 : x11_1 < (l0.length : Int)
 case neg => rw [if_neg c4] at H; exact absurd H (by simp)
 rw [if_pos c4] at H
 have c4b0 := decide_eq_true c4
 clear c4
 have H' := Aside0.mk H
 clear H
 have p136 : 0 ≤ (x11_1 : Int) := of_decide_eq_true (by first | (with_reducible assumption) | assumption)
 have q136 : x11_1 < (l0.length : Int) := of_decide_eq_true (by first | (with_reducible assumption) | assumption)
 obtain ⟨ad136, A136_0, c136_0, e136, hx136_0, hl136_0, hi136_0⟩ := at_L3 HR0.out x11_1 p136 q136
 cases e136
 replace hx136_0 := hc_ HB hx136_0
 have HR136_0 := Aside0.mk hi136_0
 have HC136_0 := Aside0.mk hl136_0
 clear hi136_0 hl136_0
 replace p136 := eq_true p136
 replace q136 := eq_true q136
 go_wp2
 go_loopg [6, 17] k1 (fun kq v6 v17 w' => ∃ (x6_2 : Int) (x17_2 : Int), v6 = .int .i64 x6_2 ∧ v17 = .int .i64 x17_2 ∧ Aside0 (spec_ruDepths.l1 kq x3_1 x6_2 l0 (l0.length : Int) x11_1 (rd_L3 l0 x11_1) ((rd_L3 l0 x11_1).length : Int) x17_2 = some r) ∧ Aside0 (kq ≤ k1) ∧ Aside0 (Kd.R (Kd.int .i64) 3 w' w.heap.size (fun _ => True) u3 x3_1) ∧ Aside0 (Below w.heap.size w w'))
 case atStart => exact ⟨(0), (0), (by first | rfl | (simp; done) | (simp [*]; done)), (by first | rfl | (simp; done) | (simp [*]; done)), H', ⟨Nat.le_refl _⟩, ⟨Kd.R_p HO_3⟩, ⟨hb_ HB⟩⟩
 clear H'
 obtain ⟨x6_2, x17_2, rfl, rfl, HA, HK2, HO_3, HB⟩ := hrel
 cases gk with
 | zero => exact absurd HA.out (by simp [spec_ruDepths.l1])
 | succ k2 => ?_
 have H := HA.out
 clear HA
 simp only [spec_ruDepths.l1] at H
 by_cases c5 : x17_2 < ((rd_L3 l0 x11_1).length : Int)
 ·rw [if_pos c5] at H
  have c5b0 := decide_eq_true c5
  clear c5
  by_cases c6 : 0 ≤ x17_2
  case neg => rw [if_neg c6] at H; exact absurd H (by simp)
  rw [if_pos c6] at H
  have c6b0 := decide_eq_true c6
  clear c6
  by_cases c7 : x17_2 < ((rd_L3 l0 x11_1).length : Int)
  case neg => rw [if_neg c7] at H; exact absurd H (by simp)
  rw [if_pos c7] at H
  have c7b0 := decide_eq_true c7
  clear c7
  by_cases c8 : 0 ≤ (rd (rd_L3 l0 x11_1) x17_2)
  case neg => rw [if_neg c8] at H; exact absurd H (by simp)
  rw [if_pos c8] at H
  have c8b0 := decide_eq_true c8
  clear c8
  by_cases c9 : (rd (rd_L3 l0 x11_1) x17_2) < (x3_1.length : Int)
  case neg => rw [if_neg c9] at H; exact absurd H (by simp)
  rw [if_pos c9] at H
  have c9b0 := decide_eq_true c9
  clear c9
  replace H := Option.bind_eq_some_iff.mp H
  obtain ⟨t139, A100, H⟩ := H
  try dsimp only at H
  have A10 := Aside0.mk A100
  clear A100
  have H' := Aside0.mk H
  clear H
  obtain ⟨ad137, e137, hx137_0, p137, q137⟩ := ai_ HR136_0.out x17_2
  cases e137
  replace hx137_0 := hc_ HB hx137_0
  obtain ⟨Ao11, co11, eo11⟩ := Kd.R_slice HO_3.out
  subst eo11
  obtain ⟨ad138, e138, hx138_0, p138, q138⟩ := ai_ (Kd.R_reads' HO_3.out).2.2 (rd (rd_L3 l0 x11_1) x17_2)
  cases e138
  go_wp2_with (first | ((with_reducible refine gate_callee (f := 25) rfl ?_); refine gl_ (some 26) Tryd.func25 #[.int .i64 x6_2, .int .i64 (rd x3_1 (rd (rd_L3 l0 x11_1) x17_2))] rfl rfl rfl ?_; (with_reducible refine (spec_l1Most.calls x6_2 (rd x3_1 (rd (rd_L3 l0 x11_1) x17_2)) t139 _ A10.out).mono ?_); rintro e w' ⟨rfl, ⟨nd, rfl⟩⟩; refine ⟨_, rfl, ?_⟩))
  go_roundg k2
  case measure => have := HK1.out; have := HK2.out; omega
  case rel => exact ⟨(t139), (wrap64 (x17_2 + 1)), (by first | rfl | (simp; done) | (simp [*]; done)), (by first | rfl | (simp; done) | (simp [*]; done)), H', ⟨by have := HK1.out; have := HK2.out; omega⟩, ⟨Kd.R_p HO_3⟩, ⟨hb_ HB⟩⟩
 rw [if_neg c5] at H
 have c5b0 := decide_eq_false c5
 clear c5
 by_cases c12 : x3_1.length < 17592186044416
 case neg => rw [if_neg c12] at H; exact absurd H (by simp)
 rw [if_pos c12] at H
 have LMc12 := Aside0.mk c12
 clear c12
 obtain ⟨y140, hy140⟩ : ∃ y_ : List Int, y_ = (x3_1 ++ [wrap64 (x6_2 + 1)]) := ⟨_, rfl⟩
 (try with_reducible replace H := (Option.bind_some _ _).symm.trans H); (try dsimp only at H); (try rw [← hy140] at H)
 have Ny140 := Aside0.mk hy140
 clear hy140
 have H' := Aside0.mk H
 clear H
 go_wp2_with (first | ((with_reducible refine gate_builtin (b := .append) (xs := #[.tmp 28, .tmp 31]) rfl ?_); at_builtin; refine Kd.R_append (Kd.int .i64) (w0 := w) w.heap.size rfl (.tmp 28) (.tmp 31) 42 3 (.int .i64 0) 8 rfl Tryd.underlying42 info3 rfl (by decide) (by omega) u3 x3_1 (wrap64 (x6_2 + 1)) [.int .i64 (wrap64 (x6_2 + 1))] (fun _ => True) (fun _ => False) rfl rfl ?aP (fun _ hk => hk.elim) ?aF ?aO ?aB ?aS ?aL ?_; (case aP => exact rfl); (case aB => exact (hb_ HB)); (case aF => exact (fun _ _ => trivial)); (case aO => exact (Kd.R_p HO_3)); (case aS => exact (below_size (hb_ HB))); (case aL => have := LMc12.out; omega); intro v141 w13 ho hb hg hat; rw [← Ny140.out] at ho; have HO142 := Aside0.mk (ho); replace HB := Aside0.mk (hb); clear HO_3; clear ho hb hg hat))
 go_roundg k2
 case measure => have := HK1.out; have := HK2.out; omega
 case rel => exact ⟨(y140), (wrap64 (x11_1 + 1)), (by first | rfl | (simp; done) | (simp [*]; done)), H', ⟨by have := HK1.out; have := HK2.out; omega⟩, ⟨Kd.R_p HO142⟩, ⟨hb_ HB⟩⟩

/-! ### spec_ruGood: function 9 -/
def spec_ruGood.f (k : Nat) (l0 : List (S33)) : Option (Bool) := (spec_l1In.f (l0.length : Int) 1 39).bind fun t143 => (if t143 = true then ((spec_ruTree.f k l0).bind fun bt144 => (if bt144.2 = true then ((spec_ruDepths.f k bt144.1).bind fun t148 => (if 0 ≤ (wrap64 ((l0.length : Int) - 1)) then (if (wrap64 ((l0.length : Int) - 1)) < (t148.length : Int) then (some (decide ((rd t148 (wrap64 ((l0.length : Int) - 1))) ≤ 12))) else (none)) else (none))) else (some false))) else (some false))
set_option maxHeartbeats 8000000 in
set_option maxRecDepth 100000 in
theorem spec_ruGood.calls (k : Nat) (A0 : Option Addr) (c0 : Nat) (l0 : List (S33)) (r : Bool) (w : World) (hr0 : Kd.C k33 w A0 l0.length l0) (hc0 : l0.length ≤ c0) (h : spec_ruGood.f k l0 = some r) :
  Calls Tryd.prog 9 #[.slice A0 l0.length c0] w fun e w' => e = .returned (.bool r) ∧ Below w.heap.size w w' := by
 have HR0 := Aside0.mk hr0
 have HC0 := Aside0.mk hc0
 clear hr0 hc0
 have HB := Aside0.mk (Below.refl w.heap.size w)
 have H := h
 unfold spec_ruGood.f at H
 clear h
 replace H := Option.bind_eq_some_iff.mp H
 obtain ⟨t143, A20, H⟩ := H
 try dsimp only at H
 have A2 := Aside0.mk A20
 clear A20
 by_cases c3 : t143 = true
 ·subst c3
  rw [if_pos rfl] at H
  replace H := Option.bind_eq_some_iff.mp H
  obtain ⟨⟨t144, t145⟩, A40, H⟩ := H
  try dsimp only at H
  have A4 := Aside0.mk A40
  clear A40
  by_cases c5 : t145 = true
  ·subst c5
   rw [if_pos rfl] at H
   replace H := Option.bind_eq_some_iff.mp H
   obtain ⟨t148, A60, H⟩ := H
   try dsimp only at H
   have A6 := Aside0.mk A60
   clear A60
   obtain ⟨ji7, hji7⟩ : ∃ j_ : Int, (wrap64 ((l0.length : Int) - 1)) = j_ := ⟨_, rfl⟩
   replace H : (if 0 ≤ (ji7) then (if (ji7) < (t148.length : Int) then (some (decide ((rd t148 (ji7)) ≤ 12))) else (none)) else (none)) = some r := by first | (rw [hji7] at H; exact H) | (simp only [hji7] at H ⊢; exact H)
   (try rw [hji7] at A2)
   (try rw [hji7] at A4)
   (try rw [hji7] at A6)
   have hji7w : (IntKind.i64.wrap ((l0.length : Int) - 1)) = ji7 := (i64_w _).trans hji7
   by_cases c8 : 0 ≤ (ji7)
   case neg => rw [if_neg c8] at H; exact absurd H (by simp)
   rw [if_pos c8] at H
   have c8b0 := decide_eq_true c8
   clear c8
   by_cases c9 : (ji7) < (t148.length : Int)
   case neg => rw [if_neg c9] at H; exact absurd H (by simp)
   rw [if_pos c9] at H
   have c9b0 := decide_eq_true c9
   clear c9
   obtain rfl := Option.some.inj H
   go_enter Tryd.func9, Tryd.ntmps9
   go_wp2_with (first | ((with_reducible refine gate_callee (f := 15) rfl ?_); refine gl_ (some 7) Tryd.func15 #[.int .i64 (l0.length : Int), .int .i64 1, .int .i64 39] rfl rfl rfl ?_; (with_reducible refine (spec_l1In.calls (l0.length : Int) 1 39 true _ A2.out).mono ?_); rintro e w' ⟨rfl, ⟨nd, rfl⟩⟩; refine ⟨_, rfl, ?_⟩) | ((with_reducible refine gate_callee (f := 16) rfl ?_); refine gl_ (some 11) Tryd.func16 #[.slice A0 l0.length c0] rfl rfl rfl ?_; (with_reducible refine (spec_ruTree.calls k _ _ l0 t144 true _ ?side1 ?side2 A4.out).mono ?_); (case side1 => repeat (first | exact HR0.out | (with_reducible refine Kd.C_alloc ?_ _) | (with_reducible refine Kd.C_drewN ?_ _) | (with_reducible refine Kd.C_drew ?_))); (case side2 => exact HC0.out); rintro e w10 ⟨v146, rfl, ho0, hb⟩; refine ⟨_, rfl, ?_⟩; have HO147 := Aside0.mk (Kd.S_lower ho0 (below_size (hb_ HB))); replace HB := hbs_ HB hb; obtain ⟨Ao11, co11, eo11⟩ := Kd.S_slice HO147.out; subst eo11) | (go_at_call 17; (with_reducible refine (spec_ruDepths.calls k _ _ t144 t148 _ ?side1 ?side2 A6.out).mono ?_); (case side1 => repeat (first | exact (Kd.S_reads' HO147.out).2.2 | (with_reducible refine Kd.C_alloc ?_ _) | (with_reducible refine Kd.C_drewN ?_ _) | (with_reducible refine Kd.C_drew ?_))); (case side2 => exact (Kd.S_reads' HO147.out).2.1); rintro e w12 ⟨v149, rfl, ho0, hb⟩; have n0_ := Aside0.mk (Kd.S_elder' (by (with_reducible repeat (first | apply Kd.S_alloc | apply Kd.S_drewN | apply Kd.S_drew)); exact HO147.out) (Kd.R_base ho0) hb); have n1_ := Aside0.mk (Kd.R_lower ho0 (below_size (hb_ HB))); have n2_ := Aside0.mk (below_step (hb_ HB) hb); clear HO147; clear HB; have HO147 := n0_; have HO150 := n1_; have HB := n2_; clear n0_ n1_ n2_; obtain ⟨Ao13, co13, eo13⟩ := Kd.R_slice HO150.out; subst eo13; have p151 : 0 ≤ ((ji7) : Int) := of_decide_eq_true (by first | (with_reducible assumption) | assumption); have q151 : (ji7) < (t148.length : Int) := of_decide_eq_true (by first | (with_reducible assumption) | assumption); obtain ⟨ad151, e151, hx151_0⟩ := Kd.at_int (Kd.R_reads' HO150.out).2.2 (ji7) p151 q151; cases e151; replace p151 := eq_true p151; replace q151 := eq_true q151))
   go_ret
   exact ⟨by first | rfl | (simp [errW_none, errW_some] <;> rfl) | (simp only [← hji7]; first | rfl | (simp [errW_none, errW_some] <;> rfl)) | (simp [*, errW_none, errW_some] <;> rfl), hb_ HB⟩
  replace c5 := Bool.eq_false_iff.mpr c5
  subst c5
  rw [if_neg (show ¬ (false = true) by decide)] at H
  obtain rfl := Option.some.inj H
  go_enter Tryd.func9, Tryd.ntmps9
  go_wp2_with (first | ((with_reducible refine gate_callee (f := 15) rfl ?_); refine gl_ (some 7) Tryd.func15 #[.int .i64 (l0.length : Int), .int .i64 1, .int .i64 39] rfl rfl rfl ?_; (with_reducible refine (spec_l1In.calls (l0.length : Int) 1 39 true _ A2.out).mono ?_); rintro e w' ⟨rfl, ⟨nd, rfl⟩⟩; refine ⟨_, rfl, ?_⟩) | ((with_reducible refine gate_callee (f := 16) rfl ?_); refine gl_ (some 11) Tryd.func16 #[.slice A0 l0.length c0] rfl rfl rfl ?_; (with_reducible refine (spec_ruTree.calls k _ _ l0 t144 false _ ?side1 ?side2 A4.out).mono ?_); (case side1 => repeat (first | exact HR0.out | (with_reducible refine Kd.C_alloc ?_ _) | (with_reducible refine Kd.C_drewN ?_ _) | (with_reducible refine Kd.C_drew ?_))); (case side2 => exact HC0.out); rintro e w14 ⟨v146, rfl, ho0, hb⟩; refine ⟨_, rfl, ?_⟩; have HO147 := Aside0.mk (Kd.S_lower ho0 (below_size (hb_ HB))); replace HB := hbs_ HB hb))
  go_ret
  exact ad_ (hb_ HB)
 replace c3 := Bool.eq_false_iff.mpr c3
 subst c3
 rw [if_neg (show ¬ (false = true) by decide)] at H
 obtain rfl := Option.some.inj H
 go_enter Tryd.func9, Tryd.ntmps9
 go_wp2_with (first | ((with_reducible refine gate_callee (f := 15) rfl ?_); refine gl_ (some 7) Tryd.func15 #[.int .i64 (l0.length : Int), .int .i64 1, .int .i64 39] rfl rfl rfl ?_; (with_reducible refine (spec_l1In.calls (l0.length : Int) 1 39 false _ A2.out).mono ?_); rintro e w' ⟨rfl, ⟨nd, rfl⟩⟩; refine ⟨_, rfl, ?_⟩))
 go_ret
 exact ad_ (hb_ HB)

/-! ### spec_ruLevel: function 26 -/
def spec_ruLevel.f (a0 : Int) : Option (Int) := if a0 ≤ 1 then (some 3) else (if a0 ≤ 3 then (some 1) else (if a0 ≤ 5 then (some 2) else (some 0)))
set_option maxHeartbeats 8000000 in
set_option maxRecDepth 100000 in
theorem spec_ruLevel.calls (a0 : Int) (r : Int) (w : World) (h : spec_ruLevel.f a0 = some r) :
  Calls Tryd.prog 26 #[.int .i64 a0] w fun e w' => e = .returned (.int .i64 r) ∧ Drawn0 w w' := by
 have H := h
 unfold spec_ruLevel.f at H
 clear h
 by_cases c2 : a0 ≤ 1
 ·rw [if_pos c2] at H
  have c2b0 := decide_eq_true c2
  clear c2
  obtain rfl := Option.some.inj H
  go_enter Tryd.func26, Tryd.ntmps26
  go_wp2
  go_ret
  exact ⟨by first | rfl | (simp; done) | (simp [*]; done), by repeat (first | exact Drawn0.refl _ | apply Drawn0.step)⟩
 rw [if_neg c2] at H
 have c2b0 := decide_eq_false c2
 clear c2
 by_cases c3 : a0 ≤ 3
 ·rw [if_pos c3] at H
  have c3b0 := decide_eq_true c3
  clear c3
  obtain rfl := Option.some.inj H
  go_enter Tryd.func26, Tryd.ntmps26
  go_wp2
  go_ret
  exact ⟨by first | rfl | (simp; done) | (simp [*]; done), by repeat (first | exact Drawn0.refl _ | apply Drawn0.step)⟩
 rw [if_neg c3] at H
 have c3b0 := decide_eq_false c3
 clear c3
 by_cases c4 : a0 ≤ 5
 ·rw [if_pos c4] at H
  have c4b0 := decide_eq_true c4
  clear c4
  obtain rfl := Option.some.inj H
  go_enter Tryd.func26, Tryd.ntmps26
  go_wp2
  go_ret
  exact ⟨by first | rfl | (simp; done) | (simp [*]; done), by repeat (first | exact Drawn0.refl _ | apply Drawn0.step)⟩
 rw [if_neg c4] at H
 have c4b0 := decide_eq_false c4
 clear c4
 obtain rfl := Option.some.inj H
 go_enter Tryd.func26, Tryd.ntmps26
 go_wp2
 go_ret
 exact ⟨by first | rfl | (simp; done) | (simp [*]; done), by repeat (first | exact Drawn0.refl _ | apply Drawn0.step)⟩

end Go.Proofs.YtikdododhkljeaaDoor.PFnExactRuleText
