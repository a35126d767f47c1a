-- Laid for this claim by wip/tools/print2.sh, a changed copy of the kit's print (wip/tools/patch_print.py): not by print.sh.
import Derived.Test.YtciapdgpljlciaaDoorPFnExactParseRulex0
import Derived.Test.YtciapdgpljlciaaDoorPFnExactParseRulex1
import Derived.Test.YtciapdgpljlciaaDoorPFnExactParseRulex2
namespace Go.Proofs.YtciapdgpljlciaaDoor.PFnExactParseRule
open Go.RowKit Go.Proofs.YtciapdgpljlciaaDoorW.PrintWords Go.Proofs.YtciapdgpljlciaaDoorW.PrintLast Go.Proofs.YtciapdgpljlciaaDoorW.PrintMore
attribute [local go_sem] max2_int min2_int max_two min_two max_three min_three max_four min_four   -- for this text's walks alone
set_option linter.unusedVariables false
set_option linter.unusedSimpArgs false

/-! ### spec_ruPart: function 36 -/
def spec_ruPart.f (a0_0 : Int) (a0_1 : Int) : Option (Bool) := if a0_0 = 0 then ((spec_l1In.f a0_1 0 1000000).bind fun t112 => (some t112)) else (if a0_0 = 1 then ((spec_l1In.f a0_1 0 4).bind fun t113 => (some t113)) else ((spec_l1In.f a0_0 2 8).bind fun t114 => (if t114 = true then (some (a0_1 == 0)) else (some false))))
set_option maxHeartbeats 8000000 in
set_option maxRecDepth 100000 in
theorem spec_ruPart.calls (a0_0 : Int) (a0_1 : Int) (r : Bool) (w : World) (h : spec_ruPart.f a0_0 a0_1 = some r) :
  Calls Tryd.prog 36 #[.agg #[.int .i64 a0_0, .int .i64 a0_1]] w fun e w' => e = .returned (.bool r) ∧ Below w.heap.size w w' := by
 have hu42 := Tryd.underlying42
 have HB := Aside0.mk (Below.refl w.heap.size w)
 have H : (if a0_0 = 0 then ((spec_l1In.f a0_1 0 1000000).bind fun t112 => (some t112)) else (if a0_0 = 1 then ((spec_l1In.f a0_1 0 4).bind fun t113 => (some t113)) else ((spec_l1In.f a0_0 2 8).bind fun t114 => (if t114 = true then (some (a0_1 == 0)) else (some false))))) = some r := h
 clear h
 by_cases c2 : a0_0 = 0
 ·rw [if_pos c2] at H
  have c2b0 : (a0_0 == 0) = true := beq_iff_eq.mpr c2
  have c2b1 : (a0_0 != 0) = false := bne_eq_false_iff_eq.mpr c2
  clear c2
  replace H := Option.bind_eq_some_iff.mp H
  obtain ⟨t112, A30, H⟩ := H
  replace H : (some t112) = some r := H
  have A3 := Aside0.mk A30
  clear A30
  obtain rfl := Option.some.inj H
  go_enter Tryd.func36, Tryd.ntmps36
  go_wp2_with (first | ((with_reducible refine gate_dst (N := 1) rfl ?_); refine box_event ?hg (N := 1) ?hd (cs := #[.int .i64 a0_0, .int .i64 a0_1]) (t := 42) ?hr ?_; (case hd => rfl); (case hg => rfl); (case hr => first | (go_simp; done) | (go_simp; rfl)); intro gb111 hg w4 hbox hb; have BK111 := Aside0.mk (hbox); have GW111 := gs_ hg HB; have GE111 := gs_ hg HB; replace HB := hbs_ HB hb; clear hb hbox hg; obtain ⟨hcz5_0, hcz5_1, hfz5_0, hfz5_1⟩ := bx2 BK111) | ((with_reducible refine gate_callee (f := 25) rfl ?_); refine gl_ (some 9) Tryd.func25 #[.int .i64 a0_1, .int .i64 0, .int .i64 1000000] rfl rfl rfl ?_; (with_reducible refine (spec_l1In.calls a0_1 0 1000000 t112 _ A3.out).mono ?_); rintro e w' ⟨rfl, ⟨nd, rfl⟩⟩; refine ⟨_, rfl, ?_⟩))
  go_ret
  exact ⟨by first | rfl | (simp [errW_none, errW_some] <;> rfl) | (simp [*, errW_none, errW_some] <;> rfl), hb_ HB⟩
 ·rw [if_neg c2] at H
  have c2b0 : (a0_0 == 0) = false := beq_eq_false_iff_ne.mpr c2
  have c2b1 : (a0_0 != 0) = true := bne_iff_ne.mpr c2
  by_cases c6 : a0_0 = 1
  ·rw [if_pos c6] at H
   have c6b0 : (a0_0 == 1) = true := beq_iff_eq.mpr c6
   have c6b1 : (a0_0 != 1) = false := bne_eq_false_iff_eq.mpr c6
   clear c6
   replace H := Option.bind_eq_some_iff.mp H
   obtain ⟨t113, A70, H⟩ := H
   replace H : (some t113) = some r := H
   have A7 := Aside0.mk A70
   clear A70
   obtain rfl := Option.some.inj H
   go_enter Tryd.func36, Tryd.ntmps36
   go_wp2_with (first | ((with_reducible refine gate_dst (N := 1) rfl ?_); refine box_event ?hg (N := 1) ?hd (cs := #[.int .i64 a0_0, .int .i64 a0_1]) (t := 42) ?hr ?_; (case hd => rfl); (case hg => rfl); (case hr => first | (go_simp; done) | (go_simp; rfl)); intro gb111 hg w8 hbox hb; have BK111 := Aside0.mk (hbox); have GW111 := gs_ hg HB; have GE111 := gs_ hg HB; replace HB := hbs_ HB hb; clear hb hbox hg; obtain ⟨hcz9_0, hcz9_1, hfz9_0, hfz9_1⟩ := bx2 BK111) | ((with_reducible refine gate_callee (f := 25) rfl ?_); refine gl_ (some 14) Tryd.func25 #[.int .i64 a0_1, .int .i64 0, .int .i64 4] rfl rfl rfl ?_; (with_reducible refine (spec_l1In.calls a0_1 0 4 t113 _ A7.out).mono ?_); rintro e w' ⟨rfl, ⟨nd, rfl⟩⟩; refine ⟨_, rfl, ?_⟩))
   go_ret
   exact ⟨by first | rfl | (simp [errW_none, errW_some] <;> rfl) | (simp [*, errW_none, errW_some] <;> rfl), hb_ HB⟩
  ·rw [if_neg c6] at H
   have c6b0 : (a0_0 == 1) = false := beq_eq_false_iff_ne.mpr c6
   have c6b1 : (a0_0 != 1) = true := bne_iff_ne.mpr c6
   replace H := Option.bind_eq_some_iff.mp H
   obtain ⟨t114, A100, H⟩ := H
   replace H : (if t114 = true then (some (a0_1 == 0)) else (some false)) = some r := H
   have A10 := Aside0.mk A100
   clear A100
   by_cases c11 : t114 = true
   ·subst c11
    have H1 : (some (a0_1 == 0)) = some r := by rw [if_pos rfl] at H; exact H
    clear H
    have H := H1
    clear H1
    obtain rfl := Option.some.inj H
    go_enter Tryd.func36, Tryd.ntmps36
    go_wp2_with (first | ((with_reducible refine gate_dst (N := 1) rfl ?_); refine box_event ?hg (N := 1) ?hd (cs := #[.int .i64 a0_0, .int .i64 a0_1]) (t := 42) ?hr ?_; (case hd => rfl); (case hg => rfl); (case hr => first | (go_simp; done) | (go_simp; rfl)); intro gb111 hg w12 hbox hb; have BK111 := Aside0.mk (hbox); have GW111 := gs_ hg HB; have GE111 := gs_ hg HB; replace HB := hbs_ HB hb; clear hb hbox hg; obtain ⟨hcz13_0, hcz13_1, hfz13_0, hfz13_1⟩ := bx2 BK111) | ((with_reducible refine gate_callee (f := 25) rfl ?_); refine gl_ (some 17) Tryd.func25 #[.int .i64 a0_0, .int .i64 2, .int .i64 8] rfl rfl rfl ?_; (with_reducible refine (spec_l1In.calls a0_0 2 8 true _ A10.out).mono ?_); rintro e w' ⟨rfl, ⟨nd, rfl⟩⟩; refine ⟨_, rfl, ?_⟩))
    go_ret
    exact ⟨by first | rfl | (simp [errW_none, errW_some] <;> rfl) | (simp [*, errW_none, errW_some] <;> rfl), hb_ HB⟩
   ·replace c11 := Bool.eq_false_iff.mpr c11
    subst c11
    have H1 : (some false) = some r := by rw [if_neg (show ¬ (false = true) by decide)] at H; exact H
    clear H
    have H := H1
    clear H1
    obtain rfl := Option.some.inj H
    go_enter Tryd.func36, Tryd.ntmps36
    go_wp2_with (first | ((with_reducible refine gate_dst (N := 1) rfl ?_); refine box_event ?hg (N := 1) ?hd (cs := #[.int .i64 a0_0, .int .i64 a0_1]) (t := 42) ?hr ?_; (case hd => rfl); (case hg => rfl); (case hr => first | (go_simp; done) | (go_simp; rfl)); intro gb111 hg w14 hbox hb; have BK111 := Aside0.mk (hbox); have GW111 := gs_ hg HB; have GE111 := gs_ hg HB; replace HB := hbs_ HB hb; clear hb hbox hg; obtain ⟨hcz15_0, hcz15_1, hfz15_0, hfz15_1⟩ := bx2 BK111) | ((with_reducible refine gate_callee (f := 25) rfl ?_); refine gl_ (some 17) Tryd.func25 #[.int .i64 a0_0, .int .i64 2, .int .i64 8] rfl rfl rfl ?_; (with_reducible refine (spec_l1In.calls a0_0 2 8 false _ A10.out).mono ?_); rintro e w' ⟨rfl, ⟨nd, rfl⟩⟩; refine ⟨_, rfl, ?_⟩))
    go_ret
    exact ⟨by first | rfl | (simp [errW_none, errW_some] <;> rfl) | (simp [*, errW_none, errW_some] <;> rfl), hb_ HB⟩

/-! ### spec_ruNeeds: function 37 -/
def spec_ruNeeds.f (a0 : Int) : Option (Int) := if a0 ≤ 1 then (some 0) else (if a0 ≤ 5 then (some 2) else (some 4))
set_option maxHeartbeats 8000000 in
set_option maxRecDepth 100000 in
theorem spec_ruNeeds.calls (a0 : Int) (r : Int) (w : World) (h : spec_ruNeeds.f a0 = some r) :
  Calls Tryd.prog 37 #[.int .i64 a0] w fun e w' => e = .returned (.int .i64 r) ∧ Drawn0 w w' := by
 have H : (if a0 ≤ 1 then (some 0) else (if a0 ≤ 5 then (some 2) else (some 4))) = some r := h
 clear h
 by_cases c2 : a0 ≤ 1
 ·rw [if_pos c2] at H
  have c2b0 : decide (a0 ≤ 1) = true := decide_eq_true c2
  clear c2
  obtain rfl := Option.some.inj H
  go_enter Tryd.func37, Tryd.ntmps37
  go_wp2
  go_ret
  exact ⟨by first | rfl | (simp; done) | (simp [*]; done), by repeat (first | exact Drawn0.refl _ | apply Drawn0.step)⟩
 ·rw [if_neg c2] at H
  have c2b0 : decide (a0 ≤ 1) = false := decide_eq_false c2
  clear c2
  by_cases c3 : a0 ≤ 5
  ·rw [if_pos c3] at H
   have c3b0 : decide (a0 ≤ 5) = true := decide_eq_true c3
   clear c3
   obtain rfl := Option.some.inj H
   go_enter Tryd.func37, Tryd.ntmps37
   go_wp2
   go_ret
   exact ⟨by first | rfl | (simp; done) | (simp [*]; done), by repeat (first | exact Drawn0.refl _ | apply Drawn0.step)⟩
  ·rw [if_neg c3] at H
   have c3b0 : decide (a0 ≤ 5) = false := decide_eq_false c3
   clear c3
   obtain rfl := Option.some.inj H
   go_enter Tryd.func37, Tryd.ntmps37
   go_wp2
   go_ret
   exact ⟨by first | rfl | (simp; done) | (simp [*]; done), by repeat (first | exact Drawn0.refl _ | apply Drawn0.step)⟩

/-! ### spec_l1Own: function 38 -/
def spec_l1Own.f (l0 : List Int) : Option (List Int) := (some (([] : List Int) : List Int)).bind fun y115 => (if y115.length + l0.length < 17592186044416 then (some (y115 ++ l0)) else (none))
set_option maxHeartbeats 8000000 in
set_option maxRecDepth 100000 in
theorem spec_l1Own.calls (A0 : Option Addr) (c0 : Nat) (l0 : List Int) (r : List Int) (w : World) (hr0 : Kd.C (Kd.int .i64) w A0 l0.length l0) (hc0 : l0.length ≤ c0) (h : spec_l1Own.f l0 = some r) :
  Calls Tryd.prog 38 #[.slice A0 l0.length c0] w fun e w' => ∃ v0_ : Value, e = .returned (v0_) ∧ Kd.R (Kd.int .i64) 3 w' w.heap.size (fun _ => True) v0_ r ∧ Below w.heap.size w w' := by
 have HR0 := Aside0.mk hr0
 have HC0 := Aside0.mk hc0
 clear hr0 hc0
 have HB := Aside0.mk (Below.refl w.heap.size w)
 have H : ((some (([] : List Int) : List Int)).bind fun y115 => (if y115.length + l0.length < 17592186044416 then (some (y115 ++ l0)) else (none))) = some r := h
 clear h
 obtain ⟨y115, hy115⟩ : ∃ y_ : List Int, y_ = (([] : List Int)) := ⟨_, rfl⟩
 replace H : (if y115.length + l0.length < 17592186044416 then (some (y115 ++ l0)) else (none)) = some r := by first | (rw [hy115]; with_reducible exact H) | (have H2_ := (Option.bind_some _ _).symm.trans H; rw [hy115]; with_reducible exact H2_) | (have H2_ := (Option.bind_some _ _).symm.trans H; with_reducible exact H2_) | with_reducible exact H | (rw [hy115]; exact H) | exact H
 have Ny115 := Aside0.mk hy115
 clear hy115
 by_cases c2 : y115.length + l0.length < 17592186044416
 ·rw [if_pos c2] at H
  have LMc2 := Aside0.mk c2
  clear c2
  obtain ⟨y118, hy118⟩ : ∃ y_ : List Int, y_ = (y115 ++ l0) := ⟨_, rfl⟩
  replace H : (some y118) = some r := by first | (rw [hy118]; with_reducible exact H) | (have H2_ := (Option.bind_some _ _).symm.trans H; rw [hy118]; with_reducible exact H2_) | (have H2_ := (Option.bind_some _ _).symm.trans H; with_reducible exact H2_) | with_reducible exact H | (rw [hy118]; exact H) | exact H
  have Ny118 := Aside0.mk hy118
  clear hy118
  obtain rfl := Option.some.inj H
  go_enter Tryd.func38, Tryd.ntmps38
  go_wp2_with (first | ((with_reducible refine gate_dst (N := 3) rfl ?_); refine Kd.R_lit (Kd.int .i64) _ 3 ?hg (N := 3) ?hd (xs := ([] : List Int)) (inner := []) (ok := fun _ => True) (okp := fun _ => True) ?hr ?hp (fun _ hk => hk) trivial (Below.refl _ _) (Nat.le_refl _) (by simp) ?_; (case hd => rfl); (case hg => rfl); (case hr => first | (go_simp; done) | (go_simp; rfl)); (case hp => exact (Reps.none _ _)); intro v116 w3 ho4 hb hg_ hnew_; clear hg_ hnew_; (first | rw [← Ny115.out] at ho4 | (simp only [Int.reduceToNat] at ho4; rw [← Ny115.out] at ho4)); have HO117 := Kd.R_lo ho4 HB; replace HB := hbs_ HB hb; clear hb ho4) | ((with_reducible refine gate_builtin (b := .append) (xs := #[.tmp 3, .tmp 4]) rfl ?_); at_builtin; refine Kd.R_append_rows (Kd.int .i64) (w0 := w) w.heap.size rfl (.tmp 3) (.tmp 4) 54 3 (.int .i64 0) 8 rfl Tryd.underlying54 info3 rfl (by decide) (by omega) v116 y115 l0 _ _ _ (fun _ => True) (fun _ => False) rfl rfl ?aO ?aR (fun _ _ h => h) (fun _ h => h.elim) ?aF ?aB ?aS ?aL ?_; (case aR => exact Kd.C_w HR0 HB); (case aB => exact (hb_ HB)); (case aF => exact (fun _ _ => trivial)); (case aO => exact (Kd.R_p HO117)); (case aS => exact (below_size (hb_ HB))); (case aL => have := LMc2.out; omega); intro v119 w5 ho hb hg hat; rw [← Ny118.out] at ho; have HO120 := Aside0.mk (ho); replace HB := Aside0.mk (hb); clear HO117; clear ho hb hg hat))
  go_ret
  exact ⟨_, by first | rfl | (simp [errW_none, errW_some] <;> rfl) | (simp [*, errW_none, errW_some] <;> rfl), Kd.R_p HO120, hb_ HB⟩
 ·rw [if_neg c2] at H
  exact absurd H (by simp)

/-! ### spec_ruTree: function 26 -/
mutual
def spec_ruTree.l0 : Nat → List (List Int) → List Int → List (S42) → Int → Int → Option ((List (List Int)) × Bool)
 | 0, _, _, _, _, _ => none
 | k + 1, x4, x5, x9, x10, x11 => if x11 < x10 then (if 0 ≤ x11 then (if x11 < (x9.length : Int) then ((spec_ruPart.f ((rd_T42 x9 x11).f0) ((rd_T42 x9 x11).f1)).bind fun t123 => (if t123 = true then ((spec_ruNeeds.f ((rd_T42 x9 x11).f0)).bind fun t124 => (spec_ruTree.j1 k x4 x5 x11 x9 x10 x11 (decide (t124 > (x5.length : Int))) ((rd_T42 x9 x11).f0) ((rd_T42 x9 x11).f1))) else (spec_ruTree.j1 k x4 x5 x11 x9 x10 x11 true ((rd_T42 x9 x11).f0) ((rd_T42 x9 x11).f1)))) else (none)) else (none)) else (some (x4, ((x5.length : Int) == 1)))
def spec_ruTree.j1 : Nat → List (List Int) → List Int → Int → List (S42) → Int → Int → Bool → Int → Int → Option ((List (List Int)) × Bool)
 | 0, _, _, _, _, _, _, _, _, _ => none
 | k + 1, x4, x5, x6, x9, x10, x11, x26, x123000, x123001 => if x26 = true then (some (([] : List (List Int)), false)) else ((spec_ruNeeds.f x123000).bind fun t125 => (if 0 ≤ (wrap64 ((x5.length : Int) - t125)) then (if (wrap64 ((x5.length : Int) - t125)) ≤ (x5.length : Int) then ((spec_l1Own.f (x5.drop ((wrap64 ((x5.length : Int) - t125)) : Int).toNat)).bind fun t130 => (if x4.length < 5864062014805 then ((spec_l1Own.f (x5.take ((wrap64 ((x5.length : Int) - t125)) : Int).toNat)).bind fun t140 => (if t140.length < 17592186044416 then (spec_ruTree.l0 k (x4 ++ [t130]) (t140 ++ [x6]) x9 x10 (wrap64 (x11 + 1))) else (none))) else (none))) else (none)) else (none)))
end
def spec_ruTree.f (k : Nat) (l0 : List (S42)) : Option ((List (List Int)) × Bool) := spec_ruTree.l0 k ([] : List (List Int)) ([] : List Int) l0 (l0.length : Int) 0
set_option maxHeartbeats 8000000 in
set_option maxRecDepth 100000 in
theorem spec_ruTree.calls (k : Nat) (A0 : Option Addr) (c0 : Nat) (l0 : List (S42)) (r1 : List (List Int)) (r2 : Bool) (w : World) (hr0 : Kd.C k42 w A0 l0.length l0) (hc0 : l0.length ≤ c0) (h : spec_ruTree.f k l0 = some (r1, r2)) :
  Calls Tryd.prog 26 #[.slice A0 l0.length c0] w fun e w' => ∃ v0_ : Value, e = .returned (.tuple #[v0_, .bool r2]) ∧ Kd.S (Kd.slice 3 (Kd.int .i64)) 54 w' w.heap.size (fun _ => True) v0_ r1 ∧ Below w.heap.size w w' := by
 have hu42 := Tryd.underlying42
 have HR0 := Aside0.mk hr0
 have HC0 := Aside0.mk hc0
 clear hr0 hc0
 have HB := Aside0.mk (Below.refl w.heap.size w)
 have H : (spec_ruTree.l0 k ([] : List (List Int)) ([] : List Int) l0 (l0.length : Int) 0) = some (r1, r2) := h
 clear h
 have H' := Aside0.mk H
 clear H
 go_enter Tryd.func26, Tryd.ntmps26
 go_wp2
 go_loopg [4, 5, 11] k (fun kq v4 v5 v11 w' => ∃ (x4_1 : List (List Int)) (x5_1 : List Int) (x11_1 : Int), v11 = .int .i64 x11_1 ∧ Aside0 (spec_ruTree.l0 kq x4_1 x5_1 l0 (l0.length : Int) x11_1 = some (r1, r2)) ∧ Aside0 (kq ≤ k) ∧ Aside0 (Kd.S (Kd.slice 3 (Kd.int .i64)) 54 w' w.heap.size (fun k_ => some k_ ≠ (v5 : Value).ownBlock) v4 x4_1) ∧ Aside0 (Kd.R (Kd.int .i64) 3 w' w.heap.size (fun _ => True) v5 x5_1) ∧ Aside0 (Below w.heap.size w w'))
 case atStart => exact ⟨(([] : List (List Int))), (([] : List Int)), (0), (by first | rfl | (simp; done) | (simp [*]; done)), H', ⟨Nat.le_refl _⟩, ⟨by first | exact Kd.S_nil _ _ _ _ _ | exact Kd.N_nil _ _ _ _ _ | exact Kd.V_nil _ _ _ _ _ | exact Kd.Q_nil _ _ _ _ _ | exact Kd.R_nil _ _ _ _ _⟩, ⟨by first | exact Kd.R_nil _ _ _ _ _ | exact Kd.N_nil _ _ _ _ _ | exact Kd.V_nil _ _ _ _ _ | exact Kd.Q_nil _ _ _ _ _ | exact Kd.S_nil _ _ _ _ _⟩, ⟨hb_ HB⟩⟩
 case round =>
  clear H'
  obtain ⟨x4_1, x5_1, x11_1, rfl, HA, HK1, HO_4, HO_5, HB⟩ := hrel
  cases gk with
  | zero => exact absurd HA.out (by simp [spec_ruTree.l0])
  | succ k1 =>
   have H := HA.out
   clear HA
   simp only [spec_ruTree.l0] at H
   by_cases c2 : x11_1 < (l0.length : Int)
   ·rw [if_pos c2] at H
    have c2b0 : decide (x11_1 < (l0.length : Int)) = true := decide_eq_true c2
    clear c2
    by_cases c3 : 0 ≤ x11_1
    ·rw [if_pos c3] at H
     have c3b0 : decide (0 ≤ x11_1) = true := decide_eq_true c3
     clear c3
     by_cases c4 : x11_1 < (l0.length : Int)
     ·rw [if_pos c4] at H
      have c4b0 : decide (x11_1 < (l0.length : Int)) = true := decide_eq_true c4
      clear c4
      have HC5 := Aside0.mk H
      clear H
      have p121 : 0 ≤ (x11_1 : Int) := of_decide_eq_true (by first | (with_reducible assumption) | assumption)
      have q121 : x11_1 < (l0.length : Int) := of_decide_eq_true (by first | (with_reducible assumption) | assumption)
      obtain ⟨ad121, e121, hx121_0, hx121_1⟩ := at_T42 HR0.out x11_1 p121 q121
      cases e121
      replace hx121_0 := (HB.out.cell (World.block_lt_of_cell? w _ hx121_0)).trans hx121_0
      replace hx121_1 := (HB.out.cell (World.block_lt_of_cell? w _ hx121_1)).trans hx121_1
      replace p121 := eq_true p121
      replace q121 := eq_true q121
      go_upto_region 6 with (first | ((with_reducible refine gate_dst (N := 7) rfl ?_); (try (refine gate_guard (by rfl) ?_; dsimp only)); refine box_event ?hg (N := 7) ?hd (cs := #[.int .i64 0, .int .i64 0]) (t := 42) ?hr ?_; (case hd => rfl); (case hg => rfl); (case hr => first | (go_simp; done) | (go_simp; rfl)); intro gb122 hg w6 hbox hb; have BK122 := Aside0.mk (hbox); have GW122 := gs_ hg HB; have GE122 := gs_ hg HB; replace HO_4 := Aside0.mk (Kd.S_below (by (with_reducible repeat (first | apply Kd.S_alloc | apply Kd.S_drewN | apply Kd.S_drew)); exact HO_4.out) hb); replace HO_5 := Kd.R_b HO_5 hb; replace HB := hbs_ HB hb; clear hb hbox hg; obtain ⟨hcz7_0, hcz7_1, hfz7_0, hfz7_1⟩ := bx2 BK122))
      (try simp only [Act.put, List.setIfInBounds_toArray, List.set_cons_zero, List.set_cons_succ])
      go_cut [26] (fun v26 wc => ∃ (kq : Nat) (x26_4 : Bool), v26 = .bool x26_4 ∧ Aside0 (spec_ruTree.j1 kq x4_1 x5_1 x11_1 l0 (l0.length : Int) x11_1 x26_4 ((rd_T42 l0 x11_1).f0) ((rd_T42 l0 x11_1).f1) = some (r1, r2)) ∧ Aside0 (kq ≤ k1) ∧ Aside0 (Kd.S (Kd.slice 3 (Kd.int .i64)) 54 wc w.heap.size (fun k_ => some k_ ≠ (u5 : Value).ownBlock) u4 x4_1) ∧ Aside0 (Kd.R (Kd.int .i64) 3 wc w.heap.size (fun _ => True) u5 x5_1) ∧ Aside0 (wc.heap[gb122]? = some (.cells #[.int .i64 ((rd_T42 l0 x11_1).f0), .int .i64 ((rd_T42 l0 x11_1).f1)] 42 (0, 0))) ∧ Aside0 (Below w.heap.size w wc))
      case first =>
       have H := HC5.out
       clear HC5
       replace H := Option.bind_eq_some_iff.mp H
       obtain ⟨t123, A80, H⟩ := H
       replace H : (if t123 = true then ((spec_ruNeeds.f ((rd_T42 l0 x11_1).f0)).bind fun t124 => (spec_ruTree.j1 k1 x4_1 x5_1 x11_1 l0 (l0.length : Int) x11_1 (decide (t124 > (x5_1.length : Int))) ((rd_T42 l0 x11_1).f0) ((rd_T42 l0 x11_1).f1))) else (spec_ruTree.j1 k1 x4_1 x5_1 x11_1 l0 (l0.length : Int) x11_1 true ((rd_T42 l0 x11_1).f0) ((rd_T42 l0 x11_1).f1))) = some (r1, r2) := H
       have A8 := Aside0.mk A80
       clear A80
       by_cases c9 : t123 = true
       ·subst c9
        have H1 : ((spec_ruNeeds.f ((rd_T42 l0 x11_1).f0)).bind fun t124 => (spec_ruTree.j1 k1 x4_1 x5_1 x11_1 l0 (l0.length : Int) x11_1 (decide (t124 > (x5_1.length : Int))) ((rd_T42 l0 x11_1).f0) ((rd_T42 l0 x11_1).f1))) = some (r1, r2) := by rw [if_pos rfl] at H; exact H
        clear H
        have H := H1
        clear H1
        replace H := Option.bind_eq_some_iff.mp H
        obtain ⟨t124, A100, H⟩ := H
        replace H : (spec_ruTree.j1 k1 x4_1 x5_1 x11_1 l0 (l0.length : Int) x11_1 (decide (t124 > (x5_1.length : Int))) ((rd_T42 l0 x11_1).f0) ((rd_T42 l0 x11_1).f1)) = some (r1, r2) := H
        have A10 := Aside0.mk A100
        clear A100
        have H' := Aside0.mk H
        clear H
        have hcz11_0 : w6.cell? ⟨gb122, 0, none⟩ = some (.int .i64 0) := (blk_cell BK122.out 0).trans rfl
        have hcz11_1 : w6.cell? ⟨gb122, 1, none⟩ = some (.int .i64 0) := (blk_cell BK122.out 1).trans rfl
        have hfz11_0 := blk_frozen BK122.out 0
        have hfz11_1 := blk_frozen BK122.out 1
        go_wp2_with (first | ((with_reducible refine gate_callee (f := 36) rfl ?_); refine gl_ (some 17) Tryd.func36 #[.agg #[.int .i64 ((rd_T42 l0 x11_1).f0), .int .i64 ((rd_T42 l0 x11_1).f1)]] rfl rfl rfl ?_; (with_reducible refine (spec_ruPart.calls ((rd_T42 l0 x11_1).f0) ((rd_T42 l0 x11_1).f1) true _ A8.out).mono ?_); rintro e w12 ⟨rfl, hb⟩; refine ⟨_, rfl, ?_⟩; replace HO_4 := Aside0.mk (Kd.S_below (by (with_reducible repeat (first | apply Kd.S_alloc | apply Kd.S_drewN | apply Kd.S_drew)); exact (Kd.S_mono (Kd.S_far (p := ⟨gb122, 1, none⟩) (Kd.S_far (p := ⟨gb122, 0, none⟩) (Kd.S_types HO_4.out BK122.out (by decide)) (fun _ hk => hk.2) (.int .i64 ((rd_T42 l0 x11_1).f0))) (fun _ hk => hk.2) (.int .i64 ((rd_T42 l0 x11_1).f1))) (fun _ h_ => h_.1))) hb); replace HO_5 := Kd.R_sb HO_5 BK122 hb; replace HB := hbs_ HB hb; replace BK122 := Aside0.mk (blk_below (g := gb122) (o := .cells #[.int .i64 ((rd_T42 l0 x11_1).f0), .int .i64 ((rd_T42 l0 x11_1).f1)] 42 (0, 0)) (kpq_ (kputs BK122 [(0, _), (1, _)])) hb); (try clear hb); (try clear hb2); (try clear hk); (try clear hi); obtain ⟨hcz13_0, hcz13_1, hfz13_0, hfz13_1⟩ := bx2 BK122) | (go_at_call 37; (with_reducible refine (spec_ruNeeds.calls ((rd_T42 l0 x11_1).f0) t124 _ A10.out).mono ?_); rintro e w' ⟨rfl, ⟨nd, rfl⟩⟩; obtain ⟨Ao14, co14, eo14⟩ := Kd.R_slice HO_5.out; subst eo14))
        go_meet
        case rel => exact ⟨_, (decide (t124 > (x5_1.length : Int))), (by first | rfl | (simp; done) | (simp [*]; done)), H', ⟨by have := HK1.out; first | omega | exact Nat.le_refl _⟩, ⟨by (with_reducible repeat (first | apply Kd.S_alloc | apply Kd.S_drewN | apply Kd.S_drew)); exact HO_4.out⟩, ⟨Kd.R_p HO_5⟩, ⟨kp_ BK122⟩, ⟨hb_ HB⟩⟩
       ·replace c9 := Bool.eq_false_iff.mpr c9
        subst c9
        have H1 : (spec_ruTree.j1 k1 x4_1 x5_1 x11_1 l0 (l0.length : Int) x11_1 true ((rd_T42 l0 x11_1).f0) ((rd_T42 l0 x11_1).f1)) = some (r1, r2) := by rw [if_neg (show ¬ (false = true) by decide)] at H; exact H
        clear H
        have H := H1
        clear H1
        have H' := Aside0.mk H
        clear H
        have hcz15_0 : w6.cell? ⟨gb122, 0, none⟩ = some (.int .i64 0) := (blk_cell BK122.out 0).trans rfl
        have hcz15_1 : w6.cell? ⟨gb122, 1, none⟩ = some (.int .i64 0) := (blk_cell BK122.out 1).trans rfl
        have hfz15_0 := blk_frozen BK122.out 0
        have hfz15_1 := blk_frozen BK122.out 1
        go_wp2_with (first | ((with_reducible refine gate_callee (f := 36) rfl ?_); refine gl_ (some 17) Tryd.func36 #[.agg #[.int .i64 ((rd_T42 l0 x11_1).f0), .int .i64 ((rd_T42 l0 x11_1).f1)]] rfl rfl rfl ?_; (with_reducible refine (spec_ruPart.calls ((rd_T42 l0 x11_1).f0) ((rd_T42 l0 x11_1).f1) false _ A8.out).mono ?_); rintro e w16 ⟨rfl, hb⟩; refine ⟨_, rfl, ?_⟩; replace HO_4 := Aside0.mk (Kd.S_below (by (with_reducible repeat (first | apply Kd.S_alloc | apply Kd.S_drewN | apply Kd.S_drew)); exact (Kd.S_mono (Kd.S_far (p := ⟨gb122, 1, none⟩) (Kd.S_far (p := ⟨gb122, 0, none⟩) (Kd.S_types HO_4.out BK122.out (by decide)) (fun _ hk => hk.2) (.int .i64 ((rd_T42 l0 x11_1).f0))) (fun _ hk => hk.2) (.int .i64 ((rd_T42 l0 x11_1).f1))) (fun _ h_ => h_.1))) hb); replace HO_5 := Kd.R_sb HO_5 BK122 hb; replace HB := hbs_ HB hb; replace BK122 := Aside0.mk (blk_below (g := gb122) (o := .cells #[.int .i64 ((rd_T42 l0 x11_1).f0), .int .i64 ((rd_T42 l0 x11_1).f1)] 42 (0, 0)) (kpq_ (kputs BK122 [(0, _), (1, _)])) hb); (try clear hb); (try clear hb2); (try clear hk); (try clear hi)))
        go_meet
        case rel => exact ⟨_, (true), (by first | rfl | (simp; done) | (simp [*]; done)), H', ⟨by have := HK1.out; first | omega | exact Nat.le_refl _⟩, ⟨by (with_reducible repeat (first | apply Kd.S_alloc | apply Kd.S_drewN | apply Kd.S_drew)); exact HO_4.out⟩, ⟨Kd.R_p HO_5⟩, ⟨kp_ BK122⟩, ⟨hb_ HB⟩⟩
      case rest =>
       clear HC5
       (try clear p1); (try clear q1); (try clear hx1); (try clear c2); (try clear c2b0); (try clear p2); (try clear c3); (try clear c3b0); (try clear c4); (try clear c4b0); (try clear c9); (try clear p12); (try clear q12); (try clear hx12); (try clear hcz7_0); (try clear hcz7_1); (try clear hfz7_0); (try clear hfz7_1); (try clear hx121_0); (try clear hx121_1); (try clear p121); (try clear q121)
       obtain ⟨kq, x26_4, rfl, HA, HJ4, HO_4, HO_5, BK122, HB⟩ := hcut
       cases kq with
       | zero => exact absurd HA.out (by simp [spec_ruTree.j1])
       | succ kj4 =>
        have H := HA.out
        clear HA
        simp only [spec_ruTree.j1] at H
        by_cases c17 : x26_4 = true
        ·subst c17
         have H1 : (some (([] : List (List Int)), false)) = some (r1, r2) := by rw [if_pos rfl] at H; exact H
         clear H
         have H := H1
         clear H1
         simp only [Option.some.injEq, Prod.mk.injEq] at H
         obtain ⟨rfl, rfl⟩ := H
         go_wp2
         go_ret2
         exact ⟨_, by first | rfl | (simp [errW_none, errW_some] <;> rfl) | (simp [*, errW_none, errW_some] <;> rfl), by first | exact Kd.S_nil _ _ _ _ _ | exact Kd.N_nil _ _ _ _ _ | exact Kd.V_nil _ _ _ _ _ | exact Kd.Q_nil _ _ _ _ _ | exact Kd.R_nil _ _ _ _ _, hb_ HB⟩
        ·replace c17 := Bool.eq_false_iff.mpr c17
         subst c17
         have H1 : ((spec_ruNeeds.f ((rd_T42 l0 x11_1).f0)).bind fun t125 => (if 0 ≤ (wrap64 ((x5_1.length : Int) - t125)) then (if (wrap64 ((x5_1.length : Int) - t125)) ≤ (x5_1.length : Int) then ((spec_l1Own.f (x5_1.drop ((wrap64 ((x5_1.length : Int) - t125)) : Int).toNat)).bind fun t130 => (if x4_1.length < 5864062014805 then ((spec_l1Own.f (x5_1.take ((wrap64 ((x5_1.length : Int) - t125)) : Int).toNat)).bind fun t140 => (if t140.length < 17592186044416 then (spec_ruTree.l0 kj4 (x4_1 ++ [t130]) (t140 ++ [x11_1]) l0 (l0.length : Int) (wrap64 (x11_1 + 1))) else (none))) else (none))) else (none)) else (none))) = some (r1, r2) := by rw [if_neg (show ¬ (false = true) by decide)] at H; exact H
         clear H
         have H := H1
         clear H1
         replace H := Option.bind_eq_some_iff.mp H
         obtain ⟨t125, A180, H⟩ := H
         replace H : (if 0 ≤ (wrap64 ((x5_1.length : Int) - t125)) then (if (wrap64 ((x5_1.length : Int) - t125)) ≤ (x5_1.length : Int) then ((spec_l1Own.f (x5_1.drop ((wrap64 ((x5_1.length : Int) - t125)) : Int).toNat)).bind fun t130 => (if x4_1.length < 5864062014805 then ((spec_l1Own.f (x5_1.take ((wrap64 ((x5_1.length : Int) - t125)) : Int).toNat)).bind fun t140 => (if t140.length < 17592186044416 then (spec_ruTree.l0 kj4 (x4_1 ++ [t130]) (t140 ++ [x11_1]) l0 (l0.length : Int) (wrap64 (x11_1 + 1))) else (none))) else (none))) else (none)) else (none)) = some (r1, r2) := H
         have A18 := Aside0.mk A180
         clear A180
         obtain ⟨ji19, hji19⟩ : ∃ j_ : Int, (wrap64 ((x5_1.length : Int) - t125)) = j_ := ⟨_, rfl⟩
         replace H : (if 0 ≤ (ji19) then (if (ji19) ≤ (x5_1.length : Int) then ((spec_l1Own.f (x5_1.drop ((ji19) : Int).toNat)).bind fun t130 => (if x4_1.length < 5864062014805 then ((spec_l1Own.f (x5_1.take ((ji19) : Int).toNat)).bind fun t140 => (if t140.length < 17592186044416 then (spec_ruTree.l0 kj4 (x4_1 ++ [t130]) (t140 ++ [x11_1]) l0 (l0.length : Int) (wrap64 (x11_1 + 1))) else (none))) else (none))) else (none)) else (none)) = some (r1, r2) := by first | (rw [hji19] at H; exact H) | (simp only [hji19] at H ⊢; exact H)
         (try rw [hji19] at A18)
         have hji19w : (IntKind.i64.wrap ((x5_1.length : Int) - t125)) = ji19 := (i64_w _).trans hji19
         by_cases c20 : 0 ≤ (ji19)
         ·rw [if_pos c20] at H
          have c20b0 := eq_true c20
          have c20b1 : decide (0 ≤ (ji19)) = true := decide_eq_true c20
          clear c20
          by_cases c21 : (ji19) ≤ (x5_1.length : Int)
          ·rw [if_pos c21] at H
           have c21b0 := eq_true c21
           have c21b1 : decide ((ji19) ≤ (x5_1.length : Int)) = true := decide_eq_true c21
           clear c21
           obtain ⟨y126, hy126⟩ : ∃ y_ : List Int, y_ = (x5_1.drop ((ji19) : Int).toNat) := ⟨_, rfl⟩
           replace H : ((spec_l1Own.f y126).bind fun t130 => (if x4_1.length < 5864062014805 then ((spec_l1Own.f (x5_1.take ((ji19) : Int).toNat)).bind fun t140 => (if t140.length < 17592186044416 then (spec_ruTree.l0 kj4 (x4_1 ++ [t130]) (t140 ++ [x11_1]) l0 (l0.length : Int) (wrap64 (x11_1 + 1))) else (none))) else (none))) = some (r1, r2) := by first | (rw [hy126]; with_reducible exact H) | (have H2_ := (Option.bind_some _ _).symm.trans H; rw [hy126]; with_reducible exact H2_) | (have H2_ := (Option.bind_some _ _).symm.trans H; with_reducible exact H2_) | with_reducible exact H | (rw [hy126]; exact H) | exact H
           have Ny126 := Aside0.mk hy126
           clear hy126
           replace H := Option.bind_eq_some_iff.mp H
           obtain ⟨t130, A220, H⟩ := H
           replace H : (if x4_1.length < 5864062014805 then ((spec_l1Own.f (x5_1.take ((ji19) : Int).toNat)).bind fun t140 => (if t140.length < 17592186044416 then (spec_ruTree.l0 kj4 (x4_1 ++ [t130]) (t140 ++ [x11_1]) l0 (l0.length : Int) (wrap64 (x11_1 + 1))) else (none))) else (none)) = some (r1, r2) := H
           have A22 := Aside0.mk A220
           clear A220
           by_cases c23 : x4_1.length < 5864062014805
           ·rw [if_pos c23] at H
            have LMc23 := Aside0.mk c23
            clear c23
            obtain ⟨y133, hy133⟩ : ∃ y_ : List (List Int), y_ = (x4_1 ++ [t130]) := ⟨_, rfl⟩
            replace H : ((spec_l1Own.f (x5_1.take ((ji19) : Int).toNat)).bind fun t140 => (if t140.length < 17592186044416 then (spec_ruTree.l0 kj4 y133 (t140 ++ [x11_1]) l0 (l0.length : Int) (wrap64 (x11_1 + 1))) else (none))) = some (r1, r2) := by first | (rw [hy133]; with_reducible exact H) | (have H2_ := (Option.bind_some _ _).symm.trans H; rw [hy133]; with_reducible exact H2_) | (have H2_ := (Option.bind_some _ _).symm.trans H; with_reducible exact H2_) | with_reducible exact H | (rw [hy133]; exact H) | exact H
            have Ny133 := Aside0.mk hy133
            clear hy133
            have c24b0 := eq_true (of_decide_eq_true (by first | (with_reducible assumption) | assumption) : 0 ≤ (ji19))
            have c25b0 := eq_true (of_decide_eq_true (by first | (with_reducible assumption) | assumption) : (ji19) ≤ (x5_1.length : Int))
            obtain ⟨y136, hy136⟩ : ∃ y_ : List Int, y_ = (x5_1.take ((ji19) : Int).toNat) := ⟨_, rfl⟩
            replace H : ((spec_l1Own.f y136).bind fun t140 => (if t140.length < 17592186044416 then (spec_ruTree.l0 kj4 y133 (t140 ++ [x11_1]) l0 (l0.length : Int) (wrap64 (x11_1 + 1))) else (none))) = some (r1, r2) := by first | (rw [hy136]; with_reducible exact H) | (have H2_ := (Option.bind_some _ _).symm.trans H; rw [hy136]; with_reducible exact H2_) | (have H2_ := (Option.bind_some _ _).symm.trans H; with_reducible exact H2_) | with_reducible exact H | (rw [hy136]; exact H) | exact H
            have Ny136 := Aside0.mk hy136
            clear hy136
            replace H := Option.bind_eq_some_iff.mp H
            obtain ⟨t140, A260, H⟩ := H
            replace H : (if t140.length < 17592186044416 then (spec_ruTree.l0 kj4 y133 (t140 ++ [x11_1]) l0 (l0.length : Int) (wrap64 (x11_1 + 1))) else (none)) = some (r1, r2) := H
            have A26 := Aside0.mk A260
            clear A260
            by_cases c27 : t140.length < 17592186044416
            ·rw [if_pos c27] at H
             have LMc27 := Aside0.mk c27
             clear c27
             obtain ⟨y143, hy143⟩ : ∃ y_ : List Int, y_ = (t140 ++ [x11_1]) := ⟨_, rfl⟩
             replace H : (spec_ruTree.l0 kj4 y133 y143 l0 (l0.length : Int) (wrap64 (x11_1 + 1))) = some (r1, r2) := by first | (rw [hy143]; with_reducible exact H) | (have H2_ := (Option.bind_some _ _).symm.trans H; rw [hy143]; with_reducible exact H2_) | (have H2_ := (Option.bind_some _ _).symm.trans H; with_reducible exact H2_) | with_reducible exact H | (rw [hy143]; exact H) | exact H
             have Ny143 := Aside0.mk hy143
             clear hy143
             have H' := Aside0.mk H
             clear H
             obtain ⟨Ao28, co28, eo28⟩ := Kd.R_slice HO_5.out
             subst eo28
             have hcz29_0 : wc.cell? ⟨gb122, 0, none⟩ = some (.int .i64 ((rd_T42 l0 x11_1).f0)) := (blk_cell BK122.out 0).trans rfl
             have hcz29_1 : wc.cell? ⟨gb122, 1, none⟩ = some (.int .i64 ((rd_T42 l0 x11_1).f1)) := (blk_cell BK122.out 1).trans rfl
             have hfz29_0 := blk_frozen BK122.out 0
             have hfz29_1 := blk_frozen BK122.out 1
             go_wp2_with (first | ((with_reducible refine gate_callee (f := 37) rfl ?_); refine gl_ (some 31) Tryd.func37 #[.int .i64 ((rd_T42 l0 x11_1).f0)] rfl rfl rfl ?_; (with_reducible refine (spec_ruNeeds.calls ((rd_T42 l0 x11_1).f0) t125 _ A18.out).mono ?_); rintro e w' ⟨rfl, ⟨nd, rfl⟩⟩; refine ⟨_, rfl, ?_⟩; have q30 : ((ji19) : Int) ≤ ((x5_1.length : Int) : Int) := of_decide_eq_true (by first | (with_reducible assumption) | assumption); obtain ⟨i030, hi030, _, hsz30, _⟩ := info_parts info3; have hroom30 : x5_1.length ≤ co28 := (Kd.R_reads' HO_5.out).2.1; have hC30 : Kd.C (Kd.int .i64) _ Ao28 x5_1.length x5_1 := (Kd.R_reads' HO_5.out).2.2; have q030 : (0 : Int) ≤ ((ji19) : Int) := of_decide_eq_true (by first | (with_reducible assumption) | assumption); have hcut30 := cut_from (P := Tryd.prog) 54 3 .i64 Tryd.underlying54 hi030 1 hsz30 Ao28 x5_1.length co28 (ji19) q030 q30; have hr30 := Kd.C_drop (m := ((ji19) : Int).toNat) (c := co28) hC30 (by omega) hroom30; obtain ⟨A30, hA30⟩ : ∃ A1, A1 = (if co28 = ((ji19) : Int).toNat then Ao28 else (Ao28 : Option Addr).map (·.add (((ji19) : Int).toNat * 1))) := ⟨_, rfl⟩; obtain ⟨c30, hc30⟩ : ∃ c1, c1 = co28 - ((ji19) : Int).toNat := ⟨_, rfl⟩; have hy30 : y126.length = x5_1.length - ((ji19) : Int).toNat := (by rw [Ny126.out, List.length_drop] <;> omega); rw [show (x5_1).drop ((ji19) : Int).toNat = y126 from Ny126.out.symm] at hr30; replace hr30 : Kd.C (Kd.int .i64) _ A30 y126.length y126 := (by rw [hA30]; exact hr30); rw [← hy30, ← hA30, ← hc30] at hcut30; have HR129 := Aside0.mk hr30; have HC129 := Aside0.mk (show y126.length ≤ c30 from by rw [hy30, hc30]; exact Nat.sub_le_sub_right hroom30 _); clear hr30 hC30 hroom30 hi030 hsz30 hc30; have KY30 := Aside0.mk hy30; have KA30 := Aside0.mk hA30; clear hy30 hA30; have KL30 := Aside0.mk (show ((ji19) : Int).toNat ≤ x5_1.length from by omega); replace q30 := eq_true q30) | ((with_reducible refine gate_callee (f := 38) rfl ?_); refine gl_ (some 37) Tryd.func38 #[.slice A30 y126.length c30] rfl rfl rfl ?_; (with_reducible refine (spec_l1Own.calls _ _ y126 t130 _ ?side1 ?side2 A22.out).mono ?_); (case side1 => repeat (first | exact (by repeat (first | (with_reducible exact HR129.out) | (with_reducible refine Kd.C_alloc ?_ _) | (with_reducible refine Kd.C_drewN ?_ _) | (with_reducible refine Kd.C_drew ?_) | exact HR129.out)) | (with_reducible refine Kd.C_alloc ?_ _) | (with_reducible refine Kd.C_drewN ?_ _) | (with_reducible refine Kd.C_drew ?_))); (case side2 => exact HC129.out); rintro e w31 ⟨v131, rfl, ho0, hb⟩; refine ⟨_, rfl, ?_⟩; have HO132 := Kd.R_lo (Kd.R_nw ho0 HO_5) HB; replace HO_4 := Aside0.mk (Kd.S_elder' (by (with_reducible repeat (first | apply Kd.S_alloc | apply Kd.S_drewN | apply Kd.S_drew)); exact HO_4.out) (Kd.R_base ho0) hb); replace HO_5 := Kd.R_e HO_5 ho0 hb; replace BK122 := kb_ BK122 hb; replace HR129 := Aside0.mk (Kd.C_below (by repeat (first | (with_reducible exact HR129.out) | (with_reducible refine Kd.C_alloc ?_ _) | (with_reducible refine Kd.C_drewN ?_ _) | (with_reducible refine Kd.C_drew ?_) | exact HR129.out)) hb); replace HB := hbs_ HB hb; (try clear hb); (try clear hb2); (try clear hk); (try clear hi); (try clear ho0); try clear HR129; obtain ⟨Ao33, co33, eo33⟩ := Kd.R_slice HO132.out; subst eo33) | ((with_reducible refine gate_builtin (b := .append) (xs := #[.tmp 33, .tmp 38]) rfl ?_); (try (refine gate_guard (by rfl) ?_; dsimp only)); at_builtin; refine Kd.S_append (Kd.slice 3 (Kd.int .i64)) (w0 := w) w.heap.size rfl (.tmp 33) (.tmp 38) 51 54 (.slice none 0 0) 24 rfl Tryd.underlying51 info54 rfl (by decide) (by omega) u4 x4_1 t130 [.slice Ao33 t130.length co33] (fun k_ => some k_ ≠ (.slice Ao28 x5_1.length co28 : Value).ownBlock) (fun k_ => some k_ = (.slice Ao33 t130.length co33 : Value).ownBlock) rfl rfl ?aP (fun k_ hk_ => ((Kd.R_mono (ok' := fun k_ => ((fun k_ => some k_ ≠ (.slice Ao28 x5_1.length co28 : Value).ownBlock)) k_ ∧ some k_ ≠ (u4 : Value).ownBlock) (Kd.R_apart' (HO132.out) (Kd.S_typed HO_4.out) (by decide)) (fun k_ hk => ⟨hk.1.2, hk.2⟩))).1 k_ hk_.symm) ?aF ?aO ?aB ?aS ?aL ?_; (case aP => exact Kd.M_row (Kd.R_mono (Kd.R_tight rfl (Kd.R_mono (ok' := fun k_ => ((fun k_ => some k_ ≠ (.slice Ao28 x5_1.length co28 : Value).ownBlock)) k_ ∧ some k_ ≠ (u4 : Value).ownBlock) (Kd.R_apart' (HO132.out) (Kd.S_typed HO_4.out) (by decide)) (fun k_ hk => ⟨hk.1.2, hk.2⟩))) (fun _ h_ => h_))); (case aB => exact (hb_ HB)); (case aF => exact (fun k_ hk => Kd.fresh' (Kd.R_lt (Kd.R_p HO_5)) k_ hk)); (case aO => exact (by (with_reducible repeat (first | apply Kd.S_alloc | apply Kd.S_drewN | apply Kd.S_drew)); exact Kd.S_mono HO_4.out (fun k_ hk => ⟨hk.1, fun e_ => hk.2 e_⟩))); (case aS => exact (below_size (hb_ HB))); (case aL => have := LMc23.out; omega); intro v134 w32 ho hb hg hat; rw [← Ny133.out] at ho; have HO135 := Aside0.mk (ho); replace HO_5 := Aside0.mk (Kd.R_over' (Kd.R_p HO_5) (Kd.S_typed (by (with_reducible repeat (first | apply Kd.S_alloc | apply Kd.S_drewN | apply Kd.S_drew)); exact HO_4.out)) (by decide) hg); replace BK122 := Aside0.mk (blk_grown (kp_ BK122) hg (Kd.S_ne HO_4.out BK122.out (by decide))); replace HB := Aside0.mk (hb); clear HO_4 HO132; clear ho hb hg hat; have q34 : ((ji19) : Int) ≤ ((x5_1.length : Int) : Int) := of_decide_eq_true (by first | (with_reducible assumption) | assumption); obtain ⟨i034, hi034, _, hsz34, _⟩ := info_parts info3; have hroom34 : x5_1.length ≤ co28 := (Kd.R_reads' HO_5.out).2.1; have hC34 : Kd.C (Kd.int .i64) _ Ao28 x5_1.length x5_1 := (Kd.R_reads' HO_5.out).2.2; have hcut34 := cut_to (P := Tryd.prog) 54 3 .i64 Tryd.underlying54 hi034 Ao28 x5_1.length co28 (ji19) (of_decide_eq_true (by first | (with_reducible assumption) | assumption)) q34 hroom34; have hr34 := Kd.C_take (m := ((ji19) : Int).toNat) hC34 (by omega); have hy34 : y136.length = ((ji19) : Int).toNat := (by rw [Ny136.out, List.length_take]; omega); rw [← Ny136.out] at hr34; rw [← hy34] at hcut34; have HR139 := Aside0.mk hr34; have HC139 := Aside0.mk (show y136.length ≤ co28 from by omega); clear hr34 hC34 hroom34 hi034 hsz34; have KY34 := Aside0.mk hy34; clear hy34; have KL34 := Aside0.mk (show ((ji19) : Int).toNat ≤ x5_1.length from by omega); replace q34 := eq_true q34) | ((with_reducible refine gate_callee (f := 38) rfl ?_); refine gl_ (some 43) Tryd.func38 #[.slice Ao28 y136.length co28] rfl rfl rfl ?_; (with_reducible refine (spec_l1Own.calls _ _ y136 t140 _ ?side1 ?side2 A26.out).mono ?_); (case side1 => repeat (first | exact (by repeat (first | (with_reducible exact HR139.out) | (with_reducible refine Kd.C_alloc ?_ _) | (with_reducible refine Kd.C_drewN ?_ _) | (with_reducible refine Kd.C_drew ?_) | exact HR139.out)) | (with_reducible refine Kd.C_alloc ?_ _) | (with_reducible refine Kd.C_drewN ?_ _) | (with_reducible refine Kd.C_drew ?_))); (case side2 => exact HC139.out); rintro e w35 ⟨v141, rfl, ho0, hb⟩; refine ⟨_, rfl, ?_⟩; have HO142 := Kd.R_lo (Kd.R_nw ho0 HO_5) HB; replace HO_5 := Kd.R_e HO_5 ho0 hb; replace HO135 := Aside0.mk (Kd.S_elder' (by (with_reducible repeat (first | apply Kd.S_alloc | apply Kd.S_drewN | apply Kd.S_drew)); exact HO135.out) (Kd.R_base ho0) hb); replace BK122 := kb_ BK122 hb; replace HR139 := Aside0.mk (Kd.C_below (by repeat (first | (with_reducible exact HR139.out) | (with_reducible refine Kd.C_alloc ?_ _) | (with_reducible refine Kd.C_drewN ?_ _) | (with_reducible refine Kd.C_drew ?_) | exact HR139.out)) hb); replace HB := hbs_ HB hb; (try clear hb); (try clear hb2); (try clear hk); (try clear hi); (try clear ho0); try clear HR139) | ((with_reducible refine gate_builtin (b := .append) (xs := #[.tmp 43, .tmp 45]) rfl ?_); (try (refine gate_guard (by rfl) ?_; dsimp only)); at_builtin; refine Kd.R_append (Kd.int .i64) (w0 := w) w.heap.size rfl (.tmp 43) (.tmp 45) 54 3 (.int .i64 0) 8 rfl Tryd.underlying54 info3 rfl (by decide) (by omega) v141 t140 x11_1 [.int .i64 x11_1] (fun k_ => some k_ ≠ (.slice Ao28 x5_1.length co28 : Value).ownBlock) (fun _ => False) rfl rfl ?aP (fun _ hk => hk.elim) ?aF ?aO ?aB ?aS ?aL ?_; (case aP => exact rfl); (case aB => exact (hb_ HB)); (case aF => exact (fun k_ hk => Kd.fresh' (Kd.R_lt (Kd.R_p HO_5)) k_ hk)); (case aO => exact (Kd.R_pp (Kd.R_mono HO142.out (fun _ hk => hk.2)))); (case aS => exact (below_size (hb_ HB))); (case aL => have := LMc27.out; omega); intro v144 w36 ho hb hg hat; rw [← Ny143.out] at ho; have HO145 := Aside0.mk (ho); replace HO_5 := Aside0.mk (Kd.R_after (ok := (fun _ => True)) (Kd.R_pp (Kd.R_mono HO_5.out (fun _ hk => ⟨trivial, hk.2⟩))) hg hat); replace BK122 := Aside0.mk (blk_grown (kp_ BK122) hg (Kd.R_ne HO142.out BK122.out (by decide))); replace HO135 := Aside0.mk (Kd.S_after (ok := (fun k_ => some k_ ≠ (.slice Ao28 x5_1.length co28 : Value).ownBlock)) (by (with_reducible repeat (first | apply Kd.S_alloc | apply Kd.S_drewN | apply Kd.S_drew)); exact HO135.out) hg hat); replace HB := Aside0.mk (hb); clear HO142; clear ho hb hg hat))
             go_roundg kj4
             case measure => have := HK1.out; have := HJ4.out; omega
             case rel => exact ⟨(y133), (y143), (wrap64 (x11_1 + 1)), (by first | rfl | (simp; done) | (simp [*]; done)), H', ⟨by have := HK1.out; have := HJ4.out; omega⟩, ⟨by (with_reducible repeat (first | apply Kd.S_alloc | apply Kd.S_drewN | apply Kd.S_drew)); exact Kd.S_mono HO135.out (fun _ hk => hk.2)⟩, ⟨Kd.R_pp (Kd.R_mono HO145.out (fun _ hk => trivial))⟩, ⟨hb_ HB⟩⟩
            ·rw [if_neg c27] at H
             exact absurd H (by simp)
           ·rw [if_neg c23] at H
            exact absurd H (by simp)
          ·rw [if_neg c21] at H
           exact absurd H (by simp)
         ·rw [if_neg c20] at H
          exact absurd H (by simp)
     ·rw [if_neg c4] at H
      exact absurd H (by simp)
    ·rw [if_neg c3] at H
     exact absurd H (by simp)
   ·rw [if_neg c2] at H
    have c2b0 : decide (x11_1 < (l0.length : Int)) = false := decide_eq_false c2
    clear c2
    simp only [Option.some.injEq, Prod.mk.injEq] at H
    obtain ⟨rfl, rfl⟩ := H
    obtain ⟨Ao37, co37, eo37⟩ := Kd.R_slice HO_5.out
    subst eo37
    go_wp2
    go_ret2
    exact ⟨_, by first | rfl | (simp [errW_none, errW_some] <;> rfl) | (simp [*, errW_none, errW_some] <;> rfl), by (with_reducible repeat (first | apply Kd.S_alloc | apply Kd.S_drewN | apply Kd.S_drew)); exact Kd.S_mono HO_4.out (fun _ hk => trivial), hb_ HB⟩

/-! ### spec_l1Most: function 39 -/
def spec_l1Most.f (a0 : Int) (a1 : Int) : Option (Int) := if a0 > a1 then (some a0) else (some a1)
set_option maxHeartbeats 8000000 in
set_option maxRecDepth 100000 in
theorem spec_l1Most.calls (a0 : Int) (a1 : Int) (r : Int) (w : World) (h : spec_l1Most.f a0 a1 = some r) :
  Calls Tryd.prog 39 #[.int .i64 a0, .int .i64 a1] w fun e w' => e = .returned (.int .i64 r) ∧ Drawn0 w w' := by
 have H : (if a0 > a1 then (some a0) else (some a1)) = some r := h
 clear h
 by_cases c3 : a0 > a1
 ·rw [if_pos c3] at H
  have c3b0 : decide (a1 < a0) = true := decide_eq_true c3
  clear c3
  obtain rfl := Option.some.inj H
  go_enter Tryd.func39, Tryd.ntmps39
  go_wp2
  go_ret
  exact ⟨by first | rfl | (simp; done) | (simp [*]; done), by repeat (first | exact Drawn0.refl _ | apply Drawn0.step)⟩
 ·rw [if_neg c3] at H
  have c3b0 : decide (a1 < a0) = false := decide_eq_false c3
  clear c3
  obtain rfl := Option.some.inj H
  go_enter Tryd.func39, Tryd.ntmps39
  go_wp2
  go_ret
  exact ⟨by first | rfl | (simp; done) | (simp [*]; done), by repeat (first | exact Drawn0.refl _ | apply Drawn0.step)⟩

/-! ### spec_ruDepths: function 27 -/
mutual
def spec_ruDepths.l0 : Nat → List Int → List (List Int) → Int → Int → Option (List Int)
 | 0, _, _, _, _ => none
 | k + 1, x3, x9, x10, x11 => if x11 < x10 then (if 0 ≤ x11 then (if x11 < (x9.length : Int) then (spec_ruDepths.l1 k x3 0 x9 x10 x11 (rd_L6 x9 x11) ((rd_L6 x9 x11).length : Int) 0) else (none)) else (none)) else (some x3)
def spec_ruDepths.l1 : Nat → List Int → Int → List (List Int) → Int → Int → List Int → Int → Int → Option (List Int)
 | 0, _, _, _, _, _, _, _, _ => none
 | k + 1, x3, x6, x9, x10, x11, x15, x16, x17 => if x17 < x16 then (if 0 ≤ x17 then (if x17 < (x15.length : Int) then (if 0 ≤ (rd x15 x17) then (if (rd x15 x17) < (x3.length : Int) then ((spec_l1Most.f x6 (rd x3 (rd x15 x17))).bind fun t149 => (spec_ruDepths.l1 k x3 t149 x9 x10 x11 x15 x16 (wrap64 (x17 + 1)))) else (none)) else (none)) else (none)) else (none)) else (if x3.length < 17592186044416 then (spec_ruDepths.l0 k (x3 ++ [wrap64 (x6 + 1)]) x9 x10 (wrap64 (x11 + 1))) else (none))
end
def spec_ruDepths.f (k : Nat) (l0 : List (List Int)) : Option (List Int) := spec_ruDepths.l0 k ([] : List Int) l0 (l0.length : Int) 0
set_option maxHeartbeats 8000000 in
set_option maxRecDepth 100000 in
theorem spec_ruDepths.calls (k : Nat) (A0 : Option Addr) (c0 : Nat) (l0 : List (List Int)) (r : List Int) (w : World) (hr0 : Kd.C (Kd.slice 3 (Kd.int .i64)) w A0 l0.length l0) (hc0 : l0.length ≤ c0) (h : spec_ruDepths.f k l0 = some r) :
  Calls Tryd.prog 27 #[.slice A0 l0.length c0] w fun e w' => ∃ v0_ : Value, e = .returned (v0_) ∧ Kd.R (Kd.int .i64) 3 w' w.heap.size (fun _ => True) v0_ r ∧ Below w.heap.size w w' := by
 have HR0 := Aside0.mk hr0
 have HC0 := Aside0.mk hc0
 clear hr0 hc0
 have HB := Aside0.mk (Below.refl w.heap.size w)
 have H : (spec_ruDepths.l0 k ([] : List Int) l0 (l0.length : Int) 0) = some r := h
 clear h
 have H' := Aside0.mk H
 clear H
 go_enter Tryd.func27, Tryd.ntmps27
 go_wp2
 go_loopg [3, 11] k (fun kq v3 v11 w' => ∃ (x3_1 : List Int) (x11_1 : Int), v11 = .int .i64 x11_1 ∧ Aside0 (spec_ruDepths.l0 kq x3_1 l0 (l0.length : Int) x11_1 = some r) ∧ Aside0 (kq ≤ k) ∧ Aside0 (Kd.R (Kd.int .i64) 3 w' w.heap.size (fun _ => True) v3 x3_1) ∧ Aside0 (Below w.heap.size w w'))
 case atStart => exact ⟨(([] : List Int)), (0), (by first | rfl | (simp; done) | (simp [*]; done)), H', ⟨Nat.le_refl _⟩, ⟨by first | exact Kd.R_nil _ _ _ _ _ | exact Kd.N_nil _ _ _ _ _ | exact Kd.V_nil _ _ _ _ _ | exact Kd.Q_nil _ _ _ _ _ | exact Kd.S_nil _ _ _ _ _⟩, ⟨hb_ HB⟩⟩
 case round =>
  clear H'
  obtain ⟨x3_1, x11_1, rfl, HA, HK1, HO_3, HB⟩ := hrel
  cases gk with
  | zero => exact absurd HA.out (by simp [spec_ruDepths.l0])
  | succ k1 =>
   have H := HA.out
   clear HA
   simp only [spec_ruDepths.l0] at H
   by_cases c2 : x11_1 < (l0.length : Int)
   ·rw [if_pos c2] at H
    have c2b0 : decide (x11_1 < (l0.length : Int)) = true := decide_eq_true c2
    clear c2
    by_cases c3 : 0 ≤ x11_1
    ·rw [if_pos c3] at H
     have c3b0 : decide (0 ≤ x11_1) = true := decide_eq_true c3
     clear c3
     by_cases c4 : x11_1 < (l0.length : Int)
     ·rw [if_pos c4] at H
      have c4b0 : decide (x11_1 < (l0.length : Int)) = true := decide_eq_true c4
      clear c4
      have H' := Aside0.mk H
      clear H
      have p146 : 0 ≤ (x11_1 : Int) := of_decide_eq_true (by first | (with_reducible assumption) | assumption)
      have q146 : x11_1 < (l0.length : Int) := of_decide_eq_true (by first | (with_reducible assumption) | assumption)
      obtain ⟨ad146, A146_0, c146_0, e146, hx146_0, hl146_0, hi146_0⟩ := at_L6 HR0.out x11_1 p146 q146
      cases e146
      replace hx146_0 := (HB.out.cell (World.block_lt_of_cell? w _ hx146_0)).trans hx146_0
      have HR146_0 := Aside0.mk hi146_0
      have HC146_0 := Aside0.mk hl146_0
      clear hi146_0 hl146_0
      replace p146 := eq_true p146
      replace q146 := eq_true q146
      go_wp2
      go_loopg [6, 17] k1 (fun kq v6 v17 w' => ∃ (x6_2 : Int) (x17_2 : Int), v6 = .int .i64 x6_2 ∧ v17 = .int .i64 x17_2 ∧ Aside0 (spec_ruDepths.l1 kq x3_1 x6_2 l0 (l0.length : Int) x11_1 (rd_L6 l0 x11_1) ((rd_L6 l0 x11_1).length : Int) x17_2 = some r) ∧ Aside0 (kq ≤ k1) ∧ Aside0 (Kd.R (Kd.int .i64) 3 w' w.heap.size (fun _ => True) u3 x3_1) ∧ Aside0 (Below w.heap.size w w'))
      case atStart => exact ⟨(0), (0), (by first | rfl | (simp; done) | (simp [*]; done)), (by first | rfl | (simp; done) | (simp [*]; done)), H', ⟨Nat.le_refl _⟩, ⟨Kd.R_p HO_3⟩, ⟨hb_ HB⟩⟩
      case round =>
       clear H'
       (try clear c1); (try clear p1); (try clear q1); (try clear hx1); (try clear c2); (try clear c2b0); (try clear p2); (try clear c3); (try clear c3b0); (try clear c4); (try clear c4b0); (try clear hx146_0); (try clear p146); (try clear q146)
       obtain ⟨x6_2, x17_2, rfl, rfl, HA, HK2, HO_3, HB⟩ := hrel
       cases gk with
       | zero => exact absurd HA.out (by simp [spec_ruDepths.l1])
       | succ k2 =>
        have H := HA.out
        clear HA
        simp only [spec_ruDepths.l1] at H
        by_cases c5 : x17_2 < ((rd_L6 l0 x11_1).length : Int)
        ·rw [if_pos c5] at H
         have c5b0 : decide (x17_2 < ((rd_L6 l0 x11_1).length : Int)) = true := decide_eq_true c5
         clear c5
         by_cases c6 : 0 ≤ x17_2
         ·rw [if_pos c6] at H
          have c6b0 : decide (0 ≤ x17_2) = true := decide_eq_true c6
          clear c6
          by_cases c7 : x17_2 < ((rd_L6 l0 x11_1).length : Int)
          ·rw [if_pos c7] at H
           have c7b0 : decide (x17_2 < ((rd_L6 l0 x11_1).length : Int)) = true := decide_eq_true c7
           clear c7
           by_cases c8 : 0 ≤ (rd (rd_L6 l0 x11_1) x17_2)
           ·rw [if_pos c8] at H
            have c8b0 : decide (0 ≤ (rd (rd_L6 l0 x11_1) x17_2)) = true := decide_eq_true c8
            clear c8
            by_cases c9 : (rd (rd_L6 l0 x11_1) x17_2) < (x3_1.length : Int)
            ·rw [if_pos c9] at H
             have c9b0 : decide ((rd (rd_L6 l0 x11_1) x17_2) < (x3_1.length : Int)) = true := decide_eq_true c9
             clear c9
             replace H := Option.bind_eq_some_iff.mp H
             obtain ⟨t149, A100, H⟩ := H
             replace H : (spec_ruDepths.l1 k2 x3_1 t149 l0 (l0.length : Int) x11_1 (rd_L6 l0 x11_1) ((rd_L6 l0 x11_1).length : Int) (wrap64 (x17_2 + 1))) = some r := H
             have A10 := Aside0.mk A100
             clear A100
             have H' := Aside0.mk H
             clear H
             have p147 : 0 ≤ (x17_2 : Int) := of_decide_eq_true (by first | (with_reducible assumption) | assumption)
             have q147 : x17_2 < ((rd_L6 l0 x11_1).length : Int) := of_decide_eq_true (by first | (with_reducible assumption) | assumption)
             obtain ⟨ad147, e147, hx147_0⟩ := Kd.at_int HR146_0.out x17_2 p147 q147
             cases e147
             replace hx147_0 := (HB.out.cell (World.block_lt_of_cell? w _ hx147_0)).trans hx147_0
             replace p147 := eq_true p147
             replace q147 := eq_true q147
             obtain ⟨Ao11, co11, eo11⟩ := Kd.R_slice HO_3.out
             subst eo11
             have p148 : 0 ≤ ((rd (rd_L6 l0 x11_1) x17_2) : Int) := of_decide_eq_true (by first | (with_reducible assumption) | assumption)
             have q148 : (rd (rd_L6 l0 x11_1) x17_2) < (x3_1.length : Int) := of_decide_eq_true (by first | (with_reducible assumption) | assumption)
             obtain ⟨ad148, e148, hx148_0⟩ := Kd.at_int (Kd.R_reads' HO_3.out).2.2 (rd (rd_L6 l0 x11_1) x17_2) p148 q148
             cases e148
             replace p148 := eq_true p148
             replace q148 := eq_true q148
             go_wp2_with (first | ((with_reducible refine gate_callee (f := 39) rfl ?_); refine gl_ (some 26) Tryd.func39 #[.int .i64 x6_2, .int .i64 (rd x3_1 (rd (rd_L6 l0 x11_1) x17_2))] rfl rfl rfl ?_; (with_reducible refine (spec_l1Most.calls x6_2 (rd x3_1 (rd (rd_L6 l0 x11_1) x17_2)) t149 _ A10.out).mono ?_); rintro e w' ⟨rfl, ⟨nd, rfl⟩⟩; refine ⟨_, rfl, ?_⟩))
             go_roundg k2
             case measure => have := HK1.out; have := HK2.out; omega
             case rel => exact ⟨(t149), (wrap64 (x17_2 + 1)), (by first | rfl | (simp; done) | (simp [*]; done)), (by first | rfl | (simp; done) | (simp [*]; done)), H', ⟨by have := HK1.out; have := HK2.out; omega⟩, ⟨Kd.R_p HO_3⟩, ⟨hb_ HB⟩⟩
            ·rw [if_neg c9] at H
             exact absurd H (by simp)
           ·rw [if_neg c8] at H
            exact absurd H (by simp)
          ·rw [if_neg c7] at H
           exact absurd H (by simp)
         ·rw [if_neg c6] at H
          exact absurd H (by simp)
        ·rw [if_neg c5] at H
         have c5b0 : decide (x17_2 < ((rd_L6 l0 x11_1).length : Int)) = false := decide_eq_false c5
         clear c5
         by_cases c12 : x3_1.length < 17592186044416
         ·rw [if_pos c12] at H
          have LMc12 := Aside0.mk c12
          clear c12
          obtain ⟨y150, hy150⟩ : ∃ y_ : List Int, y_ = (x3_1 ++ [wrap64 (x6_2 + 1)]) := ⟨_, rfl⟩
          replace H : (spec_ruDepths.l0 k2 y150 l0 (l0.length : Int) (wrap64 (x11_1 + 1))) = some r := by first | (rw [hy150]; with_reducible exact H) | (have H2_ := (Option.bind_some _ _).symm.trans H; rw [hy150]; with_reducible exact H2_) | (have H2_ := (Option.bind_some _ _).symm.trans H; with_reducible exact H2_) | with_reducible exact H | (rw [hy150]; exact H) | exact H
          have Ny150 := Aside0.mk hy150
          clear hy150
          have H' := Aside0.mk H
          clear H
          go_wp2_with (first | ((with_reducible refine gate_builtin (b := .append) (xs := #[.tmp 28, .tmp 31]) rfl ?_); at_builtin; refine Kd.R_append (Kd.int .i64) (w0 := w) w.heap.size rfl (.tmp 28) (.tmp 31) 54 3 (.int .i64 0) 8 rfl Tryd.underlying54 info3 rfl (by decide) (by omega) u3 x3_1 (wrap64 (x6_2 + 1)) [.int .i64 (wrap64 (x6_2 + 1))] (fun _ => True) (fun _ => False) rfl rfl ?aP (fun _ hk => hk.elim) ?aF ?aO ?aB ?aS ?aL ?_; (case aP => exact rfl); (case aB => exact (hb_ HB)); (case aF => exact (fun _ _ => trivial)); (case aO => exact (Kd.R_p HO_3)); (case aS => exact (below_size (hb_ HB))); (case aL => have := LMc12.out; omega); intro v151 w13 ho hb hg hat; rw [← Ny150.out] at ho; have HO152 := Aside0.mk (ho); replace HB := Aside0.mk (hb); clear HO_3; clear ho hb hg hat))
          go_roundg k2
          case measure => have := HK1.out; have := HK2.out; omega
          case rel => exact ⟨(y150), (wrap64 (x11_1 + 1)), (by first | rfl | (simp; done) | (simp [*]; done)), H', ⟨by have := HK1.out; have := HK2.out; omega⟩, ⟨Kd.R_p HO152⟩, ⟨hb_ HB⟩⟩
         ·rw [if_neg c12] at H
          exact absurd H (by simp)
     ·rw [if_neg c4] at H
      exact absurd H (by simp)
    ·rw [if_neg c3] at H
     exact absurd H (by simp)
   ·rw [if_neg c2] at H
    have c2b0 : decide (x11_1 < (l0.length : Int)) = false := decide_eq_false c2
    clear c2
    obtain rfl := Option.some.inj H
    go_wp2
    go_ret
    exact ⟨_, by first | rfl | (simp [errW_none, errW_some] <;> rfl) | (simp [*, errW_none, errW_some] <;> rfl), Kd.R_p HO_3, hb_ HB⟩

/-! ### spec_ruGood: function 15 -/
def spec_ruGood.f (k : Nat) (l0 : List (S42)) : Option (Bool) := (spec_l1In.f (l0.length : Int) 1 39).bind fun t153 => (if t153 = true then ((spec_ruTree.f k l0).bind fun bt154 => (if bt154.2 = true then ((spec_ruDepths.f k bt154.1).bind fun t158 => (if 0 ≤ (wrap64 ((l0.length : Int) - 1)) then (if (wrap64 ((l0.length : Int) - 1)) < (t158.length : Int) then (some (decide ((rd t158 (wrap64 ((l0.length : Int) - 1))) ≤ 12))) else (none)) else (none))) else (some false))) else (some false))
set_option maxHeartbeats 8000000 in
set_option maxRecDepth 100000 in
theorem spec_ruGood.calls (k : Nat) (A0 : Option Addr) (c0 : Nat) (l0 : List (S42)) (r : Bool) (w : World) (hr0 : Kd.C k42 w A0 l0.length l0) (hc0 : l0.length ≤ c0) (h : spec_ruGood.f k l0 = some r) :
  Calls Tryd.prog 15 #[.slice A0 l0.length c0] w fun e w' => e = .returned (.bool r) ∧ Below w.heap.size w w' := by
 have HR0 := Aside0.mk hr0
 have HC0 := Aside0.mk hc0
 clear hr0 hc0
 have HB := Aside0.mk (Below.refl w.heap.size w)
 have H : ((spec_l1In.f (l0.length : Int) 1 39).bind fun t153 => (if t153 = true then ((spec_ruTree.f k l0).bind fun bt154 => (if bt154.2 = true then ((spec_ruDepths.f k bt154.1).bind fun t158 => (if 0 ≤ (wrap64 ((l0.length : Int) - 1)) then (if (wrap64 ((l0.length : Int) - 1)) < (t158.length : Int) then (some (decide ((rd t158 (wrap64 ((l0.length : Int) - 1))) ≤ 12))) else (none)) else (none))) else (some false))) else (some false))) = some r := h
 clear h
 replace H := Option.bind_eq_some_iff.mp H
 obtain ⟨t153, A20, H⟩ := H
 replace H : (if t153 = true then ((spec_ruTree.f k l0).bind fun bt154 => (if bt154.2 = true then ((spec_ruDepths.f k bt154.1).bind fun t158 => (if 0 ≤ (wrap64 ((l0.length : Int) - 1)) then (if (wrap64 ((l0.length : Int) - 1)) < (t158.length : Int) then (some (decide ((rd t158 (wrap64 ((l0.length : Int) - 1))) ≤ 12))) else (none)) else (none))) else (some false))) else (some false)) = some r := H
 have A2 := Aside0.mk A20
 clear A20
 by_cases c3 : t153 = true
 ·subst c3
  have H1 : ((spec_ruTree.f k l0).bind fun bt154 => (if bt154.2 = true then ((spec_ruDepths.f k bt154.1).bind fun t158 => (if 0 ≤ (wrap64 ((l0.length : Int) - 1)) then (if (wrap64 ((l0.length : Int) - 1)) < (t158.length : Int) then (some (decide ((rd t158 (wrap64 ((l0.length : Int) - 1))) ≤ 12))) else (none)) else (none))) else (some false))) = some r := by rw [if_pos rfl] at H; exact H
  clear H
  have H := H1
  clear H1
  replace H := Option.bind_eq_some_iff.mp H
  obtain ⟨⟨t154, t155⟩, A40, H⟩ := H
  replace H : (if t155 = true then ((spec_ruDepths.f k t154).bind fun t158 => (if 0 ≤ (wrap64 ((l0.length : Int) - 1)) then (if (wrap64 ((l0.length : Int) - 1)) < (t158.length : Int) then (some (decide ((rd t158 (wrap64 ((l0.length : Int) - 1))) ≤ 12))) else (none)) else (none))) else (some false)) = some r := H
  have A4 := Aside0.mk A40
  clear A40
  by_cases c5 : t155 = true
  ·subst c5
   have H1 : ((spec_ruDepths.f k t154).bind fun t158 => (if 0 ≤ (wrap64 ((l0.length : Int) - 1)) then (if (wrap64 ((l0.length : Int) - 1)) < (t158.length : Int) then (some (decide ((rd t158 (wrap64 ((l0.length : Int) - 1))) ≤ 12))) else (none)) else (none))) = some r := by rw [if_pos rfl] at H; exact H
   clear H
   have H := H1
   clear H1
   replace H := Option.bind_eq_some_iff.mp H
   obtain ⟨t158, A60, H⟩ := H
   replace H : (if 0 ≤ (wrap64 ((l0.length : Int) - 1)) then (if (wrap64 ((l0.length : Int) - 1)) < (t158.length : Int) then (some (decide ((rd t158 (wrap64 ((l0.length : Int) - 1))) ≤ 12))) else (none)) else (none)) = some r := H
   have A6 := Aside0.mk A60
   clear A60
   obtain ⟨ji7, hji7⟩ : ∃ j_ : Int, (wrap64 ((l0.length : Int) - 1)) = j_ := ⟨_, rfl⟩
   replace H : (if 0 ≤ (ji7) then (if (ji7) < (t158.length : Int) then (some (decide ((rd t158 (ji7)) ≤ 12))) else (none)) else (none)) = some r := by first | (rw [hji7] at H; exact H) | (simp only [hji7] at H ⊢; exact H)
   (try rw [hji7] at A2)
   (try rw [hji7] at A4)
   (try rw [hji7] at A6)
   have hji7w : (IntKind.i64.wrap ((l0.length : Int) - 1)) = ji7 := (i64_w _).trans hji7
   by_cases c8 : 0 ≤ (ji7)
   ·rw [if_pos c8] at H
    have c8b0 : decide (0 ≤ (ji7)) = true := decide_eq_true c8
    clear c8
    by_cases c9 : (ji7) < (t158.length : Int)
    ·rw [if_pos c9] at H
     have c9b0 : decide ((ji7) < (t158.length : Int)) = true := decide_eq_true c9
     clear c9
     obtain rfl := Option.some.inj H
     go_enter Tryd.func15, Tryd.ntmps15
     go_wp2_with (first | ((with_reducible refine gate_callee (f := 25) rfl ?_); refine gl_ (some 7) Tryd.func25 #[.int .i64 (l0.length : Int), .int .i64 1, .int .i64 39] rfl rfl rfl ?_; (with_reducible refine (spec_l1In.calls (l0.length : Int) 1 39 true _ A2.out).mono ?_); rintro e w' ⟨rfl, ⟨nd, rfl⟩⟩; refine ⟨_, rfl, ?_⟩) | ((with_reducible refine gate_callee (f := 26) rfl ?_); refine gl_ (some 11) Tryd.func26 #[.slice A0 l0.length c0] rfl rfl rfl ?_; (with_reducible refine (spec_ruTree.calls k _ _ l0 t154 true _ ?side1 ?side2 A4.out).mono ?_); (case side1 => repeat (first | exact HR0.out | (with_reducible refine Kd.C_alloc ?_ _) | (with_reducible refine Kd.C_drewN ?_ _) | (with_reducible refine Kd.C_drew ?_))); (case side2 => exact HC0.out); rintro e w10 ⟨v156, rfl, ho0, hb⟩; refine ⟨_, rfl, ?_⟩; have HO157 := Aside0.mk (Kd.S_lower ho0 (below_size (hb_ HB))); replace HB := hbs_ HB hb; (try clear hb); (try clear hb2); (try clear hk); (try clear hi); (try clear ho0); obtain ⟨Ao11, co11, eo11⟩ := Kd.S_slice HO157.out; subst eo11) | (go_at_call 27; (with_reducible refine (spec_ruDepths.calls k _ _ t154 t158 _ ?side1 ?side2 A6.out).mono ?_); (case side1 => repeat (first | exact (Kd.S_reads' HO157.out).2.2 | (with_reducible refine Kd.C_alloc ?_ _) | (with_reducible refine Kd.C_drewN ?_ _) | (with_reducible refine Kd.C_drew ?_))); (case side2 => exact (Kd.S_reads' HO157.out).2.1); rintro e w12 ⟨v159, rfl, ho0, hb⟩; have n0_ := Aside0.mk (Kd.S_elder' (by (with_reducible repeat (first | apply Kd.S_alloc | apply Kd.S_drewN | apply Kd.S_drew)); exact HO157.out) (Kd.R_base ho0) hb); have n1_ := Aside0.mk (Kd.R_lower ho0 (below_size (hb_ HB))); have n2_ := Aside0.mk (below_step (hb_ HB) hb); clear HO157; clear HB; have HO157 := n0_; have HO160 := n1_; have HB := n2_; clear n0_ n1_ n2_; (try clear hb); (try clear hb2); (try clear hk); (try clear hi); (try clear ho0); obtain ⟨Ao13, co13, eo13⟩ := Kd.R_slice HO160.out; subst eo13; have p161 : 0 ≤ ((ji7) : Int) := of_decide_eq_true (by first | (with_reducible assumption) | assumption); have q161 : (ji7) < (t158.length : Int) := of_decide_eq_true (by first | (with_reducible assumption) | assumption); obtain ⟨ad161, e161, hx161_0⟩ := Kd.at_int (Kd.R_reads' HO160.out).2.2 (ji7) p161 q161; cases e161; replace p161 := eq_true p161; replace q161 := eq_true q161))
     go_ret
     exact ⟨by first | rfl | (simp [errW_none, errW_some] <;> rfl) | (simp only [← hji7]; first | rfl | (simp [errW_none, errW_some] <;> rfl)) | (simp [*, errW_none, errW_some] <;> rfl), hb_ HB⟩
    ·rw [if_neg c9] at H
     exact absurd H (by simp)
   ·rw [if_neg c8] at H
    exact absurd H (by simp)
  ·replace c5 := Bool.eq_false_iff.mpr c5
   subst c5
   have H1 : (some false) = some r := by rw [if_neg (show ¬ (false = true) by decide)] at H; exact H
   clear H
   have H := H1
   clear H1
   obtain rfl := Option.some.inj H
   go_enter Tryd.func15, Tryd.ntmps15
   go_wp2_with (first | ((with_reducible refine gate_callee (f := 25) rfl ?_); refine gl_ (some 7) Tryd.func25 #[.int .i64 (l0.length : Int), .int .i64 1, .int .i64 39] rfl rfl rfl ?_; (with_reducible refine (spec_l1In.calls (l0.length : Int) 1 39 true _ A2.out).mono ?_); rintro e w' ⟨rfl, ⟨nd, rfl⟩⟩; refine ⟨_, rfl, ?_⟩) | ((with_reducible refine gate_callee (f := 26) rfl ?_); refine gl_ (some 11) Tryd.func26 #[.slice A0 l0.length c0] rfl rfl rfl ?_; (with_reducible refine (spec_ruTree.calls k _ _ l0 t154 false _ ?side1 ?side2 A4.out).mono ?_); (case side1 => repeat (first | exact HR0.out | (with_reducible refine Kd.C_alloc ?_ _) | (with_reducible refine Kd.C_drewN ?_ _) | (with_reducible refine Kd.C_drew ?_))); (case side2 => exact HC0.out); rintro e w14 ⟨v156, rfl, ho0, hb⟩; refine ⟨_, rfl, ?_⟩; have HO157 := Aside0.mk (Kd.S_lower ho0 (below_size (hb_ HB))); replace HB := hbs_ HB hb; (try clear hb); (try clear hb2); (try clear hk); (try clear hi); (try clear ho0)))
   go_ret
   exact ⟨by first | rfl | (simp [errW_none, errW_some] <;> rfl) | (simp [*, errW_none, errW_some] <;> rfl), hb_ HB⟩
 ·replace c3 := Bool.eq_false_iff.mpr c3
  subst c3
  have H1 : (some false) = some r := by rw [if_neg (show ¬ (false = true) by decide)] at H; exact H
  clear H
  have H := H1
  clear H1
  obtain rfl := Option.some.inj H
  go_enter Tryd.func15, Tryd.ntmps15
  go_wp2_with (first | ((with_reducible refine gate_callee (f := 25) rfl ?_); refine gl_ (some 7) Tryd.func25 #[.int .i64 (l0.length : Int), .int .i64 1, .int .i64 39] rfl rfl rfl ?_; (with_reducible refine (spec_l1In.calls (l0.length : Int) 1 39 false _ A2.out).mono ?_); rintro e w' ⟨rfl, ⟨nd, rfl⟩⟩; refine ⟨_, rfl, ?_⟩))
  go_ret
  exact ⟨by first | rfl | (simp [errW_none, errW_some] <;> rfl) | (simp [*, errW_none, errW_some] <;> rfl), hb_ HB⟩

/-! ### spec_ParseRule: function 7 -/
def spec_ParseRule.f (k : Nat) (a0 : ByteArray) : Option (List S42 × Bool) :=
 if 600 < a0.size then some ([], false) else (ruRun k a0).bind fun r => if r.2.2 = true then (spec_ruGood.f k r.2.1).bind fun b => if b = true then some (r.2.1, true) else some ([], false) else some ([], false)
set_option maxHeartbeats 8000000 in
set_option maxRecDepth 100000 in
theorem spec_ParseRule.calls (k : Nat) (a0 : ByteArray) (r1 : List S42) (r2 : Bool) (w : World) (h : spec_ParseRule.f k a0 = some (r1, r2)) :
  Calls Tryd.prog 7 #[.string a0] w fun e w' => ∃ v0_ : Value, e = .returned (.tuple #[v0_, .bool r2]) ∧ Kd.R k42 42 w' w.heap.size (fun _ => True) v0_ r1 ∧ Below w.heap.size w w' := by
 unfold spec_ParseRule.f at h
 by_cases hl : 600 < a0.size
 ·rw [if_pos hl] at h
  simp only [Option.some.injEq, Prod.mk.injEq] at h
  obtain ⟨rfl, rfl⟩ := h
  have d1 : decide ((600 : Int) < (a0.size : Int)) = true := decide_eq_true (by omega)
  have d2 : decide (600 < a0.size) = true := decide_eq_true hl
  clear hl
  go_enter Tryd.func7, Tryd.ntmps7
  go_wp2
  go_ret2
  exact ⟨_, rfl, Kd.R_nil _ _ _ _ _, Below.refl _ _⟩
 ·rw [if_neg hl] at h
  have d1 : decide ((600 : Int) < (a0.size : Int)) = false := decide_eq_false (by omega)
  have d2 : decide (600 < a0.size) = false := decide_eq_false hl
  clear hl
  obtain ⟨⟨j, o, ok⟩, e1, h⟩ := Option.bind_eq_some_iff.mp h
  have E1 := Aside0.mk e1
  clear e1
  by_cases hok : ok = true
  ·subst hok
   rw [if_pos rfl] at h
   obtain ⟨b, e2, h⟩ := Option.bind_eq_some_iff.mp h
   have E2 := Aside0.mk e2
   clear e2
   by_cases hb : b = true
   ·subst hb
    rw [if_pos rfl] at h
    simp only [Option.some.injEq, Prod.mk.injEq] at h
    obtain ⟨rfl, rfl⟩ := h
    go_enter Tryd.func7, Tryd.ntmps7
    go_wp2_with (first | ((with_reducible refine gate_callee (f := 12) rfl ?_); refine gl_ (some 11) Tryd.func12 #[.string a0] rfl rfl rfl ?_; (with_reducible refine (ruParse_calls k a0 j o true _ E1.out).mono ?_); rintro e w1 ⟨g, ws, rfl, hr_⟩; refine ⟨_, rfl, ?_⟩; have HI := Aside0.mk hr_; clear hr_; obtain ⟨Ap, cp, hd2, hpl, HC, HO⟩ := HI.out.parts) | ((with_reducible refine gate_callee (f := 15) rfl ?_); (try (refine gate_guard (by rfl) ?_; dsimp only)); refine gl_ (some 21) Tryd.func15 #[.slice Ap o.length cp] rfl rfl rfl ?_; (with_reducible refine (spec_ruGood.calls k Ap cp o true _ ?sa ?sb E2.out).mono ?_); (case sa => exact HC.out); (case sb => exact hpl); rintro e w2 ⟨rfl, hbq_⟩; refine ⟨_, rfl, ?_⟩; have HB := Aside0.mk hbq_; have hd2' := HB.out.cell (p := ⟨g, 2, none⟩) (World.block_lt_of_cell? _ _ hd2); rw [hd2] at hd2'; clear hbq_))
    go_ret2
    exact ⟨_, rfl, Kd.R_below HO.out HB.out, below_step HI.out.2.1 HB.out⟩
   ·replace hb := Bool.eq_false_iff.mpr hb
    subst hb
    rw [if_neg (by simp)] at h
    simp only [Option.some.injEq, Prod.mk.injEq] at h
    obtain ⟨rfl, rfl⟩ := h
    go_enter Tryd.func7, Tryd.ntmps7
    go_wp2_with (first | ((with_reducible refine gate_callee (f := 12) rfl ?_); refine gl_ (some 11) Tryd.func12 #[.string a0] rfl rfl rfl ?_; (with_reducible refine (ruParse_calls k a0 j o true _ E1.out).mono ?_); rintro e w1 ⟨g, ws, rfl, hr_⟩; refine ⟨_, rfl, ?_⟩; have HI := Aside0.mk hr_; clear hr_; obtain ⟨Ap, cp, hd2, hpl, HC, HO⟩ := HI.out.parts) | ((with_reducible refine gate_callee (f := 15) rfl ?_); (try (refine gate_guard (by rfl) ?_; dsimp only)); refine gl_ (some 21) Tryd.func15 #[.slice Ap o.length cp] rfl rfl rfl ?_; (with_reducible refine (spec_ruGood.calls k Ap cp o false _ ?sa ?sb E2.out).mono ?_); (case sa => exact HC.out); (case sb => exact hpl); rintro e w2 ⟨rfl, hbq_⟩; refine ⟨_, rfl, ?_⟩; have HB := Aside0.mk hbq_; have hd2' := HB.out.cell (p := ⟨g, 2, none⟩) (World.block_lt_of_cell? _ _ hd2); rw [hd2] at hd2'; clear hbq_))
    go_ret2
    exact ⟨_, rfl, Kd.R_nil _ _ _ _ _, below_step HI.out.2.1 HB.out⟩
  ·replace hok := Bool.eq_false_iff.mpr hok
   subst hok
   rw [if_neg (by simp)] at h
   simp only [Option.some.injEq, Prod.mk.injEq] at h
   obtain ⟨rfl, rfl⟩ := h
   go_enter Tryd.func7, Tryd.ntmps7
   go_wp2_with (first | ((with_reducible refine gate_callee (f := 12) rfl ?_); refine gl_ (some 11) Tryd.func12 #[.string a0] rfl rfl rfl ?_; (with_reducible refine (ruParse_calls k a0 j o false _ E1.out).mono ?_); rintro e w1 ⟨g, ws, rfl, hr_⟩; refine ⟨_, rfl, ?_⟩; have HI := Aside0.mk hr_; clear hr_))
   go_ret2
   exact ⟨_, rfl, Kd.R_nil _ _ _ _ _, HI.out.2.1⟩

/-! ### strings_Split: function 13 -/
/-- The names of the fields, as the program's own array of them is laid. -/
def fieldNames_ : List ByteArray := [(⟨#[116, 111, 110, 110, 101, 115]⟩ : ByteArray), (⟨#[103, 114, 97, 100, 101]⟩ : ByteArray), (⟨#[114, 111, 99, 107]⟩ : ByteArray), (⟨#[108, 101, 118, 101, 108]⟩ : ByteArray), (⟨#[109, 101, 116, 97, 108]⟩ : ByteArray)]
/-- What the program's array of names holds; and the library's variable MaxLen holds some number. -/
def LaidW (w : World) : Prop := (∃ m, w.cell? ⟨0, 0, none⟩ = some (.int .i64 m)) ∧ w.var? Tryd.prog "loop.example/g00914/impl.fieldNames" = some (fieldNames_.map Value.string).toArray
theorem var_below {n : String} {cs : Array Value} {w W : World} (h : w.var? Tryd.prog n = some cs) (hb : Below w.heap.size w W) : W.var? Tryd.prog n = some cs := by
 unfold World.var? at *
 cases hg : Tryd.prog.globalNamed n with
 | none => rw [hg] at h; cases h
 | some g =>
  rw [hg] at h
  simp only [Option.bind_some] at h ⊢
  have hlt : g < w.heap.size := by
   rcases Nat.lt_or_ge g w.heap.size with h' | h'
   ·exact h'
   ·rw [Array.getElem?_eq_none h'] at h; cases h
  rw [hb.block g hlt]
  exact h
theorem LaidW.below {w W : World} (h : LaidW w) (hb : Below w.heap.size w W) : LaidW W := by
 obtain ⟨⟨m, hm⟩, hn⟩ := h
 have hlt : 0 < w.heap.size := World.block_lt_of_cell? _ _ hm
 refine ⟨⟨m, ?_⟩, var_below hn hb⟩
 rw [← hm]
 unfold World.cell?
 rw [hb.block 0 hlt]
theorem LaidW.step {w W : World} (h : Aside0 (LaidW w)) (hb : Below w.heap.size w W) : LaidW W := h.out.below hb
theorem LaidW.name {w : World} (h : LaidW w) (j : Nat) (hj : j < 5) : w.cell? ⟨1, j, none⟩ = some (.string (fieldNames_.getD j ByteArray.empty)) := by
 have hc := World.var?_cell (g := 1) (by kernel_rfl) h.2 j
 rw [hc]
 have hj : j = 0 ∨ j = 1 ∨ j = 2 ∨ j = 3 ∨ j = 4 := by omega
 rcases hj with rfl | rfl | rfl | rfl | rfl <;> rfl
def strings_Split.f (a0 a1 : ByteArray) : Option (List ByteArray) := if a0.size ≤ 4294967280 then (if 1 ≤ a1.size then some (Lib.splitB a1 0 (Lib.countB a0 a1) a0) else none) else none
theorem strings_Split.calls (a0 a1 : ByteArray) (r : List ByteArray) (w : World) (h : strings_Split.f a0 a1 = some r) (hL : LaidW w) :
  Calls Tryd.prog 13 #[.string a0, .string a1] w fun e w' => ∃ v0_ : Value, e = .returned (v0_) ∧ Kd.R Kd.string 9 w' w.heap.size (fun _ => True) v0_ r ∧ Below w.heap.size w w' := by
 unfold strings_Split.f at h
 by_cases h0 : a0.size ≤ 4294967280
 ·rw [if_pos h0] at h
  by_cases h1 : 1 ≤ a1.size
  ·rw [if_pos h1] at h
   obtain rfl := Option.some.inj h
   obtain ⟨⟨m, hm⟩, _⟩ := hL
   refine (Tryd.strings_Split a0 a1 m w (by omega) hm h1).mono ?_
   rintro e w' ⟨he, hw⟩
   have hlen : (Lib.splitB a1 0 (Lib.countB a0 a1) a0).length = Lib.countB a0 a1 + 1 := Lib.splitB_all a1 h1 0 _ a0 rfl
   have hle := Lib.countB_le a1 h1 a0.size a0 (Nat.le_refl _)
   refine ⟨_, he, ?_, ?_⟩
   ·rw [hw, ← hlen]
    refine Kd.R_of_own ?_ (fun _ _ => trivial)
    have := World.ownsRow_lit (base := w.heap.size) (e := 9) (size := 1) w ((Lib.splitB a1 0 (Lib.countB a0 a1) a0).map Value.string).toArray (Lib.splitB a1 0 (Lib.countB a0 a1) a0).length (Nat.le_refl _) (by rw [hlen]; simp only [maxLen]; omega) (by simp)
    simpa [encs] using this
   ·rw [hw]; exact below_alloc (Below.refl _ _) _
  ·rw [if_neg h1] at h; cases h
 ·rw [if_neg h0] at h; cases h

/-! ### strings_Index: function 23 -/
def strings_Index.f (a0 a1 : ByteArray) : Option Int := if a0.size ≤ 4294967280 then some (Lib.index a0.data.toList a1.data.toList) else none
theorem strings_Index.calls (a0 a1 : ByteArray) (r : Int) (w : World) (h : strings_Index.f a0 a1 = some r) (hL : LaidW w) :
  Calls Tryd.prog 23 #[.string a0, .string a1] w fun e w' => e = .returned (.int .i64 r) ∧ Drawn0 w w' := by
 unfold strings_Index.f at h
 by_cases h0 : a0.size ≤ 4294967280
 ·rw [if_pos h0] at h
  obtain rfl := Option.some.inj h
  obtain ⟨⟨m, hm⟩, _⟩ := hL
  refine (Tryd.strings_Index a0 a1 m w (by omega) hm).mono ?_
  rintro e w' ⟨he, hw⟩
  rw [hw]
  exact ⟨he, Drawn0.refl _⟩
 ·rw [if_neg h0] at h; cases h

end Go.Proofs.YtciapdgpljlciaaDoor.PFnExactParseRule
