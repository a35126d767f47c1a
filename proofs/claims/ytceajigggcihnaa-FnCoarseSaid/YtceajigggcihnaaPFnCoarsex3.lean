-- Laid for this claim by wip/tools/print2.sh, a changed copy of the kit's print (wip/tools/patch_print.py): not by print.sh.
import Derived.Test.YtceajigggcihnaaPFnCoarsex0
import Derived.Test.YtceajigggcihnaaVFnCoarse
namespace Go.Proofs.Ytceajigggcihnaa.PFnCoarse
open Go.RowKit Go.Proofs.YtceajigggcihnaaW.PrintWords Go.Proofs.YtceajigggcihnaaW.PrintLast Go.Proofs.YtceajigggcihnaaW.PrintMore
attribute [local go_sem] max2_int min2_int max_two min_two max_three min_three max_four min_four
set_option linter.unusedVariables false
set_option linter.unusedSimpArgs false

/-! ### spec_l1In: function 70 -/
def spec_l1In.f (a0 : Int) (a1 : Int) (a2 : Int) : Option (Bool) := if a0 ≥ a1 then (some (decide (a0 ≤ a2))) else (some false)
set_option maxHeartbeats 8000000 in
set_option maxRecDepth 100000 in
theorem spec_l1In.calls (a0 : Int) (a1 : Int) (a2 : Int) (r : Bool) (w : World) (h : spec_l1In.f a0 a1 a2 = some r) :
  Calls Try.prog 70 #[.int .i64 a0, .int .i64 a1, .int .i64 a2] w fun e w' => e = .returned (.bool r) ∧ Drawn0 w w' := by
 have H := h
 unfold spec_l1In.f at H
 clear h
 by_cases c4 : a0 ≥ a1
 ·rw [if_pos c4] at H
  have c4b0 : decide (a1 ≤ a0) = true := decide_eq_true c4
  clear c4
  obtain rfl := Option.some.inj H
  go_enter Try.func70, Try.ntmps70
  go_wp2
  go_ret
  exact ⟨by first | rfl | (simp; done) | (simp [*]; done), by repeat (first | exact Drawn0.refl _ | apply Drawn0.step)⟩
 rw [if_neg c4] at H
 have c4b0 : decide (a1 ≤ a0) = false := decide_eq_false c4
 clear c4
 obtain rfl := Option.some.inj H
 go_enter Try.func70, Try.ntmps70
 go_wp2
 go_ret
 exact ⟨by first | rfl | (simp; done) | (simp [*]; done), by repeat (first | exact Drawn0.refl _ | apply Drawn0.step)⟩

/-! ### spec_sbPiece: function 66 -/
def spec_sbPiece.f (a0_0 : Int) (a0_1 : Int) (a0_2 : Int) : Option (Bool) := (spec_l1In.f a0_0 0 10000).bind fun t102 => (if t102 = true then ((spec_l1In.f a0_1 0 (wrap64 (1000 * a0_0))).bind fun t103 => (if t103 = true then ((spec_l1In.f a0_2 0 4).bind fun t104 => (some t104)) else (some false))) else (some false))
set_option maxHeartbeats 8000000 in
set_option maxRecDepth 100000 in
theorem spec_sbPiece.calls (a0_0 : Int) (a0_1 : Int) (a0_2 : Int) (r : Bool) (w : World) (h : spec_sbPiece.f a0_0 a0_1 a0_2 = some r) :
  Calls Try.prog 66 #[.agg #[.int .i64 a0_0, .int .i64 a0_1, .int .i64 a0_2]] w fun e w' => e = .returned (.bool r) ∧ Below w.heap.size w w' := by
 have hu29 := Try.underlying29
 have HB := Aside0.mk (Below.refl w.heap.size w)
 have H := h
 unfold spec_sbPiece.f at H
 clear h
 replace H := Option.bind_eq_some_iff.mp H
 obtain ⟨t102, A20, H⟩ := H
 try dsimp only at H
 have A2 := Aside0.mk A20
 clear A20
 by_cases c3 : t102 = true
 ·subst c3
  rw [if_pos rfl] at H
  replace H := Option.bind_eq_some_iff.mp H
  obtain ⟨t103, A40, H⟩ := H
  try dsimp only at H
  have A4 := Aside0.mk A40
  clear A40
  by_cases c5 : t103 = true
  ·subst c5
   rw [if_pos rfl] at H
   replace H := Option.bind_eq_some_iff.mp H
   obtain ⟨t104, A60, H⟩ := H
   try dsimp only at H
   have A6 := Aside0.mk A60
   clear A60
   obtain rfl := Option.some.inj H
   go_enter Try.func66, Try.ntmps66
   go_wp2_with (first | ((with_reducible refine gate_dst (N := 1) rfl ?_); refine bv_ 1 (cs := #[.int .i64 a0_0, .int .i64 a0_1, .int .i64 a0_2]) (t := 29) ?_; intro gb101 hg w7 hbox hb; have BK101 := Aside0.mk (hbox); have GW101 := gs_ hg HB; have GE101 := gs_ hg HB; replace HB := hbs_ HB hb; clear hb hbox hg; obtain ⟨hcz8_0, hcz8_1, hcz8_2, hfz8_0, hfz8_1, hfz8_2⟩ := bx3 BK101) | ((with_reducible refine gate_callee (f := 70) rfl ?_); refine gl_ (some 5) Try.func70 #[.int .i64 a0_0, .int .i64 0, .int .i64 10000] rfl rfl rfl ?_; (with_reducible refine (spec_l1In.calls a0_0 0 10000 true _ A2.out).mono ?_); rintro e w' ⟨rfl, ⟨nd, rfl⟩⟩; refine ⟨_, rfl, ?_⟩) | (go_at_call 70; (with_reducible refine (spec_l1In.calls a0_1 0 (wrap64 (1000 * a0_0)) true _ A4.out).mono ?_); rintro e w' ⟨rfl, ⟨nd, rfl⟩⟩) | (go_at_call 70; (with_reducible refine (spec_l1In.calls a0_2 0 4 t104 _ A6.out).mono ?_); rintro e w' ⟨rfl, ⟨nd, rfl⟩⟩))
   go_ret
   exact ad_ (hb_ HB)
  replace c5 := Bool.eq_false_iff.mpr c5
  subst c5
  rw [if_neg (show ¬ (false = true) by decide)] at H
  obtain rfl := Option.some.inj H
  go_enter Try.func66, Try.ntmps66
  go_wp2_with (first | ((with_reducible refine gate_dst (N := 1) rfl ?_); refine bv_ 1 (cs := #[.int .i64 a0_0, .int .i64 a0_1, .int .i64 a0_2]) (t := 29) ?_; intro gb101 hg w9 hbox hb; have BK101 := Aside0.mk (hbox); have GW101 := gs_ hg HB; have GE101 := gs_ hg HB; replace HB := hbs_ HB hb; clear hb hbox hg; obtain ⟨hcz10_0, hcz10_1, hcz10_2, hfz10_0, hfz10_1, hfz10_2⟩ := bx3 BK101) | ((with_reducible refine gate_callee (f := 70) rfl ?_); refine gl_ (some 5) Try.func70 #[.int .i64 a0_0, .int .i64 0, .int .i64 10000] rfl rfl rfl ?_; (with_reducible refine (spec_l1In.calls a0_0 0 10000 true _ A2.out).mono ?_); rintro e w' ⟨rfl, ⟨nd, rfl⟩⟩; refine ⟨_, rfl, ?_⟩) | (go_at_call 70; (with_reducible refine (spec_l1In.calls a0_1 0 (wrap64 (1000 * a0_0)) false _ A4.out).mono ?_); rintro e w' ⟨rfl, ⟨nd, rfl⟩⟩))
  go_ret
  exact ad_ (hb_ HB)
 replace c3 := Bool.eq_false_iff.mpr c3
 subst c3
 rw [if_neg (show ¬ (false = true) by decide)] at H
 obtain rfl := Option.some.inj H
 go_enter Try.func66, Try.ntmps66
 go_wp2_with (first | ((with_reducible refine gate_dst (N := 1) rfl ?_); refine bv_ 1 (cs := #[.int .i64 a0_0, .int .i64 a0_1, .int .i64 a0_2]) (t := 29) ?_; intro gb101 hg w11 hbox hb; have BK101 := Aside0.mk (hbox); have GW101 := gs_ hg HB; have GE101 := gs_ hg HB; replace HB := hbs_ HB hb; clear hb hbox hg; obtain ⟨hcz12_0, hcz12_1, hcz12_2, hfz12_0, hfz12_1, hfz12_2⟩ := bx3 BK101) | ((with_reducible refine gate_callee (f := 70) rfl ?_); refine gl_ (some 5) Try.func70 #[.int .i64 a0_0, .int .i64 0, .int .i64 10000] rfl rfl rfl ?_; (with_reducible refine (spec_l1In.calls a0_0 0 10000 false _ A2.out).mono ?_); rintro e w' ⟨rfl, ⟨nd, rfl⟩⟩; refine ⟨_, rfl, ?_⟩))
 go_ret
 exact ad_ (hb_ HB)

/-! ### spec_sbList: function 65 -/
def spec_sbList.l0 : Nat → List (S29) → List (S29) → Int → Int → Option (Bool)
 | 0, _, _, _, _ => none
 | k + 1, x0, x5, x6, x7 => if x7 < x6 then (if 0 ≤ x7 then (if x7 < (x5.length : Int) then ((spec_sbPiece.f ((rd_T29 x5 x7).f0) ((rd_T29 x5 x7).f1) ((rd_T29 x5 x7).f2)).bind fun t107 => (if t107 = true then (spec_sbList.l0 k x0 x5 x6 (wrap64 (x7 + 1))) else (some false))) else (none)) else (none)) else ((spec_l1In.f (x0.length : Int) 1 20).bind fun t108 => (some t108))
def spec_sbList.f (k : Nat) (l0 : List (S29)) : Option (Bool) := spec_sbList.l0 k l0 l0 (l0.length : Int) 0
set_option maxHeartbeats 8000000 in
set_option maxRecDepth 100000 in
theorem spec_sbList.calls (k : Nat) (A0 : Option Addr) (c0 : Nat) (l0 : List (S29)) (r : Bool) (w : World) (hr0 : Kd.C k29 w A0 l0.length l0) (hc0 : l0.length ≤ c0) (h : spec_sbList.f k l0 = some r) :
  Calls Try.prog 65 #[.slice A0 l0.length c0] w fun e w' => e = .returned (.bool r) ∧ Below w.heap.size w w' := by
 have hu29 := Try.underlying29
 have HR0 := Aside0.mk hr0
 have HC0 := Aside0.mk hc0
 clear hr0 hc0
 have HB := Aside0.mk (Below.refl w.heap.size w)
 have H := h
 unfold spec_sbList.f at H
 clear h
 have H' := Aside0.mk H
 clear H
 go_enter Try.func65, Try.ntmps65
 go_wp2
 go_loopg [7] k (fun kq v7 w' => ∃ (x7_1 : Int), v7 = .int .i64 x7_1 ∧ Aside0 (spec_sbList.l0 kq l0 l0 (l0.length : Int) x7_1 = some r) ∧ Aside0 (kq ≤ k) ∧ Aside0 (Below w.heap.size w w'))
 case atStart => exact ⟨(0), (by first | rfl | (simp; done) | (simp [*]; done)), H', ⟨Nat.le_refl _⟩, ⟨hb_ HB⟩⟩
 clear H'
 obtain ⟨x7_1, rfl, HA, HK1, HB⟩ := hrel
 cases gk with
 | zero => exact absurd HA.out (by simp [spec_sbList.l0])
 | succ k1 => ?_
 have H := HA.out
 clear HA
 simp only [spec_sbList.l0] at H
 by_cases c2 : x7_1 < (l0.length : Int)
 ·rw [if_pos c2] at H
  have c2b0 := decide_eq_true c2
  clear c2
  by_cases c3 : 0 ≤ x7_1
  case neg => rw [if_neg c3] at H; exact absurd H (by simp)
  rw [if_pos c3] at H
  have c3b0 := decide_eq_true c3
  clear c3
  by_cases c4 : x7_1 < (l0.length : Int)
  case neg => rw [if_neg c4] at H; exact absurd H (by simp)
  rw [if_pos c4] at H
  have c4b0 := decide_eq_true c4
  clear c4
  replace H := Option.bind_eq_some_iff.mp H
  obtain ⟨t107, A50, H⟩ := H
  try dsimp only at H
  have A5 := Aside0.mk A50
  clear A50
  by_cases c6 : t107 = true
  ·subst c6
   rw [if_pos rfl] at H
   have H' := Aside0.mk H
   clear H
   have p105 : 0 ≤ (x7_1 : Int) := of_decide_eq_true (by first | (with_reducible assumption) | assumption)
   have q105 : x7_1 < (l0.length : Int) := of_decide_eq_true (by first | (with_reducible assumption) | assumption)
   obtain ⟨ad105, e105, hx105_0, hx105_1, hx105_2⟩ := at_T29 HR0.out x7_1 p105 q105
   cases e105
   replace hx105_0 := hc_ HB hx105_0
   replace hx105_1 := hc_ HB hx105_1
   replace hx105_2 := hc_ HB hx105_2
   replace p105 := eq_true p105
   replace q105 := eq_true q105
   go_wp2_with (first | ((with_reducible refine gate_dst (N := 4) rfl ?_); refine bv_ 4 (cs := #[.int .i64 0, .int .i64 0, .int .i64 0]) (t := 29) ?_; intro gb106 hg w7 hbox hb; have BK106 := Aside0.mk (hbox); have GW106 := gs_ hg HB; have GE106 := gs_ hg HB; replace HB := hbs_ HB hb; clear hb hbox hg; obtain ⟨hcz8_0, hcz8_1, hcz8_2, hfz8_0, hfz8_1, hfz8_2⟩ := bx3 BK106) | ((with_reducible refine gate_callee (f := 66) rfl ?_); refine gl_ (some 12) Try.func66 #[.agg #[.int .i64 ((rd_T29 l0 x7_1).f0), .int .i64 ((rd_T29 l0 x7_1).f1), .int .i64 ((rd_T29 l0 x7_1).f2)]] rfl rfl rfl ?_; (with_reducible refine (spec_sbPiece.calls ((rd_T29 l0 x7_1).f0) ((rd_T29 l0 x7_1).f1) ((rd_T29 l0 x7_1).f2) true _ A5.out).mono ?_); rintro e w9 ⟨rfl, hb⟩; refine ⟨_, rfl, ?_⟩; replace BK106 := Aside0.mk (blk_below (g := gb106) (o := .cells #[.int .i64 ((rd_T29 l0 x7_1).f0), .int .i64 ((rd_T29 l0 x7_1).f1), .int .i64 ((rd_T29 l0 x7_1).f2)] 29 (0, 0)) (kpq_ (kputs BK106 [(0, _), (1, _), (2, _)])) hb); replace HB := hbs_ HB hb))
   go_roundg k1
   case measure => have := HK1.out; omega
   case rel => exact ⟨(wrap64 (x7_1 + 1)), (by first | rfl | (simp; done) | (simp [*]; done)), H', ⟨by have := HK1.out; omega⟩, ⟨hb_ HB⟩⟩
  replace c6 := Bool.eq_false_iff.mpr c6
  subst c6
  rw [if_neg (show ¬ (false = true) by decide)] at H
  obtain rfl := Option.some.inj H
  have p105 : 0 ≤ (x7_1 : Int) := of_decide_eq_true (by first | (with_reducible assumption) | assumption)
  have q105 : x7_1 < (l0.length : Int) := of_decide_eq_true (by first | (with_reducible assumption) | assumption)
  obtain ⟨ad105, e105, hx105_0, hx105_1, hx105_2⟩ := at_T29 HR0.out x7_1 p105 q105
  cases e105
  replace hx105_0 := hc_ HB hx105_0
  replace hx105_1 := hc_ HB hx105_1
  replace hx105_2 := hc_ HB hx105_2
  replace p105 := eq_true p105
  replace q105 := eq_true q105
  go_wp2_with (first | ((with_reducible refine gate_dst (N := 4) rfl ?_); refine bv_ 4 (cs := #[.int .i64 0, .int .i64 0, .int .i64 0]) (t := 29) ?_; intro gb106 hg w10 hbox hb; have BK106 := Aside0.mk (hbox); have GW106 := gs_ hg HB; have GE106 := gs_ hg HB; replace HB := hbs_ HB hb; clear hb hbox hg; obtain ⟨hcz11_0, hcz11_1, hcz11_2, hfz11_0, hfz11_1, hfz11_2⟩ := bx3 BK106) | ((with_reducible refine gate_callee (f := 66) rfl ?_); refine gl_ (some 12) Try.func66 #[.agg #[.int .i64 ((rd_T29 l0 x7_1).f0), .int .i64 ((rd_T29 l0 x7_1).f1), .int .i64 ((rd_T29 l0 x7_1).f2)]] rfl rfl rfl ?_; (with_reducible refine (spec_sbPiece.calls ((rd_T29 l0 x7_1).f0) ((rd_T29 l0 x7_1).f1) ((rd_T29 l0 x7_1).f2) false _ A5.out).mono ?_); rintro e w12 ⟨rfl, hb⟩; refine ⟨_, rfl, ?_⟩; replace BK106 := Aside0.mk (blk_below (g := gb106) (o := .cells #[.int .i64 ((rd_T29 l0 x7_1).f0), .int .i64 ((rd_T29 l0 x7_1).f1), .int .i64 ((rd_T29 l0 x7_1).f2)] 29 (0, 0)) (kpq_ (kputs BK106 [(0, _), (1, _), (2, _)])) hb); replace HB := hbs_ HB hb))
  go_ret
  exact ad_ (hb_ HB)
 rw [if_neg c2] at H
 have c2b0 := decide_eq_false c2
 clear c2
 replace H := Option.bind_eq_some_iff.mp H
 obtain ⟨t108, A130, H⟩ := H
 try dsimp only at H
 have A13 := Aside0.mk A130
 clear A130
 obtain rfl := Option.some.inj H
 go_wp2_with (first | ((with_reducible refine gate_callee (f := 70) rfl ?_); refine gl_ (some 17) Try.func70 #[.int .i64 (l0.length : Int), .int .i64 1, .int .i64 20] rfl rfl rfl ?_; (with_reducible refine (spec_l1In.calls (l0.length : Int) 1 20 t108 _ A13.out).mono ?_); rintro e w' ⟨rfl, ⟨nd, rfl⟩⟩; refine ⟨_, rfl, ?_⟩))
 go_ret
 exact ad_ (hb_ HB)

/-! ### spec_sbJoin: function 67 -/
mutual
def spec_sbJoin.l0 : Nat → List Int → List (S29) → Int → Int → Int → Int → Int → Option (Int × Int × Int)
 | 0, _, _, _, _, _, _, _ => none
 | k + 1, x4, x11, x12, x13, x111000, x111001, x111002 => if x13 < x12 then (if 0 ≤ x13 then (if x13 < (x11.length : Int) then (if 0 ≤ ((rd_T29 x11 x13).f2) then (if ((rd_T29 x11 x13).f2) < (x4.length : Int) then (spec_sbJoin.l0 k (x4.set (((rd_T29 x11 x13).f2) : Int).toNat (wrap64 ((rd x4 ((rd_T29 x11 x13).f2)) + ((rd_T29 x11 x13).f0)))) x11 x12 (wrap64 (x13 + 1)) (wrap64 (x111000 + ((rd_T29 x11 x13).f0))) (wrap64 (x111001 + ((rd_T29 x11 x13).f1))) x111002) else (none)) else (none)) else (none)) else (none)) else (spec_sbJoin.l1 k x4 x4 (x4.length : Int) 0 x111000 x111001 x111002)
def spec_sbJoin.l1 : Nat → List Int → List Int → Int → Int → Int → Int → Int → Option (Int × Int × Int)
 | 0, _, _, _, _, _, _, _ => none
 | k + 1, x4, x39, x40, x41, x111000, x111001, x111002 => if x41 < x40 then (if 0 ≤ x41 then (if x41 < (x39.length : Int) then (if 0 ≤ x111002 then (if x111002 < (x4.length : Int) then (if (rd x39 x41) > (rd x4 x111002) then (spec_sbJoin.l1 k x4 x39 x40 (wrap64 (x41 + 1)) x111000 x111001 x41) else (spec_sbJoin.l1 k x4 x39 x40 (wrap64 (x41 + 1)) x111000 x111001 x111002)) else (none)) else (none)) else (none)) else (none)) else (some (x111000, x111001, x111002))
end
def spec_sbJoin.f (k : Nat) (l0 : List (S29)) : Option (Int × Int × Int) := if 5 ≤ 35184372088832 then (spec_sbJoin.l0 k (List.replicate 5 0) l0 (l0.length : Int) 0 0 0 0) else (none)
def spec_sbJoin.T8 : Bool × List (List Nat × List Nat) := (true, [([], []), ([], []), ([1], [1]), ([0, 2], [0, 2]), ([3], [3]), ([], []), ([5], [5]), ([4, 6], [4, 6]), ([0, 2, 0, 1, 2, 3, 4, 5, 6, 7], [0, 2]), ([8, 7, 0, 1, 2, 3, 4, 5, 6, 7], [7, 8])])
def spec_sbJoin.B8 : List Nat := [0, 0, 2, 7, 15, 0, 32, 127, 255, 511]
theorem spec_sbJoin.tab8 : rtab .any (opsOf Try.f67 8) = spec_sbJoin.T8 := by kernel_rfl
theorem spec_sbJoin.bits8 : waitsOk spec_sbJoin.T8.2 spec_sbJoin.B8 = true := by kernel_rfl
set_option maxHeartbeats 8000000 in
set_option maxRecDepth 100000 in
theorem spec_sbJoin.calls (k : Nat) (A0 : Option Addr) (c0 : Nat) (l0 : List (S29)) (r1 : Int) (r2 : Int) (r3 : Int) (w : World) (hr0 : Kd.C k29 w A0 l0.length l0) (hc0 : l0.length ≤ c0) (h : spec_sbJoin.f k l0 = some (r1, r2, r3)) :
  Calls Try.prog 67 #[.slice A0 l0.length c0] w fun e w' => e = .returned (.agg #[.int .i64 r1, .int .i64 r2, .int .i64 r3]) ∧ Below w.heap.size w w' := by
 have hu29 := Try.underlying29
 have HR0 := Aside0.mk hr0
 have HC0 := Aside0.mk hc0
 clear hr0 hc0
 have HB := Aside0.mk (Below.refl w.heap.size w)
 have H := h
 unfold spec_sbJoin.f at H
 clear h
 by_cases c2 : 5 ≤ 35184372088832
 case neg => rw [if_neg c2] at H; exact absurd H (by simp)
 rw [if_pos c2] at H
 have c2b0 := eq_true c2
 have c2b1 := decide_eq_true c2
 clear c2
 obtain ⟨y111, hy111⟩ : ∃ y_ : List Int, y_ = (List.replicate 5 0) := ⟨_, rfl⟩
 (try with_reducible replace H := (Option.bind_some _ _).symm.trans H); (try dsimp only at H); (try rw [← hy111] at H)
 have Ny111 := Aside0.mk hy111
 clear hy111
 have H' := Aside0.mk H
 clear H
 go_enter Try.func67, Try.ntmps67
 go_wp2_with (first | ((with_reducible refine gate_dst (N := 2) rfl ?_); refine bv_ 2 (cs := #[.int .i64 0, .int .i64 0, .int .i64 0]) (t := 29) ?_; intro gb109 hg w3 hbox hb; have BK109 := Aside0.mk (hbox); have GW109 := gs_ hg HB; have GE109 := gs_ hg HB; replace HB := hbs_ HB hb; clear hb hbox hg) | ((with_reducible refine gate_dst (N := 3) rfl ?_); refine bv_ 3 (cs := #[.int .i64 0, .int .i64 0, .int .i64 0]) (t := 29) ?_; intro gb110 hg w4 hbox hb; have BK110 := Aside0.mk (hbox); have GW110 := gs_ hg HB; have GE110 := gs_ hg HB; have NB109_110 := nl_ hg BK109; have NB110_109 := ng_ hg BK109; replace BK109 := kb_ BK109 hb; replace HB := hbs_ HB hb; clear hb hbox hg; have := NB110_109.out; have := NB109_110.out; obtain ⟨hcz6_0, hcz6_1, hcz6_2, hfz6_0, hfz6_1, hfz6_2⟩ := bx3 BK110) | ((with_reducible refine gate_dst (N := 10) rfl ?_); refine Kd.R_make (Kd.int .i64) _ 3 rfl (N := 10) rfl 24 _ _ rfl 5 rfl rfl Try.underlying24 (.int .i64 0) 8 info3 rfl (by decide) (by omega) 0 (ok := fun _ => True) (okp := fun _ => True) rfl (fun _ hk => hk) trivial (by omega) (by omega) (Below.refl _ _) (Nat.le_refl _) ?_; intro v112 w7 ho8 hb hg_ hnew_; clear hg_ hnew_; (first | rw [← Ny111.out] at ho8 | (simp only [Int.reduceToNat] at ho8; rw [← Ny111.out] at ho8)); have HO113 := Kd.R_lo ho8 HB; replace BK109 := kfb_ BK109 NB109_110 hb; replace BK110 := Aside0.mk (blk_below (g := gb110) (o := .cells #[.int .i64 0, .int .i64 0, .int .i64 0] 29 (0, 0)) (kpq_ (kputs BK110 [(0, _), (1, _), (2, _)])) hb); replace HB := hbs_ HB hb; clear hb ho8))
 go_loopg [13] k (fun kq v13 w' => ∃ (x4_1 : List Int) (x13_1 : Int) (x111000_1 : Int) (x111001_1 : Int), v13 = .int .i64 x13_1 ∧ Aside0 (spec_sbJoin.l0 kq x4_1 l0 (l0.length : Int) x13_1 x111000_1 x111001_1 0 = some (r1, r2, r3)) ∧ Aside0 (kq ≤ k) ∧ Aside0 (Kd.R (Kd.int .i64) 3 w' w.heap.size (fun _ => True) v112 x4_1) ∧ Aside0 (w'.heap[gb109]? = some (.cells #[.int .i64 0, .int .i64 0, .int .i64 0] 29 (0, 0))) ∧ Aside0 (w'.heap[gb110]? = some (.cells #[.int .i64 x111000_1, .int .i64 x111001_1, .int .i64 0] 29 (0, 0))) ∧ Aside0 (Below w.heap.size w w'))
 case atStart => exact ⟨(y111), (0), (0), (0), (by first | rfl | (simp; done) | (simp [*]; done)), H', ⟨Nat.le_refl _⟩, ⟨Kd.R_p HO113⟩, ⟨kp_ BK109⟩, ⟨kp_ BK110⟩, ⟨hb_ HB⟩⟩
 clear H'
 obtain ⟨x4_1, x13_1, x111000_1, x111001_1, rfl, HA, HK1, HO_4, BK109, BK110, HB⟩ := hrel
 cases gk with
 | zero => exact absurd HA.out (by simp [spec_sbJoin.l0])
 | succ k1 => ?_
 have H := HA.out
 clear HA
 simp only [spec_sbJoin.l0] at H
 by_cases c9 : x13_1 < (l0.length : Int)
 ·rw [if_pos c9] at H
  have c9b0 := decide_eq_true c9
  clear c9
  by_cases c10 : 0 ≤ x13_1
  case neg => rw [if_neg c10] at H; exact absurd H (by simp)
  rw [if_pos c10] at H
  have c10b0 := decide_eq_true c10
  clear c10
  by_cases c11 : x13_1 < (l0.length : Int)
  case neg => rw [if_neg c11] at H; exact absurd H (by simp)
  rw [if_pos c11] at H
  have c11b0 := decide_eq_true c11
  clear c11
  by_cases c12 : 0 ≤ ((rd_T29 l0 x13_1).f2)
  case neg => rw [if_neg c12] at H; exact absurd H (by simp)
  rw [if_pos c12] at H
  have c12b0 := decide_eq_true c12
  clear c12
  by_cases c13 : ((rd_T29 l0 x13_1).f2) < (x4_1.length : Int)
  case neg => rw [if_neg c13] at H; exact absurd H (by simp)
  rw [if_pos c13] at H
  have c13b0 := decide_eq_true c13
  clear c13
  obtain ⟨y117, hy117⟩ : ∃ y_ : List Int, y_ = (x4_1.set (((rd_T29 l0 x13_1).f2) : Int).toNat (wrap64 ((rd x4_1 ((rd_T29 l0 x13_1).f2)) + ((rd_T29 l0 x13_1).f0)))) := ⟨_, rfl⟩
  (try with_reducible replace H := (Option.bind_some _ _).symm.trans H); (try dsimp only at H); (try rw [← hy117] at H)
  have Ny117 := Aside0.mk hy117
  clear hy117
  have H' := Aside0.mk H
  clear H
  have p114 : 0 ≤ (x13_1 : Int) := of_decide_eq_true (by first | (with_reducible assumption) | assumption)
  have q114 : x13_1 < (l0.length : Int) := of_decide_eq_true (by first | (with_reducible assumption) | assumption)
  obtain ⟨ad114, e114, hx114_0, hx114_1, hx114_2⟩ := at_T29 HR0.out x13_1 p114 q114
  cases e114
  replace hx114_0 := hc_ HB hx114_0
  replace hx114_1 := hc_ HB hx114_1
  replace hx114_2 := hc_ HB hx114_2
  replace p114 := eq_true p114
  replace q114 := eq_true q114
  try go_wp2_with (first | ((with_reducible refine gate_dst (N := 6) rfl ?_); refine bv_ 6 (cs := #[.int .i64 0, .int .i64 0, .int .i64 0]) (t := 29) ?_; intro gb115 hg w15 hbox hb; have BK115 := Aside0.mk (hbox); have GW115 := gs_ hg HB; have GE115 := gs_ hg HB; have NB109_115 := nl_ hg BK109; have NB115_109 := ng_ hg BK109; have NB110_115 := nl_ hg BK110; have NB115_110 := ng_ hg BK110; replace HO_4 := Kd.R_b HO_4 hb; replace BK109 := kb_ BK109 hb; replace BK110 := kb_ BK110 hb; replace HB := hbs_ HB hb; clear hb hbox hg; have := NB115_109.out; have := NB109_115.out; have := NB115_110.out; have := NB110_115.out; obtain ⟨hcz18_0, hcz18_1, hcz18_2, hfz18_0, hfz18_1, hfz18_2⟩ := bx3 BK115; have := NB110_109.out; have := NB109_110.out; obtain ⟨hcz20_0, hcz20_1, hcz20_2, hfz20_0, hfz20_1, hfz20_2⟩ := bx3 BK110))
  have n0_ : Aside0 (Kd.R (Kd.int .i64) 3 (((((w15.setCell ⟨gb115, 0, none⟩ (.int .i64 ((rd_T29 l0 x13_1).f0))).setCell ⟨gb115, 1, none⟩ (.int .i64 ((rd_T29 l0 x13_1).f1))).setCell ⟨gb115, 2, none⟩ (.int .i64 ((rd_T29 l0 x13_1).f2))).setCell ⟨gb110, 0, none⟩ (.int .i64 (wrap64 (x111000_1 + ((rd_T29 l0 x13_1).f0))))).setCell ⟨gb110, 1, none⟩ (.int .i64 (wrap64 (x111001_1 + ((rd_T29 l0 x13_1).f1))))) w.heap.size (fun _ => True) v112 x4_1) := ⟨rm_ (h := rf_ (rf_ (rf_ (rf_ (rf_ (rt_ (rt_ HO_4.out BK115) BK110))))))⟩
  have n1_ : Aside0 ((((((w15.setCell ⟨gb115, 0, none⟩ (.int .i64 ((rd_T29 l0 x13_1).f0))).setCell ⟨gb115, 1, none⟩ (.int .i64 ((rd_T29 l0 x13_1).f1))).setCell ⟨gb115, 2, none⟩ (.int .i64 ((rd_T29 l0 x13_1).f2))).setCell ⟨gb110, 0, none⟩ (.int .i64 (wrap64 (x111000_1 + ((rd_T29 l0 x13_1).f0))))).setCell ⟨gb110, 1, none⟩ (.int .i64 (wrap64 (x111001_1 + ((rd_T29 l0 x13_1).f1))))).heap[gb109]? = some (.cells #[.int .i64 0, .int .i64 0, .int .i64 0] 29 (0, 0))) := ⟨kq_ (h := bf_ (hn := NB109_110) (h := bf_ (hn := NB109_110) (h := bf_ (hn := NB109_115) (h := bf_ (hn := NB109_115) (h := bf_ (hn := NB109_115) (h := BK109.out))))))⟩
  have n2_ : Aside0 ((((((w15.setCell ⟨gb115, 0, none⟩ (.int .i64 ((rd_T29 l0 x13_1).f0))).setCell ⟨gb115, 1, none⟩ (.int .i64 ((rd_T29 l0 x13_1).f1))).setCell ⟨gb115, 2, none⟩ (.int .i64 ((rd_T29 l0 x13_1).f2))).setCell ⟨gb110, 0, none⟩ (.int .i64 (wrap64 (x111000_1 + ((rd_T29 l0 x13_1).f0))))).setCell ⟨gb110, 1, none⟩ (.int .i64 (wrap64 (x111001_1 + ((rd_T29 l0 x13_1).f1))))).heap[gb110]? = some (.cells #[.int .i64 (wrap64 (x111000_1 + ((rd_T29 l0 x13_1).f0))), .int .i64 (wrap64 (x111001_1 + ((rd_T29 l0 x13_1).f1))), .int .i64 0] 29 (0, 0))) := ⟨kq_ (h := bp_ (h := bp_ (h := bf_ (hn := NB110_115) (h := bf_ (hn := NB110_115) (h := bf_ (hn := NB110_115) (h := BK110.out))))))⟩
  have n3_ : Aside0 ((((((w15.setCell ⟨gb115, 0, none⟩ (.int .i64 ((rd_T29 l0 x13_1).f0))).setCell ⟨gb115, 1, none⟩ (.int .i64 ((rd_T29 l0 x13_1).f1))).setCell ⟨gb115, 2, none⟩ (.int .i64 ((rd_T29 l0 x13_1).f2))).setCell ⟨gb110, 0, none⟩ (.int .i64 (wrap64 (x111000_1 + ((rd_T29 l0 x13_1).f0))))).setCell ⟨gb110, 1, none⟩ (.int .i64 (wrap64 (x111001_1 + ((rd_T29 l0 x13_1).f1))))).heap[gb115]? = some (.cells #[.int .i64 ((rd_T29 l0 x13_1).f0), .int .i64 ((rd_T29 l0 x13_1).f1), .int .i64 ((rd_T29 l0 x13_1).f2)] 29 (0, 0))) := ⟨kq_ (h := bf_ (hn := NB115_110) (h := bf_ (hn := NB115_110) (h := bp_ (h := bp_ (h := bp_ (h := BK115.out))))))⟩
  have n4_ : Aside0 (Below w.heap.size w (((((w15.setCell ⟨gb115, 0, none⟩ (.int .i64 ((rd_T29 l0 x13_1).f0))).setCell ⟨gb115, 1, none⟩ (.int .i64 ((rd_T29 l0 x13_1).f1))).setCell ⟨gb115, 2, none⟩ (.int .i64 ((rd_T29 l0 x13_1).f2))).setCell ⟨gb110, 0, none⟩ (.int .i64 (wrap64 (x111000_1 + ((rd_T29 l0 x13_1).f0))))).setCell ⟨gb110, 1, none⟩ (.int .i64 (wrap64 (x111001_1 + ((rd_T29 l0 x13_1).f1)))))) := ⟨hb_ HB⟩
  generalize (((((w15.setCell ⟨gb115, 0, none⟩ (.int .i64 ((rd_T29 l0 x13_1).f0))).setCell ⟨gb115, 1, none⟩ (.int .i64 ((rd_T29 l0 x13_1).f1))).setCell ⟨gb115, 2, none⟩ (.int .i64 ((rd_T29 l0 x13_1).f2))).setCell ⟨gb110, 0, none⟩ (.int .i64 (wrap64 (x111000_1 + ((rd_T29 l0 x13_1).f0))))).setCell ⟨gb110, 1, none⟩ (.int .i64 (wrap64 (x111001_1 + ((rd_T29 l0 x13_1).f1))))) = w21 at n0_ n1_ n2_ n3_ n4_ ⊢
  have HO_4 := n0_
  have BK109 := n1_
  have BK110 := n2_
  have BK115 := n3_
  have HB := n4_
  clear n0_ n1_ n2_ n3_ n4_
  replace HO_4 := Aside0.mk (Kd.R_drew HO_4.out)
  replace BK109 := Aside0.mk (blk_drew BK109.out)
  replace BK110 := Aside0.mk (blk_drew BK110.out)
  replace BK115 := Aside0.mk (blk_drew BK115.out)
  replace HB := Aside0.mk (below_drew1 HB.out)
  obtain ⟨Ao23, co23, eo23⟩ := Kd.R_slice HO_4.out
  (first | subst eo23 | (injection eo23 with f1_ f2_ f3_; have f4_ := f1_.symm; have f5_ := f3_.symm; clear f1_ f2_ f3_; subst f4_; subst f5_))
  obtain ⟨ad116, e116, hx116_0, p116, q116⟩ := ai_ (Kd.R_reads' HO_4.out).2.2 ((rd_T29 l0 x13_1).f2)
  cases e116
  have p14 : 0 ≤ (((rd_T29 l0 x13_1).f2) : Int) := of_decide_eq_true (by first | (with_reducible assumption) | assumption)
  have q14 : (((rd_T29 l0 x13_1).f2) : Int) < ((x4_1.length : Int) : Int) := of_decide_eq_true (by first | (with_reducible assumption) | assumption)
  obtain ⟨go14, co14, eo14, gb14, gl14, cl14, HG14⟩ := Kd.R_form HO_4.out (by omega)
  (first | cases eo14 | (injection eo14 with ea_ en_ ec_; (first | subst ea_ | (injection ea_ with ea_; subst ea_)); subst ec_; clear en_))
  have GB14 := Aside0.mk gb14
  have GG14 := Aside0.mk HG14
  clear gb14 gl14 HG14
  (first | simp only [add_plain] at hx116_0 | skip)
  obtain ⟨hx14_0, hf14_0⟩ := Kd.R_celln 0 HO_4.out (((rd_T29 l0 x13_1).f2) : Int) p14 q14
  replace p14 := eq_true p14
  replace q14 := eq_true q14
  have HP24 := Kd.R_putn HO_4.out (((rd_T29 l0 x13_1).f2) : Int) (wrap64 ((rd x4_1 ((rd_T29 l0 x13_1).f2)) + ((rd_T29 l0 x13_1).f0)))
  rw [← Ny117.out] at HP24
  have HQ24 := Aside0.mk HP24
  clear HP24
  refine start_ (n := 10) (S := fun w' => w'.cell? ⟨gb115, 0, none⟩ = some (.int .i64 ((rd_T29 l0 x13_1).f0)) ∧ w'.cell? ⟨gb115, 1, none⟩ = some (.int .i64 ((rd_T29 l0 x13_1).f1)) ∧ w'.cell? ⟨gb115, 2, none⟩ = some (.int .i64 ((rd_T29 l0 x13_1).f2)) ∧ w'.cell? ⟨go14, (((rd_T29 l0 x13_1).f2)).toNat, none⟩ = some (.int .i64 (rd x4_1 ((rd_T29 l0 x13_1).f2)))) (ds := [9]) (bb 10 0) (by kernel_rfl) rfl rfl ⟨(blk_cell BK115.out 0).trans rfl, (blk_cell BK115.out 1).trans rfl, (blk_cell BK115.out 2).trans rfl, hx116_0⟩ (fun hHeld => ?_); refine with_tabW spec_sbJoin.tab8 spec_sbJoin.bits8 (fun HT_ HW_ => ?_)
  generalize w21.drew = w22 at HO_4 BK109 BK110 BK115 HB GG14 HQ24 hf14_0 hx116_0 hx14_0 hHeld ⊢
  refine pl_ HT_ 0 (some 29) (bb 10 1) (h := ?_)
  refine pl_ HT_ 1 (some 30) (bb 10 3) (h := ?_)
  refine pl_ HT_ 5 (some 34) (bb 10 35) (h := ?_)
  refine tk_ HT_ HW_ hHeld 2 (some 31) (bb 10 39) (h := ?_)
  refine pl_ HT_ 3 (some 32) (bb 10 47) (h := ?_)
  refine tk_ HT_ HW_ hHeld 4 (some 33) (bb 10 63) (h := ?_)
  refine tk_ HT_ HW_ hHeld 6 (some 35) (bb 10 127) (h := ?_)
  refine pl_ HT_ 7 (some 36) (bb 10 255) (h := ?_)
  refine pl_ HT_ 8 (some 37) (bb 10 511) (h := ?_)
  refine last_ (i := 9) (N := none) (bb 10 1023) rfl rfl (one_of HT_.out (by kernel_rfl)) (by decide) (fun K hK => ?_)
  refine skip_ (w1 := ?_) (by rfl) rfl ?_ ?_
  rotate_left
  ·go_simp
   rfl
  refine hK.out _ _ ?_
  clear hK K
  refine done_ (done_of HT_.out (by kernel_rfl)) ?_
  try go_wp2
  go_roundg k1
  case measure => have := HK1.out; omega
  case rel => exact ⟨(y117), (wrap64 (x13_1 + 1)), (wrap64 (x111000_1 + ((rd_T29 l0 x13_1).f0))), (wrap64 (x111001_1 + ((rd_T29 l0 x13_1).f1))), (by first | rfl | (simp; done) | (simp [*]; done)), H', ⟨by have := HK1.out; omega⟩, ⟨Kd.R_p HQ24⟩, ⟨by (with_reducible repeat (first | refine blk_drewN ?_ _ | refine blk_drew ?_ | refine blk_alloc ?_ _)); refine blk_far ?_ (by have h_ := Kd.R_ne HO_4.out BK109.out (by decide); intro e_; exact h_ (by rw [e_]; rfl)) _; (with_reducible repeat (first | refine blk_drewN ?_ _ | refine blk_drew ?_ | refine blk_alloc ?_ _)); exact BK109.out⟩, ⟨by (with_reducible repeat (first | refine blk_drewN ?_ _ | refine blk_drew ?_ | refine blk_alloc ?_ _)); refine blk_far ?_ (by have h_ := Kd.R_ne HO_4.out BK110.out (by decide); intro e_; exact h_ (by rw [e_]; rfl)) _; (with_reducible repeat (first | refine blk_drewN ?_ _ | refine blk_drew ?_ | refine blk_alloc ?_ _)); exact BK110.out⟩, ⟨by repeat (first | (with_reducible first | exact HB.out | apply below_alloc | apply pw_below_drewN | apply below_drew1 | refine below_set ?_ GB14.out | refine below_set ?_ GE109.out | refine below_set ?_ GE110.out | refine below_set ?_ GE115.out) | exact HB.out)⟩⟩
 rw [if_neg c9] at H
 have c9b0 := decide_eq_false c9
 clear c9
 have H' := Aside0.mk H
 clear H
 obtain ⟨Ao25, co25, eo25⟩ := Kd.R_slice HO_4.out
 subst eo25
 go_wp2
 go_loopg [41] k1 (fun kq v41 w' => ∃ (x41_2 : Int) (x111002_2 : Int), v41 = .int .i64 x41_2 ∧ Aside0 (spec_sbJoin.l1 kq x4_1 x4_1 (x4_1.length : Int) x41_2 x111000_1 x111001_1 x111002_2 = some (r1, r2, r3)) ∧ Aside0 (kq ≤ k1) ∧ Aside0 (Kd.R (Kd.int .i64) 3 w' w.heap.size (fun _ => True) (.slice Ao25 x4_1.length co25) x4_1) ∧ Aside0 (Kd.R (Kd.int .i64) 3 w' w.heap.size (fun _ => True) (.slice Ao25 x4_1.length co25) x4_1) ∧ Aside0 (w'.heap[gb109]? = some (.cells #[.int .i64 0, .int .i64 0, .int .i64 0] 29 (0, 0))) ∧ Aside0 (w'.heap[gb110]? = some (.cells #[.int .i64 x111000_1, .int .i64 x111001_1, .int .i64 x111002_2] 29 (0, 0))) ∧ Aside0 (Below w.heap.size w w'))
 case atStart => exact ⟨(0), (0), (by first | rfl | (simp; done) | (simp [*]; done)), H', ⟨Nat.le_refl _⟩, ⟨Kd.R_p HO_4⟩, ⟨Kd.R_p HO_4⟩, ⟨kp_ BK109⟩, ⟨kp_ BK110⟩, ⟨hb_ HB⟩⟩
 clear H'
 obtain ⟨x41_2, x111002_2, rfl, HA, HK2, HO_4, HO_39, BK109, BK110, HB⟩ := hrel
 cases gk with
 | zero => exact absurd HA.out (by simp [spec_sbJoin.l1])
 | succ k2 => ?_
 have H := HA.out
 clear HA
 simp only [spec_sbJoin.l1] at H
 by_cases c26 : x41_2 < (x4_1.length : Int)
 ·rw [if_pos c26] at H
  have c26b0 := decide_eq_true c26
  clear c26
  by_cases c27 : 0 ≤ x41_2
  case neg => rw [if_neg c27] at H; exact absurd H (by simp)
  rw [if_pos c27] at H
  have c27b0 := decide_eq_true c27
  clear c27
  by_cases c28 : x41_2 < (x4_1.length : Int)
  case neg => rw [if_neg c28] at H; exact absurd H (by simp)
  rw [if_pos c28] at H
  have c28b0 := decide_eq_true c28
  clear c28
  by_cases c29 : 0 ≤ x111002_2
  case neg => rw [if_neg c29] at H; exact absurd H (by simp)
  rw [if_pos c29] at H
  have c29b0 := decide_eq_true c29
  clear c29
  by_cases c30 : x111002_2 < (x4_1.length : Int)
  case neg => rw [if_neg c30] at H; exact absurd H (by simp)
  rw [if_pos c30] at H
  have c30b0 := decide_eq_true c30
  clear c30
  by_cases c31 : (rd x4_1 x41_2) > (rd x4_1 x111002_2)
  ·rw [if_pos c31] at H
   have c31b0 : decide ((rd x4_1 x111002_2) < (rd x4_1 x41_2)) = true := decide_eq_true c31
   clear c31
   have H' := Aside0.mk H
   clear H
   obtain ⟨ad118, e118, hx118_0, p118, q118⟩ := ai_ (Kd.R_reads' HO_39.out).2.2 x41_2
   cases e118
   have := NB110_109.out
   have := NB109_110.out
   obtain ⟨hcz33_0, hcz33_1, hcz33_2, hfz33_0, hfz33_1, hfz33_2⟩ := bx3 BK110
   obtain ⟨ad119, e119, hx119_0, p119, q119⟩ := ai_ (Kd.R_reads' HO_4.out).2.2 x111002_2
   obtain rfl : ad118 = ad119 := (by injection e119)
   go_wp2
   go_roundg k2
   case measure => have := HK1.out; have := HK2.out; omega
   case rel => exact ⟨(wrap64 (x41_2 + 1)), (x41_2), (by first | rfl | (simp; done) | (simp [*]; done)), H', ⟨by have := HK1.out; have := HK2.out; omega⟩, ⟨Kd.R_mono (Kd.R_s HO_4 BK110) (fun _ hk => trivial)⟩, ⟨Kd.R_mono (Kd.R_s HO_39 BK110) (fun _ hk => trivial)⟩, ⟨kf_ BK109 NB109_110⟩, ⟨kpq_ (kputs BK110 [(2, _)])⟩, ⟨hb_ HB⟩⟩
  rw [if_neg c31] at H
  have c31b0 : decide ((rd x4_1 x111002_2) < (rd x4_1 x41_2)) = false := decide_eq_false c31
  clear c31
  have H' := Aside0.mk H
  clear H
  obtain ⟨ad118, e118, hx118_0, p118, q118⟩ := ai_ (Kd.R_reads' HO_39.out).2.2 x41_2
  cases e118
  have := NB110_109.out
  have := NB109_110.out
  obtain ⟨hcz35_0, hcz35_1, hcz35_2, hfz35_0, hfz35_1, hfz35_2⟩ := bx3 BK110
  obtain ⟨ad119, e119, hx119_0, p119, q119⟩ := ai_ (Kd.R_reads' HO_4.out).2.2 x111002_2
  obtain rfl : ad118 = ad119 := (by injection e119)
  go_wp2
  go_roundg k2
  case measure => have := HK1.out; have := HK2.out; omega
  case rel => exact ⟨(wrap64 (x41_2 + 1)), (x111002_2), (by first | rfl | (simp; done) | (simp [*]; done)), H', ⟨by have := HK1.out; have := HK2.out; omega⟩, ⟨Kd.R_p HO_4⟩, ⟨Kd.R_p HO_39⟩, ⟨kp_ BK109⟩, ⟨kp_ BK110⟩, ⟨hb_ HB⟩⟩
 rw [if_neg c26] at H
 have c26b0 := decide_eq_false c26
 clear c26
 simp only [Option.some.injEq, Prod.mk.injEq] at H
 obtain ⟨rfl, rfl, rfl⟩ := H
 have := NB110_109.out
 have := NB109_110.out
 obtain ⟨hcz37_0, hcz37_1, hcz37_2, hfz37_0, hfz37_1, hfz37_2⟩ := bx3 BK110
 obtain ⟨hcz38_0, hcz38_1, hcz38_2, hfz38_0, hfz38_1, hfz38_2⟩ := bx3 BK109
 go_wp2
 refine bodyPost_ret (results_cell_row rfl _ _ gb109 29 #[.int .i64 x111000_1, .int .i64 x111001_1, .int .i64 x111002_2] (0, 0) _ rfl (kpq_ (kputs BK109 [(0, _), (1, _), (2, _)])) Try.underlying29 rfl (by kernel_rfl)) rfl ?_
 exact ad_ (hb_ HB)

/-! ### spec_JoinPieces: function 18 -/
def spec_JoinPieces.f (k : Nat) (l0 : List (S29)) : Option (Int × Int × Int × Bool) := (spec_sbList.f k l0).bind fun t121 => (if t121 = true then ((spec_sbJoin.f k l0).bind fun bt122 => ((spec_sbPiece.f bt122.1 bt122.2.1 bt122.2.2).bind fun t125 => (if t125 = true then ((spec_sbJoin.f k l0).bind fun bt126 => (some (bt126.1, bt126.2.1, bt126.2.2, true))) else (some (0, 0, 0, false))))) else (some (0, 0, 0, false)))
set_option maxHeartbeats 8000000 in
set_option maxRecDepth 100000 in
theorem spec_JoinPieces.calls (k : Nat) (A0 : Option Addr) (c0 : Nat) (l0 : List (S29)) (r1 : Int) (r2 : Int) (r3 : Int) (r4 : Bool) (w : World) (hr0 : Kd.C k29 w A0 l0.length l0) (hc0 : l0.length ≤ c0) (h : spec_JoinPieces.f k l0 = some (r1, r2, r3, r4)) :
  Calls Try.prog 18 #[.slice A0 l0.length c0] w fun e w' => e = .returned (.tuple #[.agg #[.int .i64 r1, .int .i64 r2, .int .i64 r3], .bool r4]) ∧ Below w.heap.size w w' := by
 have hu29 := Try.underlying29
 have HR0 := Aside0.mk hr0
 have HC0 := Aside0.mk hc0
 clear hr0 hc0
 have HB := Aside0.mk (Below.refl w.heap.size w)
 have H := h
 unfold spec_JoinPieces.f at H
 clear h
 replace H := Option.bind_eq_some_iff.mp H
 obtain ⟨t121, A20, H⟩ := H
 try dsimp only at H
 have A2 := Aside0.mk A20
 clear A20
 by_cases c3 : t121 = true
 ·subst c3
  rw [if_pos rfl] at H
  replace H := Option.bind_eq_some_iff.mp H
  obtain ⟨⟨t122, t123, t124⟩, A40, H⟩ := H
  try dsimp only at H
  have A4 := Aside0.mk A40
  clear A40
  replace H := Option.bind_eq_some_iff.mp H
  obtain ⟨t125, A50, H⟩ := H
  try dsimp only at H
  have A5 := Aside0.mk A50
  clear A50
  by_cases c6 : t125 = true
  ·subst c6
   rw [if_pos rfl] at H
   replace H := Option.bind_eq_some_iff.mp H
   obtain ⟨⟨t126, t127, t128⟩, A70, H⟩ := H
   try dsimp only at H
   have A7 := Aside0.mk A70
   clear A70
   simp only [Option.some.injEq, Prod.mk.injEq] at H
   obtain ⟨rfl, rfl, rfl, rfl⟩ := H
   go_enter Try.func18, Try.ntmps18
   go_wp2_with (first | ((with_reducible refine gate_dst (N := 2) rfl ?_); refine bv_ 2 (cs := #[.int .i64 0, .int .i64 0, .int .i64 0]) (t := 29) ?_; intro gb120 hg w8 hbox hb; have BK120 := Aside0.mk (hbox); have GW120 := gs_ hg HB; have GE120 := gs_ hg HB; replace HB := hbs_ HB hb; clear hb hbox hg) | ((with_reducible refine gate_callee (f := 65) rfl ?_); refine gl_ (some 5) Try.func65 #[.slice A0 l0.length c0] rfl rfl rfl ?_; (with_reducible refine (spec_sbList.calls k _ _ l0 true _ ?side1 ?side2 A2.out).mono ?_); (case side1 => exact Kd.C_w HR0 HB); (case side2 => exact HC0.out); rintro e w9 ⟨rfl, hb⟩; refine ⟨_, rfl, ?_⟩; replace BK120 := kb_ BK120 hb; replace HB := hbs_ HB hb) | (go_at_call 67; (with_reducible refine (spec_sbJoin.calls k _ _ l0 t122 t123 t124 _ ?side1 ?side2 A4.out).mono ?_); (case side1 => exact Kd.C_w HR0 HB); (case side2 => exact HC0.out); rintro e w10 ⟨rfl, hb⟩; replace BK120 := Aside0.mk (blk_below (kp_ BK120) hb); replace HB := Aside0.mk (below_step (hb_ HB) hb)) | (go_at_call 66; (with_reducible refine (spec_sbPiece.calls t122 t123 t124 true _ A5.out).mono ?_); rintro e w11 ⟨rfl, hb⟩; replace BK120 := Aside0.mk (blk_below (kp_ BK120) hb); replace HB := Aside0.mk (below_step (hb_ HB) hb)) | ((with_reducible refine gate_callee (f := 67) rfl ?_); refine gl_ (some 15) Try.func67 #[.slice A0 l0.length c0] rfl rfl rfl ?_; (with_reducible refine (spec_sbJoin.calls k _ _ l0 t126 t127 t128 _ ?side1 ?side2 A7.out).mono ?_); (case side1 => exact Kd.C_w HR0 HB); (case side2 => exact HC0.out); rintro e w12 ⟨rfl, hb⟩; refine ⟨_, rfl, ?_⟩; replace BK120 := kb_ BK120 hb; replace HB := hbs_ HB hb; obtain ⟨hcz13_0, hcz13_1, hcz13_2, hfz13_0, hfz13_1, hfz13_2⟩ := bx3 BK120))
   refine bodyPost_ret (results_ct rfl _ _ gb120 29 #[.int .i64 t126, .int .i64 t127, .int .i64 t128] (0, 0) _ rfl (kpq_ (kputs BK120 [(0, _), (1, _), (2, _)])) Try.underlying29 rfl (by kernel_rfl)) rfl ?_
   exact ad_ (hb_ HB)
  replace c6 := Bool.eq_false_iff.mpr c6
  subst c6
  rw [if_neg (show ¬ (false = true) by decide)] at H
  simp only [Option.some.injEq, Prod.mk.injEq] at H
  obtain ⟨rfl, rfl, rfl, rfl⟩ := H
  go_enter Try.func18, Try.ntmps18
  go_wp2_with (first | ((with_reducible refine gate_dst (N := 2) rfl ?_); refine bv_ 2 (cs := #[.int .i64 0, .int .i64 0, .int .i64 0]) (t := 29) ?_; intro gb120 hg w14 hbox hb; have BK120 := Aside0.mk (hbox); have GW120 := gs_ hg HB; have GE120 := gs_ hg HB; replace HB := hbs_ HB hb; clear hb hbox hg) | ((with_reducible refine gate_callee (f := 65) rfl ?_); refine gl_ (some 5) Try.func65 #[.slice A0 l0.length c0] rfl rfl rfl ?_; (with_reducible refine (spec_sbList.calls k _ _ l0 true _ ?side1 ?side2 A2.out).mono ?_); (case side1 => exact Kd.C_w HR0 HB); (case side2 => exact HC0.out); rintro e w15 ⟨rfl, hb⟩; refine ⟨_, rfl, ?_⟩; replace BK120 := kb_ BK120 hb; replace HB := hbs_ HB hb) | (go_at_call 67; (with_reducible refine (spec_sbJoin.calls k _ _ l0 t122 t123 t124 _ ?side1 ?side2 A4.out).mono ?_); (case side1 => exact Kd.C_w HR0 HB); (case side2 => exact HC0.out); rintro e w16 ⟨rfl, hb⟩; replace BK120 := Aside0.mk (blk_below (kp_ BK120) hb); replace HB := Aside0.mk (below_step (hb_ HB) hb)) | (go_at_call 66; (with_reducible refine (spec_sbPiece.calls t122 t123 t124 false _ A5.out).mono ?_); rintro e w17 ⟨rfl, hb⟩; replace BK120 := Aside0.mk (blk_below (kp_ BK120) hb); replace HB := Aside0.mk (below_step (hb_ HB) hb); obtain ⟨hcz18_0, hcz18_1, hcz18_2, hfz18_0, hfz18_1, hfz18_2⟩ := bx3 BK120))
  refine bodyPost_ret (results_ct rfl _ _ gb120 29 #[.int .i64 0, .int .i64 0, .int .i64 0] (0, 0) _ rfl (kpq_ (kputs BK120 [(0, _), (1, _), (2, _)])) Try.underlying29 rfl (by kernel_rfl)) rfl ?_
  exact ad_ (hb_ HB)
 replace c3 := Bool.eq_false_iff.mpr c3
 subst c3
 rw [if_neg (show ¬ (false = true) by decide)] at H
 simp only [Option.some.injEq, Prod.mk.injEq] at H
 obtain ⟨rfl, rfl, rfl, rfl⟩ := H
 go_enter Try.func18, Try.ntmps18
 go_wp2_with (first | ((with_reducible refine gate_dst (N := 2) rfl ?_); refine bv_ 2 (cs := #[.int .i64 0, .int .i64 0, .int .i64 0]) (t := 29) ?_; intro gb120 hg w19 hbox hb; have BK120 := Aside0.mk (hbox); have GW120 := gs_ hg HB; have GE120 := gs_ hg HB; replace HB := hbs_ HB hb; clear hb hbox hg) | ((with_reducible refine gate_callee (f := 65) rfl ?_); refine gl_ (some 5) Try.func65 #[.slice A0 l0.length c0] rfl rfl rfl ?_; (with_reducible refine (spec_sbList.calls k _ _ l0 false _ ?side1 ?side2 A2.out).mono ?_); (case side1 => exact Kd.C_w HR0 HB); (case side2 => exact HC0.out); rintro e w20 ⟨rfl, hb⟩; refine ⟨_, rfl, ?_⟩; replace BK120 := kb_ BK120 hb; replace HB := hbs_ HB hb; obtain ⟨hcz21_0, hcz21_1, hcz21_2, hfz21_0, hfz21_1, hfz21_2⟩ := bx3 BK120))
 refine bodyPost_ret (results_ct rfl _ _ gb120 29 #[.int .i64 0, .int .i64 0, .int .i64 0] (0, 0) _ rfl (kpq_ (kputs BK120 [(0, _), (1, _), (2, _)])) Try.underlying29 rfl (by kernel_rfl)) rfl ?_
 exact ad_ (hb_ HB)

/-! ### impl_IsPiece: function 47 -/
def impl_IsPiece.f (a0_0 : Int) (a0_1 : Int) (a0_2 : Int) : Option (Bool) := if a0_0 ≥ 0 then (if a0_0 ≤ 10000 then (if a0_1 ≥ 0 then (if a0_1 ≤ (wrap64 (1000 * a0_0)) then (if a0_2 ≥ 0 then (some (decide (a0_2 ≤ 4))) else (some false)) else (some false)) else (some false)) else (some false)) else (some false)
set_option maxHeartbeats 8000000 in
set_option maxRecDepth 100000 in
theorem impl_IsPiece.calls (a0_0 : Int) (a0_1 : Int) (a0_2 : Int) (r : Bool) (w : World) (h : impl_IsPiece.f a0_0 a0_1 a0_2 = some r) :
  Calls Try.prog 47 #[.agg #[.int .i64 a0_0, .int .i64 a0_1, .int .i64 a0_2]] w fun e w' => e = .returned (.bool r) ∧ Below w.heap.size w w' := by
 have hu29 := Try.underlying29
 have HB := Aside0.mk (Below.refl w.heap.size w)
 have H := h
 unfold impl_IsPiece.f at H
 clear h
 by_cases c2 : a0_0 ≥ 0
 ·rw [if_pos c2] at H
  have c2b0 : decide (0 ≤ a0_0) = true := decide_eq_true c2
  clear c2
  by_cases c3 : a0_0 ≤ 10000
  ·rw [if_pos c3] at H
   have c3b0 := decide_eq_true c3
   clear c3
   by_cases c4 : a0_1 ≥ 0
   ·rw [if_pos c4] at H
    have c4b0 : decide (0 ≤ a0_1) = true := decide_eq_true c4
    clear c4
    by_cases c5 : a0_1 ≤ (wrap64 (1000 * a0_0))
    ·rw [if_pos c5] at H
     have c5b0 := decide_eq_true c5
     clear c5
     by_cases c6 : a0_2 ≥ 0
     ·rw [if_pos c6] at H
      have c6b0 : decide (0 ≤ a0_2) = true := decide_eq_true c6
      clear c6
      obtain rfl := Option.some.inj H
      go_enter Try.func47, Try.ntmps47
      go_wp2_with (first | ((with_reducible refine gate_dst (N := 1) rfl ?_); refine bv_ 1 (cs := #[.int .i64 a0_0, .int .i64 a0_1, .int .i64 a0_2]) (t := 29) ?_; intro gb129 hg w7 hbox hb; have BK129 := Aside0.mk (hbox); have GW129 := gs_ hg HB; have GE129 := gs_ hg HB; replace HB := hbs_ HB hb; clear hb hbox hg; obtain ⟨hcz8_0, hcz8_1, hcz8_2, hfz8_0, hfz8_1, hfz8_2⟩ := bx3 BK129))
      go_ret
      exact ad_ (hb_ HB)
     rw [if_neg c6] at H
     have c6b0 : decide (0 ≤ a0_2) = false := decide_eq_false c6
     clear c6
     obtain rfl := Option.some.inj H
     go_enter Try.func47, Try.ntmps47
     go_wp2_with (first | ((with_reducible refine gate_dst (N := 1) rfl ?_); refine bv_ 1 (cs := #[.int .i64 a0_0, .int .i64 a0_1, .int .i64 a0_2]) (t := 29) ?_; intro gb129 hg w9 hbox hb; have BK129 := Aside0.mk (hbox); have GW129 := gs_ hg HB; have GE129 := gs_ hg HB; replace HB := hbs_ HB hb; clear hb hbox hg; obtain ⟨hcz10_0, hcz10_1, hcz10_2, hfz10_0, hfz10_1, hfz10_2⟩ := bx3 BK129))
     go_ret
     exact ad_ (hb_ HB)
    rw [if_neg c5] at H
    have c5b0 := decide_eq_false c5
    clear c5
    obtain rfl := Option.some.inj H
    go_enter Try.func47, Try.ntmps47
    go_wp2_with (first | ((with_reducible refine gate_dst (N := 1) rfl ?_); refine bv_ 1 (cs := #[.int .i64 a0_0, .int .i64 a0_1, .int .i64 a0_2]) (t := 29) ?_; intro gb129 hg w11 hbox hb; have BK129 := Aside0.mk (hbox); have GW129 := gs_ hg HB; have GE129 := gs_ hg HB; replace HB := hbs_ HB hb; clear hb hbox hg; obtain ⟨hcz12_0, hcz12_1, hcz12_2, hfz12_0, hfz12_1, hfz12_2⟩ := bx3 BK129))
    go_ret
    exact ad_ (hb_ HB)
   rw [if_neg c4] at H
   have c4b0 : decide (0 ≤ a0_1) = false := decide_eq_false c4
   clear c4
   obtain rfl := Option.some.inj H
   go_enter Try.func47, Try.ntmps47
   go_wp2_with (first | ((with_reducible refine gate_dst (N := 1) rfl ?_); refine bv_ 1 (cs := #[.int .i64 a0_0, .int .i64 a0_1, .int .i64 a0_2]) (t := 29) ?_; intro gb129 hg w13 hbox hb; have BK129 := Aside0.mk (hbox); have GW129 := gs_ hg HB; have GE129 := gs_ hg HB; replace HB := hbs_ HB hb; clear hb hbox hg; obtain ⟨hcz14_0, hcz14_1, hcz14_2, hfz14_0, hfz14_1, hfz14_2⟩ := bx3 BK129))
   go_ret
   exact ad_ (hb_ HB)
  rw [if_neg c3] at H
  have c3b0 := decide_eq_false c3
  clear c3
  obtain rfl := Option.some.inj H
  go_enter Try.func47, Try.ntmps47
  go_wp2_with (first | ((with_reducible refine gate_dst (N := 1) rfl ?_); refine bv_ 1 (cs := #[.int .i64 a0_0, .int .i64 a0_1, .int .i64 a0_2]) (t := 29) ?_; intro gb129 hg w15 hbox hb; have BK129 := Aside0.mk (hbox); have GW129 := gs_ hg HB; have GE129 := gs_ hg HB; replace HB := hbs_ HB hb; clear hb hbox hg; obtain ⟨hcz16_0, hcz16_1, hcz16_2, hfz16_0, hfz16_1, hfz16_2⟩ := bx3 BK129))
  go_ret
  exact ad_ (hb_ HB)
 rw [if_neg c2] at H
 have c2b0 : decide (0 ≤ a0_0) = false := decide_eq_false c2
 clear c2
 obtain rfl := Option.some.inj H
 go_enter Try.func47, Try.ntmps47
 go_wp2_with (first | ((with_reducible refine gate_dst (N := 1) rfl ?_); refine bv_ 1 (cs := #[.int .i64 a0_0, .int .i64 a0_1, .int .i64 a0_2]) (t := 29) ?_; intro gb129 hg w17 hbox hb; have BK129 := Aside0.mk (hbox); have GW129 := gs_ hg HB; have GE129 := gs_ hg HB; replace HB := hbs_ HB hb; clear hb hbox hg; obtain ⟨hcz18_0, hcz18_1, hcz18_2, hfz18_0, hfz18_1, hfz18_2⟩ := bx3 BK129))
 go_ret
 exact ad_ (hb_ HB)

end Go.Proofs.Ytceajigggcihnaa.PFnCoarse
