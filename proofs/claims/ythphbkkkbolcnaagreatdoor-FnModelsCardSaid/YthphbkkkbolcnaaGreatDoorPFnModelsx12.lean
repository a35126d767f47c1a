-- Laid for this claim by wip/tools/print2.sh, a changed copy of the kit's print (wip/tools/patch_print.py): not by print.sh.
import Derived.Test.YthphbkkkbolcnaaGreatDoorPFnModelsx6
import Derived.Test.YthphbkkkbolcnaaGreatDoorPFnModelsx8
import Derived.Test.YthphbkkkbolcnaaGreatDoorVFnModels
namespace Go.Proofs.YthphbkkkbolcnaaGreatDoor.PFnModels
set_option maxHeartbeats 8000000
set_option maxRecDepth 100000
open Go.RowKit Go.Proofs.YthphbkkkbolcnaaGreatDoorW.PrintWords Go.Proofs.YthphbkkkbolcnaaGreatDoorW.PrintLast Go.Proofs.YthphbkkkbolcnaaGreatDoorW.PrintMore
set_option linter.unusedVariables false
set_option linter.unusedSimpArgs false

/-! ### impl_LevelBlocks: function 40 -/
mutual
def impl_LevelBlocks.j0 : Nat → Int → Bool → Int → Int → Int → Option (List Int × Bool)
 | 0, _, _, _, _, _ => none
 | k + 1, x1, x20, x427000, x427001, x427002 => if x20 = true then (some (([] : List Int), false)) else (impl_LevelBlocks.l0 k x1 (([] : List Int)) (wrap64 ((wrap64 (x1 * x427000)) * x427001)) x427000 x427001 x427002)
def impl_LevelBlocks.l0 : Nat → Int → List Int → Int → Int → Int → Int → Option (List Int × Bool)
 | 0, _, _, _, _, _, _ => none
 | k + 1, x1, x6, x7, x427000, x427001, x427002 => if x7 < (wrap64 ((wrap64 ((wrap64 (x1 + 1)) * x427000)) * x427001)) then (if x6.length < 17592186044416 then (impl_LevelBlocks.l0 k x1 (x6 ++ [x7]) (wrap64 (x7 + 1)) x427000 x427001 x427002) else (none)) else (some (x6, true))
end
def impl_LevelBlocks.f (k : Nat) (a0_0 : Int) (a0_1 : Int) (a0_2 : Int) (a1 : Int) : Option (List Int × Bool) := (impl_IsGrid.f a0_0 a0_1 a0_2).bind fun t427 => (if t427 = true then (if a1 < 0 then (impl_LevelBlocks.j0 k a1 true a0_0 a0_1 a0_2) else (impl_LevelBlocks.j0 k a1 (decide (a1 ≥ a0_2)) a0_0 a0_1 a0_2)) else (impl_LevelBlocks.j0 k a1 true a0_0 a0_1 a0_2))
theorem impl_LevelBlocks.calls (k : Nat) (a0_0 : Int) (a0_1 : Int) (a0_2 : Int) (a1 : Int) (r1 : List Int) (r2 : Bool) (w : World) (h : impl_LevelBlocks.f k a0_0 a0_1 a0_2 a1 = some (r1, r2)) :
  Calls Tryz.prog 40 #[.agg #[.int .i64 a0_0, .int .i64 a0_1, .int .i64 a0_2], .int .i64 a1] w fun e w' => ∃ v0_ : Value, e = .returned (.tuple #[v0_, .bool r2]) ∧ Kd.R (Kd.int .i64) 3 w' w.heap.size (fun _ => True) v0_ r1 ∧ Below w.heap.size w w' := by
 have hu25 := Tryz.underlying25
 have HB := am_ (Below.refl w.heap.size w)
 have H := h
 unfold impl_LevelBlocks.f at H
 clear h
 have HC3 := am_ H
 clear H
 go_enter Tryz.func40, Tryz.ntmps40
 go_upto_region 1 with (first | ((with_reducible refine gate_dst (N := 2) rfl ?_); refine bv_ 2 (cs := #[.int .i64 a0_0, .int .i64 a0_1, .int .i64 a0_2]) (t := 25) ?_; intro gb426 hg w4 hbox hb; have BK426 := am_ (hbox); have GW426 := gs_ hg HB; have GE426 := gs_ hg HB; replace HB := hbs_ HB hb; clear hb hbox hg))
 (try simp only [Act.put, List.setIfInBounds_toArray, List.set_cons_zero, List.set_cons_succ])
 go_cut [20] (fun v20 wc => ∃ (kq : Nat) (x20_2 : Bool), v20 = .bool x20_2 ∧ Aside0 (impl_LevelBlocks.j0 kq a1 x20_2 a0_0 a0_1 a0_2 = some (r1, r2)) ∧ Aside0 (kq ≤ k) ∧ Aside0 (wc.heap[gb426]? = some (.cells #[.int .i64 a0_0, .int .i64 a0_1, .int .i64 a0_2] 25 (0, 0))) ∧ Aside0 (Below w.heap.size w wc))
 case first =>
  have H := HC3.out
  clear HC3
  revert H; refine bn_ ?_; rintro t427 A5 H; try dsimp only at H
  by_cases c6 : t427 = true
  ·subst c6
   rw [if_pos rfl] at H
   by_cases c7 : a1 < 0
   ·rw [if_pos c7] at H
    have c7b0 := decide_eq_true c7
    clear c7
    (first | rw [c7b0] | (simp only [i64_w, i32_w]; rw [c7b0]) | skip)
    have H' := am_ H
    clear H
    obtain ⟨hcz8_0, hcz8_1, hcz8_2, hfz8_0, hfz8_1, hfz8_2⟩ := bx3 BK426
    go_wp2_with (first | ((with_reducible refine gk_ 33 ?_); refine gq_ 9 Tryz.func33 #[.agg #[.int .i64 a0_0, .int .i64 a0_1, .int .i64 a0_2]] ?_; (with_reducible refine (impl_IsGrid.calls a0_0 a0_1 a0_2 true _ A5.out).mono ?_); rintro e w9 ⟨rfl, hb⟩; refine ⟨_, rfl, ?_⟩; replace BK426 := kb_ BK426 hb; replace HB := hbs_ HB hb))
    go_meet
    case rel => exact ⟨_, (true), sr_, H', ⟨by first | omega | exact Nat.le_refl _⟩, ⟨kp_ BK426⟩, ⟨hb_ HB⟩⟩
   rw [if_neg c7] at H
   have c7b0 := decide_eq_false c7
   clear c7
   (first | rw [c7b0] | (simp only [i64_w, i32_w]; rw [c7b0]) | skip)
   have H' := am_ H
   clear H
   obtain ⟨hcz10_0, hcz10_1, hcz10_2, hfz10_0, hfz10_1, hfz10_2⟩ := bx3 BK426
   go_wp2_with (first | ((with_reducible refine gk_ 33 ?_); refine gq_ 9 Tryz.func33 #[.agg #[.int .i64 a0_0, .int .i64 a0_1, .int .i64 a0_2]] ?_; (with_reducible refine (impl_IsGrid.calls a0_0 a0_1 a0_2 true _ A5.out).mono ?_); rintro e w11 ⟨rfl, hb⟩; refine ⟨_, rfl, ?_⟩; replace BK426 := kb_ BK426 hb; replace HB := hbs_ HB hb; obtain ⟨hcz12_0, hcz12_1, hcz12_2, hfz12_0, hfz12_1, hfz12_2⟩ := bx3 BK426))
   go_meet
   case rel => exact ⟨_, (decide (a1 ≥ a0_2)), sr_, H', ⟨by first | omega | exact Nat.le_refl _⟩, ⟨kp_ BK426⟩, ⟨hb_ HB⟩⟩
  replace c6 := Bool.eq_false_iff.mpr c6
  subst c6
  rw [if_neg (show ¬ (false = true) by decide)] at H
  have H' := am_ H
  clear H
  obtain ⟨hcz13_0, hcz13_1, hcz13_2, hfz13_0, hfz13_1, hfz13_2⟩ := bx3 BK426
  go_wp2_with (first | ((with_reducible refine gk_ 33 ?_); refine gq_ 9 Tryz.func33 #[.agg #[.int .i64 a0_0, .int .i64 a0_1, .int .i64 a0_2]] ?_; (with_reducible refine (impl_IsGrid.calls a0_0 a0_1 a0_2 false _ A5.out).mono ?_); rintro e w14 ⟨rfl, hb⟩; refine ⟨_, rfl, ?_⟩; replace BK426 := kb_ BK426 hb; replace HB := hbs_ HB hb))
  go_meet
  case rel => exact ⟨_, (true), sr_, H', ⟨by first | omega | exact Nat.le_refl _⟩, ⟨kp_ BK426⟩, ⟨hb_ HB⟩⟩
 clear HC3
 obtain ⟨kq, x20_2, rfl, HA, HJ2, BK426, HB⟩ := hcut
 cases kq with
 | zero => exact absurd HA.out (by simp [impl_LevelBlocks.j0])
 | succ kj2 => ?_
 have H := HA.out
 clear HA
 simp only [impl_LevelBlocks.j0] at H
 by_cases c15 : x20_2 = true
 ·subst c15
  rw [if_pos rfl] at H
  simp only [Option.some.injEq, Prod.mk.injEq] at H
  obtain ⟨rfl, rfl⟩ := H
  go_wp2
  go_ret2
  exact ⟨_, se_, by first | exact Kd.R_nil _ _ _ _ _ | exact Kd.N_nil _ _ _ _ _ | exact Kd.V_nil _ _ _ _ _ | exact Kd.Q_nil _ _ _ _ _ | exact Kd.S_nil _ _ _ _ _, hb_ HB⟩
 replace c15 := Bool.eq_false_iff.mpr c15
 subst c15
 rw [if_neg (show ¬ (false = true) by decide)] at H
 obtain ⟨y428, hy428⟩ : ∃ y_ : List Int, y_ = (([] : List Int)) := ⟨_, rfl⟩
 replace H : (impl_LevelBlocks.l0 kj2 a1 y428 (wrap64 ((wrap64 (a1 * a0_0)) * a0_1)) a0_0 a0_1 a0_2) = some (r1, r2) := by first | (rw [hy428]; with_reducible exact H) | (have H2_ := (Option.bind_some _ _).symm.trans H; rw [hy428]; with_reducible exact H2_) | (have H2_ := (Option.bind_some _ _).symm.trans H; with_reducible exact H2_) | with_reducible exact H | (rw [hy428]; exact H) | exact H
 have Ny428 := am_ hy428
 clear hy428
 have H' := am_ H
 clear H
 go_wp2_with (first | ((with_reducible refine gate_dst (N := 21) rfl ?_); refine Kd.R_lit (Kd.int .i64) _ 3 ?hg (N := 21) ?hd (xs := ([] : List Int)) (inner := []) (ok := fun _ => True) (okp := fun _ => True) ?hr ?hp (fun _ hk => hk) trivial (Below.refl _ _) (Nat.le_refl _) (by simp) ?_; (case hd => rfl); (case hg => rfl); (case hr => first | (go_simp; done) | (go_simp; rfl)); (case hp => exact (Reps.none _ _)); intro v429 w16 ho17 hb hg_ hnew_; clear hg_ hnew_; (first | rw [← Ny428.out] at ho17 | (simp only [Int.reduceToNat] at ho17; rw [← Ny428.out] at ho17)); have HO430 := Kd.R_lo ho17 HB; replace BK426 := kb_ BK426 hb; replace HB := hbs_ HB hb; clear hb ho17; obtain ⟨hcz18_0, hcz18_1, hcz18_2, hfz18_0, hfz18_1, hfz18_2⟩ := bx3 BK426))
 go_loopg [6, 7] kj2 (fun kq v6 v7 w' => ∃ (x6_2 : List Int) (x7_2 : Int), v7 = .int .i64 x7_2 ∧ Aside0 (impl_LevelBlocks.l0 kq a1 x6_2 x7_2 a0_0 a0_1 a0_2 = some (r1, r2)) ∧ Aside0 (kq ≤ kj2) ∧ Aside0 (Kd.R (Kd.int .i64) 3 w' w.heap.size (fun _ => True) v6 x6_2) ∧ Aside0 (w'.heap[gb426]? = some (.cells #[.int .i64 a0_0, .int .i64 a0_1, .int .i64 a0_2] 25 (0, 0))) ∧ Aside0 (Below w.heap.size w w'))
 case atStart => exact ⟨(y428), (wrap64 ((wrap64 (a1 * a0_0)) * a0_1)), sr_, H', ⟨Nat.le_refl _⟩, ⟨Kd.R_p HO430⟩, ⟨kp_ BK426⟩, ⟨hb_ HB⟩⟩
 clear H'
 obtain ⟨x6_2, x7_2, rfl, HA, HK2, HO_6, BK426, HB⟩ := hrel
 cases gk with
 | zero => exact absurd HA.out (by simp [impl_LevelBlocks.l0])
 | succ k2 => ?_
 have H := HA.out
 clear HA
 simp only [impl_LevelBlocks.l0] at H
 by_cases c19 : x7_2 < (wrap64 ((wrap64 ((wrap64 (a1 + 1)) * a0_0)) * a0_1))
 case neg => rw [if_neg c19] at H; have c19b0 := decide_eq_false c19; clear c19; simp only [Option.some.injEq, Prod.mk.injEq] at H; obtain ⟨rfl, rfl⟩ := H; obtain ⟨hcz23_0, hcz23_1, hcz23_2, hfz23_0, hfz23_1, hfz23_2⟩ := bx3 BK426; go_wp2; go_ret2; (exact ⟨_, se_, Kd.R_p HO_6, hb_ HB⟩)
 rw [if_pos c19] at H
 have c19b0 := decide_eq_true c19
 clear c19
 revert H; refine pf_ fun c20 H => ?_
 have LMc20 := am_ c20
 clear c20
 obtain ⟨y431, hy431⟩ : ∃ y_ : List Int, y_ = (x6_2 ++ [x7_2]) := ⟨_, rfl⟩
 (try with_reducible replace H := (Option.bind_some _ _).symm.trans H); (try dsimp only at H); (try rw [← hy431] at H)
 have Ny431 := am_ hy431
 clear hy431
 have H' := am_ H
 clear H
 obtain ⟨hcz21_0, hcz21_1, hcz21_2, hfz21_0, hfz21_1, hfz21_2⟩ := bx3 BK426
 go_wp2_with (first | ((with_reducible refine gate_builtin (b := .append) (xs := #[.tmp 41, .tmp 43]) rfl ?_); at_builtin; refine Kd.R_append (Kd.int .i64) (w0 := w) w.heap.size rfl (.tmp 41) (.tmp 43) 26 3 (.int .i64 0) 8 rfl Tryz.underlying26 info3 rfl (by decide) (by omega) u6 x6_2 x7_2 [.int .i64 x7_2] (fun _ => True) (fun _ => False) rfl rfl ?aP (fun _ hk => hk.elim) ?aF ?aO ?aB ?aS ?aL ?_; (case aP => exact rfl); (case aB => exact (hb_ HB)); (case aF => exact (fun _ _ => trivial)); (case aO => exact (Kd.R_p HO_6)); (case aS => exact (below_size (hb_ HB))); (case aL => have := LMc20.out; omega); intro v432 w22 ho hb hg hat; rw [← Ny431.out] at ho; have HO433 := am_ (ho); replace BK426 := am_ (blk_grown (kp_ BK426) hg (Kd.R_ne HO_6.out BK426.out (by decide))); replace HB := am_ (hb); clear HO_6; clear ho hb hg hat))
 go_roundg k2
 case measure => have := HJ2.out; have := HK2.out; omega
 case rel => exact ⟨(y431), (wrap64 (x7_2 + 1)), sr_, H', ⟨by have := HJ2.out; have := HK2.out; omega⟩, ⟨Kd.R_p HO433⟩, ⟨kp_ BK426⟩, ⟨hb_ HB⟩⟩

/-! ### impl_sumsOf: function 41 -/
def impl_sumsOf.l0 : Nat → Int → Int → List Int → Int → Int → Int → Int → Int → List Int → List Int → List Int → Option (Int × Int)
 | 0, _, _, _, _, _, _, _, _, _, _, _ => none
 | k + 1, x6, x7, x10, x11, x12, x435000, x435001, x435002, x435003, x435004, x435005 => if x12 < x11 then (if 0 ≤ x12 then (if x12 < (x10.length : Int) then (if 0 ≤ (rd x10 x12) then (if (rd x10 x12) < (x435003.length : Int) then (if (rd x10 x12) < (x435004.length : Int) then (impl_sumsOf.l0 k (wrap64 (x6 + (rd x435003 (rd x10 x12)))) (wrap64 (x7 + (wrap64 ((rd x435003 (rd x10 x12)) * (rd x435004 (rd x10 x12)))))) x10 x11 (wrap64 (x12 + 1)) x435000 x435001 x435002 x435003 x435004 x435005) else (none)) else (none)) else (none)) else (none)) else (none)) else (some (x6, x7))
def impl_sumsOf.f (k : Nat) (a0_0 : Int) (a0_1 : Int) (a0_2 : Int) (l0_3 : List Int) (l0_4 : List Int) (l0_5 : List Int) (l1 : List Int) : Option (Int × Int) := impl_sumsOf.l0 k 0 0 l1 (l1.length : Int) 0 a0_0 a0_1 a0_2 l0_3 l0_4 l0_5
theorem impl_sumsOf.calls (k : Nat) (a0_0 : Int) (a0_1 : Int) (a0_2 : Int) (A0_3 : Option Addr) (c0_3 : Nat) (l0_3 : List Int) (A0_4 : Option Addr) (c0_4 : Nat) (l0_4 : List Int) (A0_5 : Option Addr) (c0_5 : Nat) (l0_5 : List Int) (A1 : Option Addr) (c1 : Nat) (l1 : List Int) (r1 : Int) (r2 : Int) (w : World) (hr0_3 : Kd.C (Kd.int .i64) w A0_3 l0_3.length l0_3) (hc0_3 : l0_3.length ≤ c0_3) (hr0_4 : Kd.C (Kd.int .i64) w A0_4 l0_4.length l0_4) (hc0_4 : l0_4.length ≤ c0_4) (hr0_5 : Kd.C (Kd.int .i64) w A0_5 l0_5.length l0_5) (hc0_5 : l0_5.length ≤ c0_5) (hr1 : Kd.C (Kd.int .i64) w A1 l1.length l1) (hc1 : l1.length ≤ c1) (h : impl_sumsOf.f k a0_0 a0_1 a0_2 l0_3 l0_4 l0_5 l1 = some (r1, r2)) :
  Calls Tryz.prog 41 #[.agg #[.int .i64 a0_0, .int .i64 a0_1, .int .i64 a0_2, .slice A0_3 l0_3.length c0_3, .slice A0_4 l0_4.length c0_4, .slice A0_5 l0_5.length c0_5], .slice A1 l1.length c1] w fun e w' => e = .returned (.tuple #[.int .i64 r1, .int .i64 r2]) ∧ Below w.heap.size w w' := by
 have hu28 := Tryz.underlying28
 have HR0_3 := am_ hr0_3
 have HC0_3 := am_ hc0_3
 clear hr0_3 hc0_3
 have HR0_4 := am_ hr0_4
 have HC0_4 := am_ hc0_4
 clear hr0_4 hc0_4
 have HR0_5 := am_ hr0_5
 have HC0_5 := am_ hc0_5
 clear hr0_5 hc0_5
 have HR1 := am_ hr1
 have HC1 := am_ hc1
 clear hr1 hc1
 have HB := am_ (Below.refl w.heap.size w)
 have H := h
 unfold impl_sumsOf.f at H
 clear h
 have H' := am_ H
 clear H
 go_enter Tryz.func41, Tryz.ntmps41
 go_wp2_with (first | ((with_reducible refine gate_dst (N := 2) rfl ?_); refine bv_ 2 (cs := #[.int .i64 a0_0, .int .i64 a0_1, .int .i64 a0_2, .slice A0_3 l0_3.length c0_3, .slice A0_4 l0_4.length c0_4, .slice A0_5 l0_5.length c0_5]) (t := 28) ?_; intro gb434 hg w3 hbox hb; have BK434 := am_ (hbox); have GW434 := gs_ hg HB; have GE434 := gs_ hg HB; replace HB := hbs_ HB hb; clear hb hbox hg))
 repeat (go_quiet (fail); try go_wp2)
 go_loopg [6, 7, 12] k (fun kq v6 v7 v12 w' => ∃ (x6_1 : Int) (x7_1 : Int) (x12_1 : Int), v6 = .int .i64 x6_1 ∧ v7 = .int .i64 x7_1 ∧ v12 = .int .i64 x12_1 ∧ Aside0 (impl_sumsOf.l0 kq x6_1 x7_1 l1 (l1.length : Int) x12_1 a0_0 a0_1 a0_2 l0_3 l0_4 l0_5 = some (r1, r2)) ∧ Aside0 (kq ≤ k) ∧ Aside0 (w'.heap[gb434]? = some (.cells #[.int .i64 a0_0, .int .i64 a0_1, .int .i64 a0_2, (.slice A0_3 l0_3.length c0_3), (.slice A0_4 l0_4.length c0_4), (.slice A0_5 l0_5.length c0_5)] 28 (0, 0))) ∧ Aside0 (Below w.heap.size w w'))
 case atStart => exact ⟨(0), (0), (0), sr_, sr_, sr_, H', ⟨Nat.le_refl _⟩, ⟨kp_ BK434⟩, ⟨hb_ HB⟩⟩
 clear H'
 obtain ⟨x6_1, x7_1, x12_1, rfl, rfl, rfl, HA, HK1, BK434, HB⟩ := hrel
 cases gk with
 | zero => exact absurd HA.out (by simp [impl_sumsOf.l0])
 | succ k1 => ?_
 have H := HA.out
 clear HA
 simp only [impl_sumsOf.l0] at H
 by_cases c4 : x12_1 < (l1.length : Int)
 case neg => rw [if_neg c4] at H; have c4b0 := decide_eq_false c4; clear c4; simp only [Option.some.injEq, Prod.mk.injEq] at H; obtain ⟨rfl, rfl⟩ := H; go_wp2; (repeat (go_quiet (fail); try go_wp2)); go_ret2; exact ad_ (hb_ HB)
 rw [if_pos c4] at H
 have c4b0 := decide_eq_true c4
 clear c4
 revert H; refine pd_ fun c5b0 H => ?_
 revert H; refine pd_ fun c6b0 H => ?_
 revert H; refine pd_ fun c7b0 H => ?_
 revert H; refine pd_ fun c8b0 H => ?_
 revert H; refine pd_ fun c9b0 H => ?_
 have H' := am_ H
 clear H
 have p435 : 0 ≤ (x12_1 : Int) := od_
 have q435 : x12_1 < (l1.length : Int) := od_
 obtain ⟨ad435, e435, hx435_0⟩ := Kd.at_int HR1.out x12_1 p435 q435
 cases e435
 try replace hx435_0 := hc_ HB hx435_0
 replace p435 := eq_true p435
 replace q435 := eq_true q435
 obtain ⟨hcz10_0, hcz10_1, hcz10_2, hcz10_3, hcz10_4, hcz10_5, hfz10_0, hfz10_1, hfz10_2, hfz10_3, hfz10_4, hfz10_5⟩ := bx6 BK434
 have p436 : 0 ≤ ((rd l1 x12_1) : Int) := od_
 have q436 : (rd l1 x12_1) < (l0_3.length : Int) := od_
 obtain ⟨ad436, e436, hx436_0⟩ := Kd.at_int HR0_3.out (rd l1 x12_1) p436 q436
 cases e436
 try replace hx436_0 := hc_ HB hx436_0
 replace p436 := eq_true p436
 replace q436 := eq_true q436
 have p437 : 0 ≤ ((rd l1 x12_1) : Int) := od_
 have q437 : (rd l1 x12_1) < (l0_3.length : Int) := od_
 obtain ⟨ad437, e437, hx437_0⟩ := Kd.at_int HR0_3.out (rd l1 x12_1) p437 q437
 obtain rfl : ad436 = ad437 := (by injection e437)
 try replace hx437_0 := hc_ HB hx437_0
 replace p437 := eq_true p437
 replace q437 := eq_true q437
 have p438 : 0 ≤ ((rd l1 x12_1) : Int) := od_
 have q438 : (rd l1 x12_1) < (l0_4.length : Int) := od_
 obtain ⟨ad438, e438, hx438_0⟩ := Kd.at_int HR0_4.out (rd l1 x12_1) p438 q438
 cases e438
 try replace hx438_0 := hc_ HB hx438_0
 replace p438 := eq_true p438
 replace q438 := eq_true q438
 go_wp2
 repeat (go_quiet (fail); try go_wp2)
 go_roundg k1
 case measure => have := HK1.out; omega
 case rel => exact ⟨(wrap64 (x6_1 + (rd l0_3 (rd l1 x12_1)))), (wrap64 (x7_1 + (wrap64 ((rd l0_3 (rd l1 x12_1)) * (rd l0_4 (rd l1 x12_1)))))), (wrap64 (x12_1 + 1)), sr_, sr_, sr_, H', ⟨by have := HK1.out; omega⟩, ⟨kp_ BK434⟩, ⟨hb_ HB⟩⟩

/-! ### impl_LevelSums: function 10 -/
def impl_LevelSums.l0 : Nat → List (List Int) → Int → Int → Int → Int → List Int → List Int → List Int → Option ((List (List Int)) × Bool)
 | 0, _, _, _, _, _, _, _, _ => none
 | k + 1, x4, x5, x440000, x440001, x440002, x440003, x440004, x440005 => if x5 < x440002 then ((impl_LevelBlocks.f k x440000 x440001 x440002 x5).bind fun bt444 => ((impl_sumsOf.f k x440000 x440001 x440002 x440003 x440004 x440005 bt444.1).bind fun bt448 => (if x4.length < 5864062014805 then (impl_LevelSums.l0 k (x4 ++ [(([bt448.1, bt448.2] : List Int))]) (wrap64 (x5 + 1)) x440000 x440001 x440002 x440003 x440004 x440005) else (none)))) else (some (x4, true))
def impl_LevelSums.f (k : Nat) (a0_0 : Int) (a0_1 : Int) (a0_2 : Int) (l0_3 : List Int) (l0_4 : List Int) (l0_5 : List Int) : Option ((List (List Int)) × Bool) := (impl_IsModel.f k a0_0 a0_1 a0_2 l0_3 l0_4 l0_5).bind fun t440 => (if t440 = true then (impl_LevelSums.l0 k (([] : List (List Int))) 0 a0_0 a0_1 a0_2 l0_3 l0_4 l0_5) else (some (([] : List (List Int)), false)))
theorem impl_LevelSums.calls (k : Nat) (a0_0 : Int) (a0_1 : Int) (a0_2 : Int) (A0_3 : Option Addr) (c0_3 : Nat) (l0_3 : List Int) (A0_4 : Option Addr) (c0_4 : Nat) (l0_4 : List Int) (A0_5 : Option Addr) (c0_5 : Nat) (l0_5 : List Int) (r1 : List (List Int)) (r2 : Bool) (w : World) (hr0_3 : Kd.C (Kd.int .i64) w A0_3 l0_3.length l0_3) (hc0_3 : l0_3.length ≤ c0_3) (hr0_4 : Kd.C (Kd.int .i64) w A0_4 l0_4.length l0_4) (hc0_4 : l0_4.length ≤ c0_4) (hr0_5 : Kd.C (Kd.int .i64) w A0_5 l0_5.length l0_5) (hc0_5 : l0_5.length ≤ c0_5) (h : impl_LevelSums.f k a0_0 a0_1 a0_2 l0_3 l0_4 l0_5 = some (r1, r2)) :
  Calls Tryz.prog 10 #[.agg #[.int .i64 a0_0, .int .i64 a0_1, .int .i64 a0_2, .slice A0_3 l0_3.length c0_3, .slice A0_4 l0_4.length c0_4, .slice A0_5 l0_5.length c0_5]] w fun e w' => ∃ v0_ : Value, e = .returned (.tuple #[v0_, .bool r2]) ∧ Kd.S (Kd.slice 3 (Kd.int .i64)) 26 w' w.heap.size (fun _ => True) v0_ r1 ∧ Below w.heap.size w w' := by
 have hu28 := Tryz.underlying28
 have hu25 := Tryz.underlying25
 have HR0_3 := am_ hr0_3
 have HC0_3 := am_ hc0_3
 clear hr0_3 hc0_3
 have HR0_4 := am_ hr0_4
 have HC0_4 := am_ hc0_4
 clear hr0_4 hc0_4
 have HR0_5 := am_ hr0_5
 have HC0_5 := am_ hc0_5
 clear hr0_5 hc0_5
 have HB := am_ (Below.refl w.heap.size w)
 have H := h
 unfold impl_LevelSums.f at H
 clear h
 revert H; refine bn_ ?_; rintro t440 A2 H; try dsimp only at H
 by_cases c3 : t440 = true
 ·subst c3
  rw [if_pos rfl] at H
  obtain ⟨y441, hy441⟩ : ∃ y_ : List (List Int), y_ = (([] : List (List Int))) := ⟨_, rfl⟩
  replace H : (impl_LevelSums.l0 k y441 0 a0_0 a0_1 a0_2 l0_3 l0_4 l0_5) = some (r1, r2) := by first | (rw [hy441]; with_reducible exact H) | (have H2_ := (Option.bind_some _ _).symm.trans H; rw [hy441]; with_reducible exact H2_) | (have H2_ := (Option.bind_some _ _).symm.trans H; with_reducible exact H2_) | with_reducible exact H | (rw [hy441]; exact H) | exact H
  have Ny441 := am_ hy441
  clear hy441
  have H' := am_ H
  clear H
  go_enter Tryz.func10, Tryz.ntmps10
  go_wp2_with (first | ((with_reducible refine gate_dst (N := 1) rfl ?_); refine bv_ 1 (cs := #[.int .i64 a0_0, .int .i64 a0_1, .int .i64 a0_2, .slice A0_3 l0_3.length c0_3, .slice A0_4 l0_4.length c0_4, .slice A0_5 l0_5.length c0_5]) (t := 28) ?_; intro gb439 hg w4 hbox hb; have BK439 := am_ (hbox); have GW439 := gs_ hg HB; have GE439 := gs_ hg HB; replace HB := hbs_ HB hb; clear hb hbox hg; obtain ⟨hcz5_0, hcz5_1, hcz5_2, hcz5_3, hcz5_4, hcz5_5, hfz5_0, hfz5_1, hfz5_2, hfz5_3, hfz5_4, hfz5_5⟩ := bx6 BK439) | ((with_reducible refine gk_ 8 ?_); refine gq_ 11 Tryz.func8 #[.agg #[.int .i64 a0_0, .int .i64 a0_1, .int .i64 a0_2, .slice A0_3 l0_3.length c0_3, .slice A0_4 l0_4.length c0_4, .slice A0_5 l0_5.length c0_5]] ?_; (with_reducible refine (impl_IsModel.calls k a0_0 a0_1 a0_2 _ _ l0_3 _ _ l0_4 _ _ l0_5 true _ ?_ ?_ ?_ ?_ ?_ ?_ A2.out).mono ?_); exact Kd.C_w HR0_3 HB; exact HC0_3.out; exact Kd.C_w HR0_4 HB; exact HC0_4.out; exact Kd.C_w HR0_5 HB; exact HC0_5.out; rintro e w6 ⟨rfl, hb⟩; refine ⟨_, rfl, ?_⟩; replace BK439 := kb_ BK439 hb; replace HB := hbs_ HB hb) | ((with_reducible refine gate_dst (N := 13) rfl ?_); refine Kd.S_lit (Kd.slice 3 (Kd.int .i64)) _ 26 ?hg (N := 13) ?hd (xs := ([] : List (List Int))) (inner := []) (ok := fun _ => True) (okp := fun _ => True) ?hr ?hp (fun _ hk => hk) trivial (Below.refl _ _) (Nat.le_refl _) (by simp) ?_; (case hd => rfl); (case hg => rfl); (case hr => first | (go_simp; done) | (go_simp; rfl)); (case hp => exact (Reps.none _ _)); intro v442 w7 ho8 hb hg_ hnew_; clear hg_ hnew_; (first | rw [← Ny441.out] at ho8 | (simp only [Int.reduceToNat] at ho8; rw [← Ny441.out] at ho8)); have HO443 := am_ (Kd.S_lower ho8 (below_size (hb_ HB))); replace BK439 := kb_ BK439 hb; replace HB := hbs_ HB hb; clear hb ho8))
  go_loopg [4, 5] k (fun kq v4 v5 w' => ∃ (x4_1 : List (List Int)) (x5_1 : Int), v5 = .int .i64 x5_1 ∧ Aside0 (impl_LevelSums.l0 kq x4_1 x5_1 a0_0 a0_1 a0_2 l0_3 l0_4 l0_5 = some (r1, r2)) ∧ Aside0 (kq ≤ k) ∧ Aside0 (Kd.S (Kd.slice 3 (Kd.int .i64)) 26 w' w.heap.size (fun _ => True) v4 x4_1) ∧ Aside0 (w'.heap[gb439]? = some (.cells #[.int .i64 a0_0, .int .i64 a0_1, .int .i64 a0_2, (.slice A0_3 l0_3.length c0_3), (.slice A0_4 l0_4.length c0_4), (.slice A0_5 l0_5.length c0_5)] 28 (0, 0))) ∧ Aside0 (Below w.heap.size w w'))
  case atStart => exact ⟨(y441), (0), sr_, H', ⟨Nat.le_refl _⟩, ⟨by (with_reducible repeat (first | apply Kd.S_alloc | apply Kd.S_drewN | apply Kd.S_drew)); exact HO443.out⟩, ⟨kp_ BK439⟩, ⟨hb_ HB⟩⟩
  clear H'
  obtain ⟨x4_1, x5_1, rfl, HA, HK1, HO_4, BK439, HB⟩ := hrel
  cases gk with
  | zero => exact absurd HA.out (by simp [impl_LevelSums.l0])
  | succ k1 => ?_
  have H := HA.out
  clear HA
  simp only [impl_LevelSums.l0] at H
  by_cases c9 : x5_1 < a0_2
  ·rw [if_pos c9] at H
   have c9b0 := decide_eq_true c9
   clear c9
   revert H; refine bn_ ?_; rintro ⟨t444, t447⟩ A10 H; try dsimp only at H
   revert H; refine bn_ ?_; rintro ⟨t448, t449⟩ A11 H; try dsimp only at H
   obtain ⟨y450, hy450⟩ : ∃ y_ : List Int, y_ = (([t448, t449] : List Int)) := ⟨_, rfl⟩
   (try with_reducible replace H := (Option.bind_some _ _).symm.trans H); (try dsimp only at H); (try rw [← hy450] at H)
   have Ny450 := am_ hy450
   clear hy450
   revert H; refine pf_ fun c12 H => ?_
   have LMc12 := am_ c12
   clear c12
   obtain ⟨y453, hy453⟩ : ∃ y_ : List (List Int), y_ = (x4_1 ++ [y450]) := ⟨_, rfl⟩
   (try with_reducible replace H := (Option.bind_some _ _).symm.trans H); (try dsimp only at H); (try rw [← hy453] at H)
   have Ny453 := am_ hy453
   clear hy453
   have H' := am_ H
   clear H
   obtain ⟨hcz13_0, hcz13_1, hcz13_2, hcz13_3, hcz13_4, hcz13_5, hfz13_0, hfz13_1, hfz13_2, hfz13_3, hfz13_4, hfz13_5⟩ := bx6 BK439
   go_wp2_with (first | ((with_reducible refine gk_ 40 ?_); refine gq_ 25 Tryz.func40 #[.agg #[.int .i64 a0_0, .int .i64 a0_1, .int .i64 a0_2], .int .i64 x5_1] ?_; (with_reducible refine (impl_LevelBlocks.calls k1 a0_0 a0_1 a0_2 x5_1 t444 t447 _ A10.out).mono ?_); rintro e w14 ⟨v445, rfl, ho0, hb⟩; refine ⟨_, rfl, ?_⟩; have HO446 := Kd.R_lo ho0 HB; replace HO_4 := am_ (Kd.S_elder' (by (with_reducible repeat (first | apply Kd.S_alloc | apply Kd.S_drewN | apply Kd.S_drew)); exact HO_4.out) (Kd.R_base ho0) hb); replace BK439 := kb_ BK439 hb; replace HB := hbs_ HB hb; obtain ⟨hcz15_0, hcz15_1, hcz15_2, hcz15_3, hcz15_4, hcz15_5, hfz15_0, hfz15_1, hfz15_2, hfz15_3, hfz15_4, hfz15_5⟩ := bx6 BK439; obtain ⟨Ao16, co16, eo16⟩ := Kd.R_slice HO446.out; subst eo16) | ((with_reducible refine gk_ 41 ?_); refine gq_ 31 Tryz.func41 #[.agg #[.int .i64 a0_0, .int .i64 a0_1, .int .i64 a0_2, .slice A0_3 l0_3.length c0_3, .slice A0_4 l0_4.length c0_4, .slice A0_5 l0_5.length c0_5], .slice Ao16 t444.length co16] ?_; (with_reducible refine (impl_sumsOf.calls k1 a0_0 a0_1 a0_2 _ _ l0_3 _ _ l0_4 _ _ l0_5 _ _ t444 t448 t449 _ ?_ ?_ ?_ ?_ ?_ ?_ ?_ ?_ A11.out).mono ?_); exact Kd.C_w HR0_3 HB; exact HC0_3.out; exact Kd.C_w HR0_4 HB; exact HC0_4.out; exact Kd.C_w HR0_5 HB; exact HC0_5.out; exact Kd.C_o HO446; exact (Kd.R_reads' HO446.out).2.1; rintro e w17 ⟨rfl, hb⟩; refine ⟨_, rfl, ?_⟩; replace HO_4 := am_ (Kd.S_below (by (with_reducible repeat (first | apply Kd.S_alloc | apply Kd.S_drewN | apply Kd.S_drew)); exact HO_4.out) hb); replace HO446 := Kd.R_b HO446 hb; replace BK439 := kb_ BK439 hb; replace HB := hbs_ HB hb; try clear HO446) | ((with_reducible refine gate_dst (N := 37) rfl ?_); refine Kd.R_lit (Kd.int .i64) _ 3 ?hg (N := 37) ?hd (xs := ([t448, t449] : List Int)) (inner := [.int .i64 t448, .int .i64 t449]) (ok := fun _ => True) (okp := fun _ => True) ?hr ?hp (fun _ hk => hk) trivial (Below.refl _ _) (Nat.le_refl _) (by simp) ?_; (case hd => rfl); (case hg => rfl); (case hr => first | (go_simp; done) | (go_simp; rfl)); (case hp => exact (Reps.one (show Kd.M (Kd.int .i64) _ _ _ t448 [.int .i64 t448] from rfl) (Reps.one (show Kd.M (Kd.int .i64) _ _ _ t449 [.int .i64 t449] from rfl) (Reps.none _ _)))); intro v451 w18 ho19 hb hg_ hnew_; clear hg_ hnew_; (first | rw [← Ny450.out] at ho19 | (simp only [Int.reduceToNat] at ho19; rw [← Ny450.out] at ho19)); have HO452 := Kd.R_lo ho19 HB; replace HO_4 := am_ (Kd.S_elder' (by (with_reducible repeat (first | apply Kd.S_alloc | apply Kd.S_drewN | apply Kd.S_drew)); exact HO_4.out) (Kd.R_base ho19) hb); replace BK439 := kb_ BK439 hb; replace HB := hbs_ HB hb; clear hb ho19; obtain ⟨Ao21, co21, eo21⟩ := Kd.R_slice HO452.out; subst eo21) | ((with_reducible refine gate_builtin (b := .append) (xs := #[.tmp 34, .tmp 38]) rfl ?_); at_builtin; refine Kd.S_append (Kd.slice 3 (Kd.int .i64)) (w0 := w) w.heap.size rfl (.tmp 34) (.tmp 38) 35 26 (.slice none 0 0) 24 rfl Tryz.underlying35 info26 rfl (by decide) (by omega) u4 x4_1 y450 [.slice Ao21 y450.length co21] (fun _ => True) (fun k_ => some k_ = (.slice Ao21 y450.length co21 : Value).ownBlock) rfl rfl ?aP (fun k_ hk_ => ((Kd.R_mono (ok' := fun k_ => ((fun _ => True)) k_ ∧ some k_ ≠ (u4 : Value).ownBlock) (Kd.R_apart' (HO452.out) (Kd.S_typed HO_4.out) (by decide)) (fun k_ hk => ⟨trivial, hk.2⟩))).1 k_ hk_.symm) ?aF ?aO ?aB ?aS ?aL ?_; (case aP => exact Kd.M_row (Kd.R_mono (Kd.R_tight rfl (Kd.R_mono (ok' := fun k_ => ((fun _ => True)) k_ ∧ some k_ ≠ (u4 : Value).ownBlock) (Kd.R_apart' (HO452.out) (Kd.S_typed HO_4.out) (by decide)) (fun k_ hk => ⟨trivial, hk.2⟩))) (fun _ h_ => h_))); (case aB => exact (hb_ HB)); (case aF => exact (fun _ _ => trivial)); (case aO => exact (by (with_reducible repeat (first | apply Kd.S_alloc | apply Kd.S_drewN | apply Kd.S_drew)); exact Kd.S_mono HO_4.out (fun k_ hk => ⟨trivial, fun e_ => hk.2 e_⟩))); (case aS => exact (below_size (hb_ HB))); (case aL => have := LMc12.out; omega); intro v454 w20 ho hb hg hat; rw [← Ny453.out] at ho; have HO455 := am_ (ho); replace BK439 := am_ (blk_grown (kp_ BK439) hg (Kd.S_ne HO_4.out BK439.out (by decide))); replace HB := am_ (hb); clear HO_4 HO452; clear ho hb hg hat))
   go_roundg k1
   case measure => have := HK1.out; omega
   case rel => exact ⟨(y453), (wrap64 (x5_1 + 1)), sr_, H', ⟨by have := HK1.out; omega⟩, ⟨by (with_reducible repeat (first | apply Kd.S_alloc | apply Kd.S_drewN | apply Kd.S_drew)); exact HO455.out⟩, ⟨kp_ BK439⟩, ⟨hb_ HB⟩⟩
  rw [if_neg c9] at H
  have c9b0 := decide_eq_false c9
  clear c9
  simp only [Option.some.injEq, Prod.mk.injEq] at H
  obtain ⟨rfl, rfl⟩ := H
  obtain ⟨hcz22_0, hcz22_1, hcz22_2, hcz22_3, hcz22_4, hcz22_5, hfz22_0, hfz22_1, hfz22_2, hfz22_3, hfz22_4, hfz22_5⟩ := bx6 BK439
  go_wp2
  go_ret2
  exact ⟨_, se_, by (with_reducible repeat (first | apply Kd.S_alloc | apply Kd.S_drewN | apply Kd.S_drew)); exact HO_4.out, hb_ HB⟩
 replace c3 := Bool.eq_false_iff.mpr c3
 subst c3
 rw [if_neg (show ¬ (false = true) by decide)] at H
 simp only [Option.some.injEq, Prod.mk.injEq] at H
 obtain ⟨rfl, rfl⟩ := H
 go_enter Tryz.func10, Tryz.ntmps10
 go_wp2_with (first | ((with_reducible refine gate_dst (N := 1) rfl ?_); refine bv_ 1 (cs := #[.int .i64 a0_0, .int .i64 a0_1, .int .i64 a0_2, .slice A0_3 l0_3.length c0_3, .slice A0_4 l0_4.length c0_4, .slice A0_5 l0_5.length c0_5]) (t := 28) ?_; intro gb439 hg w23 hbox hb; have BK439 := am_ (hbox); have GW439 := gs_ hg HB; have GE439 := gs_ hg HB; replace HB := hbs_ HB hb; clear hb hbox hg; obtain ⟨hcz24_0, hcz24_1, hcz24_2, hcz24_3, hcz24_4, hcz24_5, hfz24_0, hfz24_1, hfz24_2, hfz24_3, hfz24_4, hfz24_5⟩ := bx6 BK439) | ((with_reducible refine gk_ 8 ?_); refine gq_ 11 Tryz.func8 #[.agg #[.int .i64 a0_0, .int .i64 a0_1, .int .i64 a0_2, .slice A0_3 l0_3.length c0_3, .slice A0_4 l0_4.length c0_4, .slice A0_5 l0_5.length c0_5]] ?_; (with_reducible refine (impl_IsModel.calls k a0_0 a0_1 a0_2 _ _ l0_3 _ _ l0_4 _ _ l0_5 false _ ?_ ?_ ?_ ?_ ?_ ?_ A2.out).mono ?_); exact Kd.C_w HR0_3 HB; exact HC0_3.out; exact Kd.C_w HR0_4 HB; exact HC0_4.out; exact Kd.C_w HR0_5 HB; exact HC0_5.out; rintro e w25 ⟨rfl, hb⟩; refine ⟨_, rfl, ?_⟩; replace BK439 := kb_ BK439 hb; replace HB := hbs_ HB hb))
 go_ret2
 exact ⟨_, se_, by first | exact Kd.S_nil _ _ _ _ _ | exact Kd.N_nil _ _ _ _ _ | exact Kd.V_nil _ _ _ _ _ | exact Kd.Q_nil _ _ _ _ _ | exact Kd.R_nil _ _ _ _ _, hb_ HB⟩

/-! ### spec_LevelBlocks: function 42 -/
mutual
def spec_LevelBlocks.j0 : Nat → Int → Bool → Int → Int → Int → Option (List Int × Bool)
 | 0, _, _, _, _, _ => none
 | k + 1, x1, x18, x457000, x457001, x457002 => if x18 = true then (some (([] : List Int), false)) else (spec_LevelBlocks.l0 k x1 ([] : List Int) 0 x457000 x457001 x457002)
def spec_LevelBlocks.l0 : Nat → Int → List Int → Int → Int → Int → Int → Option (List Int × Bool)
 | 0, _, _, _, _, _, _ => none
 | k + 1, x1, x6, x7, x457000, x457001, x457002 => if x7 < (wrap64 (x457000 * x457001)) then (if x6.length < 17592186044416 then (spec_LevelBlocks.l0 k x1 (x6 ++ [wrap64 ((wrap64 ((wrap64 (x1 * x457000)) * x457001)) + x7)]) (wrap64 (x7 + 1)) x457000 x457001 x457002) else (none)) else (some (x6, true))
end
def spec_LevelBlocks.f (k : Nat) (a0_0 : Int) (a0_1 : Int) (a0_2 : Int) (a1 : Int) : Option (List Int × Bool) := (spec_grGood.f a0_0 a0_1 a0_2).bind fun t457 => (if t457 = true then ((spec_l1In.f a1 0 (wrap64 (a0_2 - 1))).bind fun t458 => (spec_LevelBlocks.j0 k a1 (!t458) a0_0 a0_1 a0_2)) else (spec_LevelBlocks.j0 k a1 true a0_0 a0_1 a0_2))
theorem spec_LevelBlocks.calls (k : Nat) (a0_0 : Int) (a0_1 : Int) (a0_2 : Int) (a1 : Int) (r1 : List Int) (r2 : Bool) (w : World) (h : spec_LevelBlocks.f k a0_0 a0_1 a0_2 a1 = some (r1, r2)) :
  Calls Tryz.prog 42 #[.agg #[.int .i64 a0_0, .int .i64 a0_1, .int .i64 a0_2], .int .i64 a1] w fun e w' => ∃ v0_ : Value, e = .returned (.tuple #[v0_, .bool r2]) ∧ Kd.R (Kd.int .i64) 3 w' w.heap.size (fun _ => True) v0_ r1 ∧ Below w.heap.size w w' := by
 have hu25 := Tryz.underlying25
 have HB := am_ (Below.refl w.heap.size w)
 have H := h
 unfold spec_LevelBlocks.f at H
 clear h
 have HC3 := am_ H
 clear H
 go_enter Tryz.func42, Tryz.ntmps42
 go_upto_region 1 with (first | ((with_reducible refine gate_dst (N := 2) rfl ?_); refine bv_ 2 (cs := #[.int .i64 a0_0, .int .i64 a0_1, .int .i64 a0_2]) (t := 25) ?_; intro gb456 hg w4 hbox hb; have BK456 := am_ (hbox); have GW456 := gs_ hg HB; have GE456 := gs_ hg HB; replace HB := hbs_ HB hb; clear hb hbox hg))
 (try simp only [Act.put, List.setIfInBounds_toArray, List.set_cons_zero, List.set_cons_succ])
 go_cut [18] (fun v18 wc => ∃ (kq : Nat) (x18_2 : Bool), v18 = .bool x18_2 ∧ Aside0 (spec_LevelBlocks.j0 kq a1 x18_2 a0_0 a0_1 a0_2 = some (r1, r2)) ∧ Aside0 (kq ≤ k) ∧ Aside0 (wc.heap[gb456]? = some (.cells #[.int .i64 a0_0, .int .i64 a0_1, .int .i64 a0_2] 25 (0, 0))) ∧ Aside0 (Below w.heap.size w wc))
 case first =>
  have H := HC3.out
  clear HC3
  revert H; refine bn_ ?_; rintro t457 A5 H; try dsimp only at H
  by_cases c6 : t457 = true
  ·subst c6
   rw [if_pos rfl] at H
   revert H; refine bn_ ?_; rintro t458 A7 H; try dsimp only at H
   have H' := am_ H
   clear H
   obtain ⟨hcz8_0, hcz8_1, hcz8_2, hfz8_0, hfz8_1, hfz8_2⟩ := bx3 BK456
   go_wp2_with (first | ((with_reducible refine gk_ 58 ?_); refine gq_ 9 Tryz.func58 #[.agg #[.int .i64 a0_0, .int .i64 a0_1, .int .i64 a0_2]] ?_; (with_reducible refine (spec_grGood.calls a0_0 a0_1 a0_2 true _ A5.out).mono ?_); rintro e w9 ⟨rfl, hb⟩; refine ⟨_, rfl, ?_⟩; replace BK456 := kb_ BK456 hb; replace HB := hbs_ HB hb; obtain ⟨hcz10_0, hcz10_1, hcz10_2, hfz10_0, hfz10_1, hfz10_2⟩ := bx3 BK456) | (go_at_call 69; (with_reducible refine (spec_l1In.calls a1 0 (wrap64 (a0_2 - 1)) t458 _ A7.out).mono ?_); rintro e w' ⟨rfl, ⟨nd, rfl⟩⟩))
   go_meet
   case rel => exact ⟨_, (!t458), sr_, H', ⟨by first | omega | exact Nat.le_refl _⟩, ⟨kp_ BK456⟩, ⟨hb_ HB⟩⟩
  replace c6 := Bool.eq_false_iff.mpr c6
  subst c6
  rw [if_neg (show ¬ (false = true) by decide)] at H
  have H' := am_ H
  clear H
  obtain ⟨hcz11_0, hcz11_1, hcz11_2, hfz11_0, hfz11_1, hfz11_2⟩ := bx3 BK456
  go_wp2_with (first | ((with_reducible refine gk_ 58 ?_); refine gq_ 9 Tryz.func58 #[.agg #[.int .i64 a0_0, .int .i64 a0_1, .int .i64 a0_2]] ?_; (with_reducible refine (spec_grGood.calls a0_0 a0_1 a0_2 false _ A5.out).mono ?_); rintro e w12 ⟨rfl, hb⟩; refine ⟨_, rfl, ?_⟩; replace BK456 := kb_ BK456 hb; replace HB := hbs_ HB hb))
  go_meet
  case rel => exact ⟨_, (true), sr_, H', ⟨by first | omega | exact Nat.le_refl _⟩, ⟨kp_ BK456⟩, ⟨hb_ HB⟩⟩
 clear HC3
 obtain ⟨kq, x18_2, rfl, HA, HJ2, BK456, HB⟩ := hcut
 cases kq with
 | zero => exact absurd HA.out (by simp [spec_LevelBlocks.j0])
 | succ kj2 => ?_
 have H := HA.out
 clear HA
 simp only [spec_LevelBlocks.j0] at H
 by_cases c13 : x18_2 = true
 ·subst c13
  rw [if_pos rfl] at H
  simp only [Option.some.injEq, Prod.mk.injEq] at H
  obtain ⟨rfl, rfl⟩ := H
  go_wp2
  go_ret2
  exact ⟨_, se_, by first | exact Kd.R_nil _ _ _ _ _ | exact Kd.N_nil _ _ _ _ _ | exact Kd.V_nil _ _ _ _ _ | exact Kd.Q_nil _ _ _ _ _ | exact Kd.S_nil _ _ _ _ _, hb_ HB⟩
 replace c13 := Bool.eq_false_iff.mpr c13
 subst c13
 rw [if_neg (show ¬ (false = true) by decide)] at H
 have H' := am_ H
 clear H
 go_wp2
 go_loopg [6, 7] kj2 (fun kq v6 v7 w' => ∃ (x6_2 : List Int) (x7_2 : Int), v7 = .int .i64 x7_2 ∧ Aside0 (spec_LevelBlocks.l0 kq a1 x6_2 x7_2 a0_0 a0_1 a0_2 = some (r1, r2)) ∧ Aside0 (kq ≤ kj2) ∧ Aside0 (Kd.R (Kd.int .i64) 3 w' w.heap.size (fun _ => True) v6 x6_2) ∧ Aside0 (w'.heap[gb456]? = some (.cells #[.int .i64 a0_0, .int .i64 a0_1, .int .i64 a0_2] 25 (0, 0))) ∧ Aside0 (Below w.heap.size w w'))
 case atStart => exact ⟨(([] : List Int)), (0), sr_, H', ⟨Nat.le_refl _⟩, ⟨by first | exact Kd.R_nil _ _ _ _ _ | exact Kd.N_nil _ _ _ _ _ | exact Kd.V_nil _ _ _ _ _ | exact Kd.Q_nil _ _ _ _ _ | exact Kd.S_nil _ _ _ _ _⟩, ⟨kp_ BK456⟩, ⟨hb_ HB⟩⟩
 clear H'
 obtain ⟨x6_2, x7_2, rfl, HA, HK2, HO_6, BK456, HB⟩ := hrel
 cases gk with
 | zero => exact absurd HA.out (by simp [spec_LevelBlocks.l0])
 | succ k2 => ?_
 have H := HA.out
 clear HA
 simp only [spec_LevelBlocks.l0] at H
 by_cases c14 : x7_2 < (wrap64 (a0_0 * a0_1))
 case neg => rw [if_neg c14] at H; have c14b0 := decide_eq_false c14; clear c14; simp only [Option.some.injEq, Prod.mk.injEq] at H; obtain ⟨rfl, rfl⟩ := H; obtain ⟨hcz18_0, hcz18_1, hcz18_2, hfz18_0, hfz18_1, hfz18_2⟩ := bx3 BK456; go_wp2; go_ret2; (exact ⟨_, se_, Kd.R_p HO_6, hb_ HB⟩)
 rw [if_pos c14] at H
 have c14b0 := decide_eq_true c14
 clear c14
 revert H; refine pf_ fun c15 H => ?_
 have LMc15 := am_ c15
 clear c15
 obtain ⟨y459, hy459⟩ : ∃ y_ : List Int, y_ = (x6_2 ++ [wrap64 ((wrap64 ((wrap64 (a1 * a0_0)) * a0_1)) + x7_2)]) := ⟨_, rfl⟩
 (try with_reducible replace H := (Option.bind_some _ _).symm.trans H); (try dsimp only at H); (try rw [← hy459] at H)
 have Ny459 := am_ hy459
 clear hy459
 have H' := am_ H
 clear H
 obtain ⟨hcz16_0, hcz16_1, hcz16_2, hfz16_0, hfz16_1, hfz16_2⟩ := bx3 BK456
 go_wp2_with (first | ((with_reducible refine gate_builtin (b := .append) (xs := #[.tmp 28, .tmp 38]) rfl ?_); at_builtin; refine Kd.R_append (Kd.int .i64) (w0 := w) w.heap.size rfl (.tmp 28) (.tmp 38) 26 3 (.int .i64 0) 8 rfl Tryz.underlying26 info3 rfl (by decide) (by omega) u6 x6_2 (wrap64 ((wrap64 ((wrap64 (a1 * a0_0)) * a0_1)) + x7_2)) [.int .i64 (wrap64 ((wrap64 ((wrap64 (a1 * a0_0)) * a0_1)) + x7_2))] (fun _ => True) (fun _ => False) rfl rfl ?aP (fun _ hk => hk.elim) ?aF ?aO ?aB ?aS ?aL ?_; (case aP => exact rfl); (case aB => exact (hb_ HB)); (case aF => exact (fun _ _ => trivial)); (case aO => exact (Kd.R_p HO_6)); (case aS => exact (below_size (hb_ HB))); (case aL => have := LMc15.out; omega); intro v460 w17 ho hb hg hat; rw [← Ny459.out] at ho; have HO461 := am_ (ho); replace BK456 := am_ (blk_grown (kp_ BK456) hg (Kd.R_ne HO_6.out BK456.out (by decide))); replace HB := am_ (hb); clear HO_6; clear ho hb hg hat))
 go_roundg k2
 case measure => have := HJ2.out; have := HK2.out; omega
 case rel => exact ⟨(y459), (wrap64 (x7_2 + 1)), sr_, H', ⟨by have := HJ2.out; have := HK2.out; omega⟩, ⟨Kd.R_p HO461⟩, ⟨kp_ BK456⟩, ⟨hb_ HB⟩⟩

/-! ### spec_moMetal: function 44 -/
def spec_moMetal.f (a0_0 : Int) (a0_1 : Int) (a0_2 : Int) (l0_3 : List Int) (l0_4 : List Int) (l0_5 : List Int) (a1 : Int) : Option (Int) := if 0 ≤ a1 then (if a1 < (l0_3.length : Int) then (if a1 < (l0_4.length : Int) then (some (wrap64 ((rd l0_3 a1) * (rd l0_4 a1)))) else (none)) else (none)) else (none)
theorem spec_moMetal.calls (a0_0 : Int) (a0_1 : Int) (a0_2 : Int) (A0_3 : Option Addr) (c0_3 : Nat) (l0_3 : List Int) (A0_4 : Option Addr) (c0_4 : Nat) (l0_4 : List Int) (A0_5 : Option Addr) (c0_5 : Nat) (l0_5 : List Int) (a1 : Int) (r : Int) (w : World) (hr0_3 : Kd.C (Kd.int .i64) w A0_3 l0_3.length l0_3) (hc0_3 : l0_3.length ≤ c0_3) (hr0_4 : Kd.C (Kd.int .i64) w A0_4 l0_4.length l0_4) (hc0_4 : l0_4.length ≤ c0_4) (hr0_5 : Kd.C (Kd.int .i64) w A0_5 l0_5.length l0_5) (hc0_5 : l0_5.length ≤ c0_5) (h : spec_moMetal.f a0_0 a0_1 a0_2 l0_3 l0_4 l0_5 a1 = some r) :
  Calls Tryz.prog 44 #[.agg #[.int .i64 a0_0, .int .i64 a0_1, .int .i64 a0_2, .slice A0_3 l0_3.length c0_3, .slice A0_4 l0_4.length c0_4, .slice A0_5 l0_5.length c0_5], .int .i64 a1] w fun e w' => e = .returned (.int .i64 r) ∧ Below w.heap.size w w' := by
 have hu28 := Tryz.underlying28
 have HR0_3 := am_ hr0_3
 have HC0_3 := am_ hc0_3
 clear hr0_3 hc0_3
 have HR0_4 := am_ hr0_4
 have HC0_4 := am_ hc0_4
 clear hr0_4 hc0_4
 have HR0_5 := am_ hr0_5
 have HC0_5 := am_ hc0_5
 clear hr0_5 hc0_5
 have HB := am_ (Below.refl w.heap.size w)
 have H := h
 unfold spec_moMetal.f at H
 clear h
 revert H; refine pd_ fun c3b0 H => ?_
 revert H; refine pd_ fun c4b0 H => ?_
 revert H; refine pd_ fun c5b0 H => ?_
 obtain rfl := Option.some.inj H
 go_enter Tryz.func44, Tryz.ntmps44
 go_wp2_with (first | ((with_reducible refine gate_dst (N := 2) rfl ?_); refine bv_ 2 (cs := #[.int .i64 a0_0, .int .i64 a0_1, .int .i64 a0_2, .slice A0_3 l0_3.length c0_3, .slice A0_4 l0_4.length c0_4, .slice A0_5 l0_5.length c0_5]) (t := 28) ?_; intro gb462 hg w6 hbox hb; have BK462 := am_ (hbox); have GW462 := gs_ hg HB; have GE462 := gs_ hg HB; replace HB := hbs_ HB hb; clear hb hbox hg; obtain ⟨hcz7_0, hcz7_1, hcz7_2, hcz7_3, hcz7_4, hcz7_5, hfz7_0, hfz7_1, hfz7_2, hfz7_3, hfz7_4, hfz7_5⟩ := bx6 BK462; have p463 : 0 ≤ (a1 : Int) := od_; have q463 : a1 < (l0_3.length : Int) := od_; obtain ⟨ad463, e463, hx463_0⟩ := Kd.at_int HR0_3.out a1 p463 q463; cases e463; replace hx463_0 := hc_ HB hx463_0; replace p463 := eq_true p463; replace q463 := eq_true q463; have p464 : 0 ≤ (a1 : Int) := od_; have q464 : a1 < (l0_4.length : Int) := od_; obtain ⟨ad464, e464, hx464_0⟩ := Kd.at_int HR0_4.out a1 p464 q464; cases e464; replace hx464_0 := hc_ HB hx464_0; replace p464 := eq_true p464; replace q464 := eq_true q464))
 repeat (go_quiet (fail); try go_wp2)
 go_ret
 exact ad_ (hb_ HB)

end Go.Proofs.YthphbkkkbolcnaaGreatDoor.PFnModels
