-- Laid for this claim by wip/tools/print2.sh, a changed copy of the kit's print (wip/tools/patch_print.py): not by print.sh.
import Derived.Test.YtihjlepgmppedaaGreatDoorPFnRulesx16
import Derived.Test.YtihjlepgmppedaaGreatDoorVFnRules
namespace Go.Proofs.YtihjlepgmppedaaGreatDoor.PFnRules
set_option maxHeartbeats 8000000
set_option maxRecDepth 100000
open Go.RowKit Go.Proofs.YtihjlepgmppedaaGreatDoorW.PrintWords Go.Proofs.YtihjlepgmppedaaGreatDoorW.PrintLast Go.Proofs.YtihjlepgmppedaaGreatDoorW.PrintMore
set_option linter.unusedVariables false
set_option linter.unusedSimpArgs false

attribute [local go_sem high] eqA73
/-! ### impl_FieldsOfRule: function 17 -/
def impl_FieldsOfRule.l0 : Nat → List (S73) → List Int → Int → Option (List Int × Bool)
 | 0, _, _, _ => none
 | k + 1, x0, x4, x5 => if x5 < 5 then ((impl_Part_43.f k x0 1 x5).bind fun t511 => (if t511 = true then (if x4.length < 17592186044416 then (impl_FieldsOfRule.l0 k x0 (x4 ++ [x5]) (wrap64 (x5 + 1))) else (none)) else (impl_FieldsOfRule.l0 k x0 x4 (wrap64 (x5 + 1))))) else (some (x4, true))
def impl_FieldsOfRule.f (k : Nat) (l0 : List (S73)) : Option (List Int × Bool) := (impl_isRule.f k l0).bind fun t507 => (if t507 = true then (impl_FieldsOfRule.l0 k l0 (([] : List Int)) 0) else (some (([] : List Int), false)))
theorem impl_FieldsOfRule.calls (k : Nat) (A0 : Option Addr) (c0 : Nat) (l0 : List (S73)) (r1 : List Int) (r2 : Bool) (w : World) (hr0 : Kd.C k73 w A0 l0.length l0) (hc0 : l0.length ≤ c0) (h : impl_FieldsOfRule.f k l0 = some (r1, r2)) :
  Calls Tryz.prog 17 #[.slice A0 l0.length c0] w fun e w' => ∃ v0_ : Value, e = .returned (.tuple #[v0_, .bool r2]) ∧ Kd.R (Kd.int .i64) 3 w' w.heap.size (fun _ => True) v0_ r1 ∧ Below w.heap.size w w' := by
 have hu73 := Tryz.underlying73
 have HR0 := am_ hr0
 have HC0 := am_ hc0
 clear hr0 hc0
 have HB := am_ (Below.refl w.heap.size w)
 have H := h
 unfold impl_FieldsOfRule.f at H
 clear h
 revert H; refine bn_ ?_; rintro t507 A2 H; try dsimp only at H
 by_cases c3 : t507 = true
 ·subst c3
  rw [if_pos rfl] at H
  obtain ⟨y508, hy508⟩ : ∃ y_ : List Int, y_ = (([] : List Int)) := ⟨_, rfl⟩
  replace H : (impl_FieldsOfRule.l0 k l0 y508 0) = some (r1, r2) := by first | (rw [hy508]; with_reducible exact H) | (have H2_ := (Option.bind_some _ _).symm.trans H; rw [hy508]; with_reducible exact H2_) | (have H2_ := (Option.bind_some _ _).symm.trans H; with_reducible exact H2_) | with_reducible exact H | (rw [hy508]; exact H) | exact H
  have Ny508 := am_ hy508
  clear hy508
  have H' := am_ H
  clear H
  go_enter Tryz.func17, Tryz.ntmps17
  go_wp2_with (first | ((with_reducible refine gk_ 24 ?_); refine gq_ 7 Tryz.func24 #[.slice A0 l0.length c0] ?_; (with_reducible refine (impl_isRule.calls k _ _ l0 true _ ?side1 ?_ A2.out).mono ?_); (case side1 => repeat (first | exact HR0.out | (with_reducible refine Kd.C_alloc ?_ _) | (with_reducible refine Kd.C_drewN ?_ _) | (with_reducible refine Kd.C_drew ?_))); exact HC0.out; rintro e w4 ⟨rfl, hb⟩; refine ⟨_, rfl, ?_⟩; replace HB := hbs_ HB hb) | ((with_reducible refine gate_dst (N := 9) rfl ?_); refine Kd.R_lit (Kd.int .i64) _ 3 ?hg (N := 9) ?hd (xs := ([] : List Int)) (inner := []) (ok := fun _ => True) (okp := fun _ => True) ?hr ?hp (fun _ hk => hk) trivial (Below.refl _ _) (Nat.le_refl _) (by simp) ?_; (case hd => rfl); (case hg => rfl); (case hr => first | (go_simp; done) | (go_simp; rfl)); (case hp => exact (Reps.none _ _)); intro v509 w5 ho6 hb hg_ hnew_; clear hg_ hnew_; (first | rw [← Ny508.out] at ho6 | (simp only [Int.reduceToNat] at ho6; rw [← Ny508.out] at ho6)); have HO510 := Kd.R_lo ho6 HB; replace HB := hbs_ HB hb; clear hb ho6))
  go_loopg [4, 5] k (fun kq v4 v5 w' => ∃ (x4_1 : List Int) (x5_1 : Int), v5 = .int .i64 x5_1 ∧ Aside0 (impl_FieldsOfRule.l0 kq l0 x4_1 x5_1 = some (r1, r2)) ∧ Aside0 (kq ≤ k) ∧ Aside0 (Kd.R (Kd.int .i64) 3 w' w.heap.size (fun _ => True) v4 x4_1) ∧ Aside0 (Below w.heap.size w w'))
  case atStart => exact ⟨(y508), (0), sr_, H', ⟨Nat.le_refl _⟩, ⟨Kd.R_p HO510⟩, ⟨hb_ HB⟩⟩
  clear H'
  obtain ⟨x4_1, x5_1, rfl, HA, HK1, HO_4, HB⟩ := hrel
  cases gk with
  | zero => exact absurd HA.out (by simp [impl_FieldsOfRule.l0])
  | succ k1 => ?_
  have H := HA.out
  clear HA
  simp only [impl_FieldsOfRule.l0] at H
  by_cases c7 : x5_1 < 5
  case neg => rw [if_neg c7] at H; have c7b0 := decide_eq_false c7; clear c7; simp only [Option.some.injEq, Prod.mk.injEq] at H; obtain ⟨rfl, rfl⟩ := H; go_wp2; go_ret2; (exact ⟨_, se_, Kd.R_p HO_4, hb_ HB⟩)
  rw [if_pos c7] at H
  have c7b0 := decide_eq_true c7
  clear c7
  revert H; refine bn_ ?_; rintro t511 A8 H; try dsimp only at H
  by_cases c9 : t511 = true
  ·subst c9
   rw [if_pos rfl] at H
   revert H; refine pf_ fun c10 H => ?_
   have LMc10 := am_ c10
   clear c10
   obtain ⟨y512, hy512⟩ : ∃ y_ : List Int, y_ = (x4_1 ++ [x5_1]) := ⟨_, rfl⟩
   (try with_reducible replace H := (Option.bind_some _ _).symm.trans H); (try dsimp only at H); (try rw [← hy512] at H)
   have Ny512 := am_ hy512
   clear hy512
   have H' := am_ H
   clear H
   go_wp2_with (first | ((with_reducible refine gk_ 43 ?_); refine gq_ 17 Tryz.func43 #[.slice A0 l0.length c0, .agg #[.int .i64 1, .int .i64 x5_1]] ?_; (with_reducible refine (impl_Part_43.calls k1 _ _ l0 1 x5_1 true _ ?_ ?_ A8.out).mono ?_); exact Kd.C_w HR0 HB; exact HC0.out; rintro e w11 ⟨rfl, hb⟩; refine ⟨_, rfl, ?_⟩; replace HO_4 := Kd.R_b HO_4 hb; replace HB := hbs_ HB hb) | ((with_reducible refine gate_builtin (b := .append) (xs := #[.tmp 18, .tmp 20]) rfl ?_); at_builtin; refine Kd.R_append (Kd.int .i64) (w0 := w) w.heap.size rfl (.tmp 18) (.tmp 20) 36 3 (.int .i64 0) 8 rfl Tryz.underlying36 info3 rfl (by decide) (by omega) u4 x4_1 x5_1 [.int .i64 x5_1] (fun _ => True) (fun _ => False) rfl rfl ?aP (fun _ hk => hk.elim) ?aF ?aO ?aB ?aS ?aL ?_; (case aP => exact rfl); (case aB => exact (hb_ HB)); (case aF => exact (fun _ _ => trivial)); (case aO => exact (Kd.R_p HO_4)); (case aS => exact (below_size (hb_ HB))); (case aL => have := LMc10.out; omega); intro v513 w12 ho hb hg hat; rw [← Ny512.out] at ho; have HO514 := am_ (ho); replace HB := am_ (hb); clear HO_4; clear ho hb hg hat))
   go_roundg k1
   case measure => have := HK1.out; omega
   case rel => exact ⟨(y512), (wrap64 (x5_1 + 1)), sr_, H', ⟨by have := HK1.out; omega⟩, ⟨Kd.R_p HO514⟩, ⟨hb_ HB⟩⟩
  replace c9 := Bool.eq_false_iff.mpr c9
  subst c9
  rw [if_neg (show ¬ (false = true) by decide)] at H
  have H' := am_ H
  clear H
  go_wp2_with (first | ((with_reducible refine gk_ 43 ?_); refine gq_ 17 Tryz.func43 #[.slice A0 l0.length c0, .agg #[.int .i64 1, .int .i64 x5_1]] ?_; (with_reducible refine (impl_Part_43.calls k1 _ _ l0 1 x5_1 false _ ?_ ?_ A8.out).mono ?_); exact Kd.C_w HR0 HB; exact HC0.out; rintro e w13 ⟨rfl, hb⟩; refine ⟨_, rfl, ?_⟩; replace HO_4 := Kd.R_b HO_4 hb; replace HB := hbs_ HB hb))
  go_roundg k1
  case measure => have := HK1.out; omega
  case rel => exact ⟨(x4_1), (wrap64 (x5_1 + 1)), sr_, H', ⟨by have := HK1.out; omega⟩, ⟨Kd.R_p HO_4⟩, ⟨hb_ HB⟩⟩
 replace c3 := Bool.eq_false_iff.mpr c3
 subst c3
 rw [if_neg (show ¬ (false = true) by decide)] at H
 simp only [Option.some.injEq, Prod.mk.injEq] at H
 obtain ⟨rfl, rfl⟩ := H
 go_enter Tryz.func17, Tryz.ntmps17
 go_wp2_with (first | ((with_reducible refine gk_ 24 ?_); refine gq_ 7 Tryz.func24 #[.slice A0 l0.length c0] ?_; (with_reducible refine (impl_isRule.calls k _ _ l0 false _ ?side1 ?_ A2.out).mono ?_); (case side1 => repeat (first | exact HR0.out | (with_reducible refine Kd.C_alloc ?_ _) | (with_reducible refine Kd.C_drewN ?_ _) | (with_reducible refine Kd.C_drew ?_))); exact HC0.out; rintro e w14 ⟨rfl, hb⟩; refine ⟨_, rfl, ?_⟩; replace HB := hbs_ HB hb))
 go_ret2
 exact ⟨_, se_, by first | exact Kd.R_nil _ _ _ _ _ | exact Kd.N_nil _ _ _ _ _ | exact Kd.V_nil _ _ _ _ _ | exact Kd.Q_nil _ _ _ _ _ | exact Kd.S_nil _ _ _ _ _, hb_ HB⟩

/-! ### spec_l1Put: function 44 -/
def spec_l1Put.l0 : Nat → List Int → Int → Int → Option (List Int)
 | 0, _, _, _ => none
 | k + 1, x0, x1, x5 => if x5 < (x0.length : Int) then (if 0 ≤ x5 then (if (rd x0 x5) < x1 then (spec_l1Put.l0 k x0 x1 (wrap64 (x5 + 1))) else (if (rd x0 x5) = x1 then (some x0) else ((some (([] : List Int) : List Int)).bind fun y517 => (if x5 ≤ (x0.length : Int) then ((some (x0.take (x5 : Int).toNat : List Int)).bind fun y520 => (if y517.length + y520.length < 17592186044416 then ((some (y517 ++ y520 : List Int)).bind fun y524 => (if y524.length < 17592186044416 then ((some (y524 ++ [x1] : List Int)).bind fun y527 => ((some (x0.drop (x5 : Int).toNat : List Int)).bind fun y530 => (if y527.length + y530.length < 17592186044416 then (some (y527 ++ y530)) else (none)))) else (none))) else (none))) else (none))))) else (none)) else ((some (([] : List Int) : List Int)).bind fun y537 => (if 0 ≤ x5 then (if x5 ≤ (x0.length : Int) then ((some (x0.take (x5 : Int).toNat : List Int)).bind fun y540 => (if y537.length + y540.length < 17592186044416 then ((some (y537 ++ y540 : List Int)).bind fun y544 => (if y544.length < 17592186044416 then ((some (y544 ++ [x1] : List Int)).bind fun y547 => ((some (x0.drop (x5 : Int).toNat : List Int)).bind fun y550 => (if y547.length + y550.length < 17592186044416 then (some (y547 ++ y550)) else (none)))) else (none))) else (none))) else (none)) else (none)))
def spec_l1Put.f (k : Nat) (l0 : List Int) (a1 : Int) : Option (List Int) := spec_l1Put.l0 k l0 a1 0
theorem spec_l1Put.calls (k : Nat) (P0_ : Nat → Prop) (u9000_ : Value) (l0 : List Int) (a1 : Int) (r : List Int) (w0 w : World) (hB : Below w0.heap.size w0 w) (ho0 : Kd.R (Kd.int .i64) 3 w w0.heap.size P0_ u9000_ l0) (h : spec_l1Put.f k l0 a1 = some r) :
  Calls Tryz.prog 44 #[u9000_, .int .i64 a1] w fun e w' => ∃ v0_ : Value, e = .returned (v0_) ∧ Kd.R (Kd.int .i64) 3 w' w0.heap.size (fun k_ => (P0_ k_ ∨ w.heap.size ≤ k_)) v0_ r ∧ Below w0.heap.size w0 w' ∧ Kept w w' (fun k_ => P0_ k_) := by
 have HO0 := am_ (show Kd.R (Kd.int .i64) 3 w w0.heap.size (fun k_ => (P0_ k_ ∨ w.heap.size ≤ k_)) u9000_ l0 from Kd.R_mono ho0 (fun k_ hk => (.inl hk)))
 have HK := am_ (Kept.refl w (fun k_ => P0_ k_))
 have HW0 := am_ hB.size
 have HB := am_ hB
 clear hB
 have H := h
 unfold spec_l1Put.f at H
 clear h
 have H' := am_ H
 clear H
 go_enter Tryz.func44, Tryz.ntmps44
 go_wp2
 go_loopg [5] k (fun kq v5 w' => ∃ (x5_1 : Int), v5 = .int .i64 x5_1 ∧ Aside0 (spec_l1Put.l0 kq l0 a1 x5_1 = some r) ∧ Aside0 (kq ≤ k) ∧ Aside0 (Kd.R (Kd.int .i64) 3 w' w0.heap.size (fun k_ => (P0_ k_ ∨ w.heap.size ≤ k_)) u9000_ l0) ∧ Aside0 (Kept w w' (fun k_ => P0_ k_)) ∧ Aside0 (Below w0.heap.size w0 w'))
 case atStart => exact ⟨(0), sr_, H', ⟨Nat.le_refl _⟩, ⟨Kd.R_p HO0⟩, ⟨by repeat (first | (with_reducible first | exact HK.out | apply Kept.alloc | apply Kept.drewN | apply Kept.drew) | exact HK.out)⟩, ⟨hb_ HB⟩⟩
 clear H'
 obtain ⟨x5_1, rfl, HA, HK1, HO_0, HK, HB⟩ := hrel
 cases gk with
 | zero => exact absurd HA.out (by simp [spec_l1Put.l0])
 | succ k1 => ?_
 have H := HA.out
 clear HA
 simp only [spec_l1Put.l0] at H
 by_cases c3 : x5_1 < (l0.length : Int)
 ·rw [if_pos c3] at H
  have c3b0 := decide_eq_true c3
  clear c3
  revert H; refine pd_ fun c4b0 H => ?_
  by_cases c5 : (rd l0 x5_1) < a1
  ·rw [if_pos c5] at H
   have c5b0 := decide_eq_true c5
   clear c5
   have H' := am_ H
   clear H
   obtain ⟨Ao6, co6, eo6⟩ := Kd.R_slice HO_0.out
   subst eo6
   obtain ⟨ad515, e515, hx515_0, p515, q515⟩ := ai_ (Kd.R_reads' HO_0.out).2.2 x5_1
   cases e515
   go_wp2
   go_roundg k1
   case measure => have := HK1.out; omega
   case rel => exact ⟨(wrap64 (x5_1 + 1)), sr_, H', ⟨by have := HK1.out; omega⟩, ⟨Kd.R_p HO_0⟩, ⟨by repeat (first | (with_reducible first | exact HK.out | apply Kept.alloc | apply Kept.drewN | apply Kept.drew) | exact HK.out)⟩, ⟨hb_ HB⟩⟩
  rw [if_neg c5] at H
  have c5b0 := decide_eq_false c5
  clear c5
  by_cases c7 : (rd l0 x5_1) = a1
  ·rw [if_pos c7] at H
   have c7b0 : ((rd l0 x5_1) == a1) = true := beq_iff_eq.mpr c7
   have c7b1 : ((rd l0 x5_1) != a1) = false := bne_eq_false_iff_eq.mpr c7
   clear c7
   obtain rfl := Option.some.inj H
   obtain ⟨Ao8, co8, eo8⟩ := Kd.R_slice HO_0.out
   subst eo8
   obtain ⟨ad515, e515, hx515_0, p515, q515⟩ := ai_ (Kd.R_reads' HO_0.out).2.2 x5_1
   cases e515
   obtain ⟨ad516, e516, hx516_0, p516, q516⟩ := ai_ (Kd.R_reads' HO_0.out).2.2 x5_1
   obtain rfl : ad515 = ad516 := (by injection e516)
   go_wp2
   go_ret
   exact ⟨_, se_, Kd.R_p HO_0, hb_ HB, by repeat (first | (with_reducible first | exact HK.out | apply Kept.alloc | apply Kept.drewN | apply Kept.drew) | exact HK.out)⟩
  rw [if_neg c7] at H
  have c7b0 : ((rd l0 x5_1) == a1) = false := beq_eq_false_iff_ne.mpr c7
  have c7b1 : ((rd l0 x5_1) != a1) = true := bne_iff_ne.mpr c7
  obtain ⟨y517, hy517⟩ : ∃ y_ : List Int, y_ = (([] : List Int)) := ⟨_, rfl⟩
  replace H : (if x5_1 ≤ (l0.length : Int) then ((some (l0.take (x5_1 : Int).toNat : List Int)).bind fun y520 => (if y517.length + y520.length < 17592186044416 then ((some (y517 ++ y520 : List Int)).bind fun y524 => (if y524.length < 17592186044416 then ((some (y524 ++ [a1] : List Int)).bind fun y527 => ((some (l0.drop (x5_1 : Int).toNat : List Int)).bind fun y530 => (if y527.length + y530.length < 17592186044416 then (some (y527 ++ y530)) else (none)))) else (none))) else (none))) else (none)) = some r := by first | (rw [hy517]; with_reducible exact H) | (have H2_ := (Option.bind_some _ _).symm.trans H; rw [hy517]; with_reducible exact H2_) | (have H2_ := (Option.bind_some _ _).symm.trans H; with_reducible exact H2_) | with_reducible exact H | (rw [hy517]; exact H) | exact H
  have Ny517 := am_ hy517
  clear hy517
  have c9b0 := eq_true (od_ : 0 ≤ x5_1)
  revert H; refine pf_ fun c10 H => ?_
  have c10b0 := eq_true c10
  have c10b1 := decide_eq_true c10
  clear c10
  obtain ⟨y520, hy520⟩ : ∃ y_ : List Int, y_ = (l0.take (x5_1 : Int).toNat) := ⟨_, rfl⟩
  (try with_reducible replace H := (Option.bind_some _ _).symm.trans H); (try dsimp only at H); (try rw [← hy520] at H)
  have Ny520 := am_ hy520
  clear hy520
  revert H; refine pf_ fun c11 H => ?_
  have LMc11 := am_ c11
  clear c11
  obtain ⟨y524, hy524⟩ : ∃ y_ : List Int, y_ = (y517 ++ y520) := ⟨_, rfl⟩
  (try with_reducible replace H := (Option.bind_some _ _).symm.trans H); (try dsimp only at H); (try rw [← hy524] at H)
  have Ny524 := am_ hy524
  clear hy524
  revert H; refine pf_ fun c12 H => ?_
  have LMc12 := am_ c12
  clear c12
  obtain ⟨y527, hy527⟩ : ∃ y_ : List Int, y_ = (y524 ++ [a1]) := ⟨_, rfl⟩
  (try with_reducible replace H := (Option.bind_some _ _).symm.trans H); (try dsimp only at H); (try rw [← hy527] at H)
  have Ny527 := am_ hy527
  clear hy527
  have c13b0 := eq_true (od_ : 0 ≤ x5_1)
  have c14b0 := eq_true (od_ : x5_1 ≤ (l0.length : Int))
  obtain ⟨y530, hy530⟩ : ∃ y_ : List Int, y_ = (l0.drop (x5_1 : Int).toNat) := ⟨_, rfl⟩
  (try with_reducible replace H := (Option.bind_some _ _).symm.trans H); (try dsimp only at H); (try rw [← hy530] at H)
  have Ny530 := am_ hy530
  clear hy530
  revert H; refine pf_ fun c15 H => ?_
  have LMc15 := am_ c15
  clear c15
  obtain ⟨y534, hy534⟩ : ∃ y_ : List Int, y_ = (y527 ++ y530) := ⟨_, rfl⟩
  (try with_reducible replace H := (Option.bind_some _ _).symm.trans H); (try dsimp only at H); (try rw [← hy534] at H)
  have Ny534 := am_ hy534
  clear hy534
  obtain rfl := Option.some.inj H
  obtain ⟨Ao16, co16, eo16⟩ := Kd.R_slice HO_0.out
  subst eo16
  obtain ⟨ad515, e515, hx515_0, p515, q515⟩ := ai_ (Kd.R_reads' HO_0.out).2.2 x5_1
  cases e515
  obtain ⟨ad516, e516, hx516_0, p516, q516⟩ := ai_ (Kd.R_reads' HO_0.out).2.2 x5_1
  obtain rfl : ad515 = ad516 := (by injection e516)
  go_wp2_with (first | ((with_reducible refine gate_dst (N := 34) rfl ?_); refine Kd.R_lit (Kd.int .i64) _ 3 ?hg (N := 34) ?hd (xs := ([] : List Int)) (inner := []) (ok := fun _ => True) (okp := fun _ => True) ?hr ?hp (fun _ hk => hk) trivial (Below.refl _ _) (Nat.le_refl _) (by simp) ?_; (case hd => rfl); (case hg => rfl); (case hr => first | (go_simp; done) | (go_simp; rfl)); (case hp => exact (Reps.none _ _)); intro v518 w17 ho18 hb hg_ hnew_; clear hg_ hnew_; (first | rw [← Ny517.out] at ho18 | (simp only [Int.reduceToNat] at ho18; rw [← Ny517.out] at ho18)); have HO519 := Kd.R_lo (Kd.R_nw (Kd.R_newM (M := fun k_ => (P0_ k_ ∨ w.heap.size ≤ k_)) ho18 (by first | exact HK.out.1 | exact (show Kept w _ (fun k_ => P0_ k_) from by repeat (first | (with_reducible first | exact HK.out | apply Kept.alloc | apply Kept.drewN | apply Kept.drew) | exact HK.out)).1) (fun k_ h_ => .inr h_)) HO_0) HB; replace HO_0 := Kd.R_e HO_0 ho18 hb; replace HK := am_ (Kept.below (S := (fun k_ => P0_ k_)) (by repeat (first | (with_reducible first | exact HK.out | apply Kept.alloc | apply Kept.drewN | apply Kept.drew) | exact HK.out)) hb); replace HB := hbs_ HB hb; clear hb ho18; have q19 : (x5_1 : Int) ≤ ((l0.length : Int) : Int) := od_; obtain ⟨i019, hi019, _, hsz19, _⟩ := info_parts info3; have hroom19 : l0.length ≤ co16 := (Kd.R_reads' HO_0.out).2.1; have hC19 : Kd.C (Kd.int .i64) _ (some ad515) l0.length l0 := (Kd.R_reads' HO_0.out).2.2; have hcut19 := cut_to (P := Tryz.prog) 36 3 .i64 Tryz.underlying36 hi019 (some ad515) l0.length co16 x5_1 (od_) q19 hroom19; have hr19 := Kd.C_take (m := (x5_1 : Int).toNat) hC19 (by omega); have hy19 : y520.length = (x5_1 : Int).toNat := (by rw [Ny520.out, List.length_take]; omega); rw [← Ny520.out] at hr19; rw [← hy19] at hcut19; have HR523 := am_ hr19; have HC523 := am_ (show y520.length ≤ co16 from by omega); clear hr19 hC19 hroom19 hi019 hsz19; have KY19 := am_ hy19; clear hy19; have KL19 := am_ (show (x5_1 : Int).toNat ≤ l0.length from by omega); replace q19 := eq_true q19) | ((with_reducible refine gate_builtin (b := .append) (xs := #[.tmp 34, .tmp 37]) rfl ?_); at_builtin; refine Kd.R_append_rows (Kd.int .i64) (w0 := w0) w0.heap.size rfl (.tmp 34) (.tmp 37) 36 3 (.int .i64 0) 8 rfl Tryz.underlying36 info3 rfl (by decide) (by omega) v518 y517 y520 _ _ _ (fun k_ => (P0_ k_ ∨ w.heap.size ≤ k_) ∧ some k_ ≠ (.slice (some ad515) l0.length co16 : Value).ownBlock) (fun _ => False) rfl rfl ?aO ?aR (fun _ _ h => h) (fun _ h => h.elim) ?aF ?aB ?aS ?aL ?_; (case aR => repeat (first | exact (by repeat (first | (with_reducible exact HR523.out) | (with_reducible refine Kd.C_alloc ?_ _) | (with_reducible refine Kd.C_drewN ?_ _) | (with_reducible refine Kd.C_drew ?_) | exact HR523.out)) | (with_reducible refine Kd.C_alloc ?_ _) | (with_reducible refine Kd.C_drewN ?_ _) | (with_reducible refine Kd.C_drew ?_))); (case aB => exact (hb_ HB)); (case aF => exact (fun k_ hk => ⟨(.inr (Nat.le_trans (by first | exact HK.out.1 | exact (show Kept w _ (fun k_ => P0_ k_) from by repeat (first | (with_reducible first | exact HK.out | apply Kept.alloc | apply Kept.drewN | apply Kept.drew) | exact HK.out)).1) hk)), Kd.fresh' (Kd.R_lt (Kd.R_p HO_0)) k_ hk⟩)); (case aO => exact (rm_ (h := HO519.out))); (case aS => exact (below_size (hb_ HB))); (case aL => have := LMc11.out; omega); intro v525 w20 ho hb hg hat; rw [← Ny524.out] at ho; have HO526 := am_ (ho); replace HB := am_ (hb); replace HK := am_ (Kept.of_grown (S := (fun k_ => P0_ k_)) hg (by repeat (first | (with_reducible first | exact HK.out | apply Kept.alloc | apply Kept.drewN | apply Kept.drew) | exact HK.out)) (fun k_ e_ => (HO519.out.1 k_ e_).1.1)); replace HR523 := am_ ((show Kd.C (Kd.int .i64) w20 (some ad515) y520.length y520 from by rw [Ny520.out]; exact Kd.C_take (m := (x5_1 : Int).toNat) ((Kd.R_reads' (Kd.R_after (ok := (fun k_ => (P0_ k_ ∨ w.heap.size ≤ k_))) (Kd.R_p HO_0) hg hat)).2.2) KL19.out)); replace HO_0 := am_ (Kd.R_after (ok := (fun k_ => (P0_ k_ ∨ w.heap.size ≤ k_))) (Kd.R_p HO_0) hg hat); clear HO519; clear ho hb hg hat; try clear HR523) | ((with_reducible refine gate_builtin (b := .append) (xs := #[.tmp 39, .tmp 41]) rfl ?_); at_builtin; refine Kd.R_append (Kd.int .i64) (w0 := w0) w0.heap.size rfl (.tmp 39) (.tmp 41) 36 3 (.int .i64 0) 8 rfl Tryz.underlying36 info3 rfl (by decide) (by omega) v525 y524 a1 [.int .i64 a1] (fun k_ => (P0_ k_ ∨ w.heap.size ≤ k_) ∧ some k_ ≠ (.slice (some ad515) l0.length co16 : Value).ownBlock) (fun _ => False) rfl rfl ?aP (fun _ hk => hk.elim) ?aF ?aO ?aB ?aS ?aL ?_; (case aP => exact rfl); (case aB => exact (hb_ HB)); (case aF => exact (fun k_ hk => ⟨(.inr (Nat.le_trans (by first | exact HK.out.1 | exact (show Kept w _ (fun k_ => P0_ k_) from by repeat (first | (with_reducible first | exact HK.out | apply Kept.alloc | apply Kept.drewN | apply Kept.drew) | exact HK.out)).1) hk)), Kd.fresh' (Kd.R_lt (Kd.R_p HO_0)) k_ hk⟩)); (case aO => exact (Kd.R_p HO526)); (case aS => exact (below_size (hb_ HB))); (case aL => have := LMc12.out; omega); intro v528 w21 ho hb hg hat; rw [← Ny527.out] at ho; have HO529 := am_ (ho); replace HO_0 := am_ (Kd.R_after (ok := (fun k_ => (P0_ k_ ∨ w.heap.size ≤ k_))) (Kd.R_p HO_0) hg hat); replace HB := am_ (hb); replace HK := am_ (Kept.of_grown (S := (fun k_ => P0_ k_)) hg (by repeat (first | (with_reducible first | exact HK.out | apply Kept.alloc | apply Kept.drewN | apply Kept.drew) | exact HK.out)) (fun k_ e_ => (HO526.out.1 k_ e_).1)); clear HO526; clear ho hb hg hat; have q22 : (x5_1 : Int) ≤ ((l0.length : Int) : Int) := od_; obtain ⟨i022, hi022, _, hsz22, _⟩ := info_parts info3; have hroom22 : l0.length ≤ co16 := (Kd.R_reads' HO_0.out).2.1; have hC22 : Kd.C (Kd.int .i64) _ (some ad515) l0.length l0 := (Kd.R_reads' HO_0.out).2.2; have q022 : (0 : Int) ≤ (x5_1 : Int) := od_; have hcut22 := cut_from (P := Tryz.prog) 36 3 .i64 Tryz.underlying36 hi022 1 hsz22 (some ad515) l0.length co16 x5_1 q022 q22; have hr22 := Kd.C_drop (m := (x5_1 : Int).toNat) (c := co16) hC22 (by omega) hroom22; obtain ⟨A22, hA22⟩ : ∃ A1, A1 = (if co16 = (x5_1 : Int).toNat then (some ad515) else ((some ad515) : Option Addr).map (·.add ((x5_1 : Int).toNat * 1))) := ⟨_, rfl⟩; obtain ⟨c22, hc22⟩ : ∃ c1, c1 = co16 - (x5_1 : Int).toNat := ⟨_, rfl⟩; have hy22 : y530.length = l0.length - (x5_1 : Int).toNat := (by rw [Ny530.out, List.length_drop] <;> omega); rw [show (l0).drop (x5_1 : Int).toNat = y530 from Ny530.out.symm] at hr22; replace hr22 : Kd.C (Kd.int .i64) _ A22 y530.length y530 := (by rw [hA22]; exact hr22); rw [← hy22, ← hA22, ← hc22] at hcut22; have HR533 := am_ hr22; have HC533 := am_ (show y530.length ≤ c22 from by rw [hy22, hc22]; exact Nat.sub_le_sub_right hroom22 _); clear hr22 hC22 hroom22 hi022 hsz22 hc22; have KY22 := am_ hy22; have KA22 := am_ hA22; clear hy22 hA22; have KL22 := am_ (show (x5_1 : Int).toNat ≤ l0.length from by omega); replace q22 := eq_true q22) | ((with_reducible refine gate_builtin (b := .append) (xs := #[.tmp 43, .tmp 46]) rfl ?_); at_builtin; refine Kd.R_append_rows (Kd.int .i64) (w0 := w0) w0.heap.size rfl (.tmp 43) (.tmp 46) 36 3 (.int .i64 0) 8 rfl Tryz.underlying36 info3 rfl (by decide) (by omega) v528 y527 y530 _ _ _ (fun k_ => (P0_ k_ ∨ w.heap.size ≤ k_) ∧ some k_ ≠ (.slice (some ad515) l0.length co16 : Value).ownBlock) (fun _ => False) rfl rfl ?aO ?aR (fun _ _ h => h) (fun _ h => h.elim) ?aF ?aB ?aS ?aL ?_; (case aR => repeat (first | exact (by repeat (first | (with_reducible exact HR533.out) | (with_reducible refine Kd.C_alloc ?_ _) | (with_reducible refine Kd.C_drewN ?_ _) | (with_reducible refine Kd.C_drew ?_) | exact HR533.out)) | (with_reducible refine Kd.C_alloc ?_ _) | (with_reducible refine Kd.C_drewN ?_ _) | (with_reducible refine Kd.C_drew ?_))); (case aB => exact (hb_ HB)); (case aF => exact (fun k_ hk => ⟨(.inr (Nat.le_trans (by first | exact HK.out.1 | exact (show Kept w _ (fun k_ => P0_ k_) from by repeat (first | (with_reducible first | exact HK.out | apply Kept.alloc | apply Kept.drewN | apply Kept.drew) | exact HK.out)).1) hk)), Kd.fresh' (Kd.R_lt (Kd.R_p HO_0)) k_ hk⟩)); (case aO => exact (Kd.R_p HO529)); (case aS => exact (below_size (hb_ HB))); (case aL => have := LMc15.out; omega); intro v535 w23 ho hb hg hat; rw [← Ny534.out] at ho; have HO536 := am_ (ho); replace HB := am_ (hb); replace HK := am_ (Kept.of_grown (S := (fun k_ => P0_ k_)) hg (by repeat (first | (with_reducible first | exact HK.out | apply Kept.alloc | apply Kept.drewN | apply Kept.drew) | exact HK.out)) (fun k_ e_ => (HO529.out.1 k_ e_).1)); replace HR533 := am_ ((show Kd.C (Kd.int .i64) w23 A22 y530.length y530 from by rw [Ny530.out, KA22.out]; exact Kd.C_drop (m := (x5_1 : Int).toNat) (c := co16) ((Kd.R_reads' (Kd.R_after (ok := (fun k_ => (P0_ k_ ∨ w.heap.size ≤ k_))) (Kd.R_p HO_0) hg hat)).2.2) KL22.out ((Kd.R_reads' (Kd.R_after (ok := (fun k_ => (P0_ k_ ∨ w.heap.size ≤ k_))) (Kd.R_p HO_0) hg hat)).2.1))); replace HO_0 := am_ (Kd.R_after (ok := (fun k_ => (P0_ k_ ∨ w.heap.size ≤ k_))) (Kd.R_p HO_0) hg hat); clear HO529; clear ho hb hg hat))
  go_ret
  exact ⟨_, se_, rm_ (h := HO536.out), hb_ HB, by repeat (first | (with_reducible first | exact HK.out | apply Kept.alloc | apply Kept.drewN | apply Kept.drew) | exact HK.out)⟩
 rw [if_neg c3] at H
 have c3b0 := decide_eq_false c3
 clear c3
 obtain ⟨y537, hy537⟩ : ∃ y_ : List Int, y_ = (([] : List Int)) := ⟨_, rfl⟩
 replace H : (if 0 ≤ x5_1 then (if x5_1 ≤ (l0.length : Int) then ((some (l0.take (x5_1 : Int).toNat : List Int)).bind fun y540 => (if y537.length + y540.length < 17592186044416 then ((some (y537 ++ y540 : List Int)).bind fun y544 => (if y544.length < 17592186044416 then ((some (y544 ++ [a1] : List Int)).bind fun y547 => ((some (l0.drop (x5_1 : Int).toNat : List Int)).bind fun y550 => (if y547.length + y550.length < 17592186044416 then (some (y547 ++ y550)) else (none)))) else (none))) else (none))) else (none)) else (none)) = some r := by first | (rw [hy537]; with_reducible exact H) | (have H2_ := (Option.bind_some _ _).symm.trans H; rw [hy537]; with_reducible exact H2_) | (have H2_ := (Option.bind_some _ _).symm.trans H; with_reducible exact H2_) | with_reducible exact H | (rw [hy537]; exact H) | exact H
 have Ny537 := am_ hy537
 clear hy537
 revert H; refine pf_ fun c24 H => ?_
 have c24b0 := eq_true c24
 have c24b1 := decide_eq_true c24
 clear c24
 revert H; refine pf_ fun c25 H => ?_
 have c25b0 := eq_true c25
 have c25b1 := decide_eq_true c25
 clear c25
 obtain ⟨y540, hy540⟩ : ∃ y_ : List Int, y_ = (l0.take (x5_1 : Int).toNat) := ⟨_, rfl⟩
 (try with_reducible replace H := (Option.bind_some _ _).symm.trans H); (try dsimp only at H); (try rw [← hy540] at H)
 have Ny540 := am_ hy540
 clear hy540
 revert H; refine pf_ fun c26 H => ?_
 have LMc26 := am_ c26
 clear c26
 obtain ⟨y544, hy544⟩ : ∃ y_ : List Int, y_ = (y537 ++ y540) := ⟨_, rfl⟩
 (try with_reducible replace H := (Option.bind_some _ _).symm.trans H); (try dsimp only at H); (try rw [← hy544] at H)
 have Ny544 := am_ hy544
 clear hy544
 revert H; refine pf_ fun c27 H => ?_
 have LMc27 := am_ c27
 clear c27
 obtain ⟨y547, hy547⟩ : ∃ y_ : List Int, y_ = (y544 ++ [a1]) := ⟨_, rfl⟩
 (try with_reducible replace H := (Option.bind_some _ _).symm.trans H); (try dsimp only at H); (try rw [← hy547] at H)
 have Ny547 := am_ hy547
 clear hy547
 have c28b0 := eq_true (od_ : 0 ≤ x5_1)
 have c29b0 := eq_true (od_ : x5_1 ≤ (l0.length : Int))
 obtain ⟨y550, hy550⟩ : ∃ y_ : List Int, y_ = (l0.drop (x5_1 : Int).toNat) := ⟨_, rfl⟩
 (try with_reducible replace H := (Option.bind_some _ _).symm.trans H); (try dsimp only at H); (try rw [← hy550] at H)
 have Ny550 := am_ hy550
 clear hy550
 revert H; refine pf_ fun c30 H => ?_
 have LMc30 := am_ c30
 clear c30
 obtain ⟨y554, hy554⟩ : ∃ y_ : List Int, y_ = (y547 ++ y550) := ⟨_, rfl⟩
 (try with_reducible replace H := (Option.bind_some _ _).symm.trans H); (try dsimp only at H); (try rw [← hy554] at H)
 have Ny554 := am_ hy554
 clear hy554
 obtain rfl := Option.some.inj H
 obtain ⟨Ao31, co31, eo31⟩ := Kd.R_slice HO_0.out
 subst eo31
 go_wp2_with (first | ((with_reducible refine gate_dst (N := 34) rfl ?_); refine Kd.R_lit (Kd.int .i64) _ 3 ?hg (N := 34) ?hd (xs := ([] : List Int)) (inner := []) (ok := fun _ => True) (okp := fun _ => True) ?hr ?hp (fun _ hk => hk) trivial (Below.refl _ _) (Nat.le_refl _) (by simp) ?_; (case hd => rfl); (case hg => rfl); (case hr => first | (go_simp; done) | (go_simp; rfl)); (case hp => exact (Reps.none _ _)); intro v538 w32 ho33 hb hg_ hnew_; clear hg_ hnew_; (first | rw [← Ny537.out] at ho33 | (simp only [Int.reduceToNat] at ho33; rw [← Ny537.out] at ho33)); have HO539 := Kd.R_lo (Kd.R_nw (Kd.R_newM (M := fun k_ => (P0_ k_ ∨ w.heap.size ≤ k_)) ho33 (by first | exact HK.out.1 | exact (show Kept w _ (fun k_ => P0_ k_) from by repeat (first | (with_reducible first | exact HK.out | apply Kept.alloc | apply Kept.drewN | apply Kept.drew) | exact HK.out)).1) (fun k_ h_ => .inr h_)) HO_0) HB; replace HO_0 := Kd.R_e HO_0 ho33 hb; replace HK := am_ (Kept.below (S := (fun k_ => P0_ k_)) (by repeat (first | (with_reducible first | exact HK.out | apply Kept.alloc | apply Kept.drewN | apply Kept.drew) | exact HK.out)) hb); replace HB := hbs_ HB hb; clear hb ho33; have q34 : (x5_1 : Int) ≤ ((l0.length : Int) : Int) := od_; obtain ⟨i034, hi034, _, hsz34, _⟩ := info_parts info3; have hroom34 : l0.length ≤ co31 := (Kd.R_reads' HO_0.out).2.1; have hC34 : Kd.C (Kd.int .i64) _ Ao31 l0.length l0 := (Kd.R_reads' HO_0.out).2.2; have hcut34 := cut_to (P := Tryz.prog) 36 3 .i64 Tryz.underlying36 hi034 Ao31 l0.length co31 x5_1 (od_) q34 hroom34; have hr34 := Kd.C_take (m := (x5_1 : Int).toNat) hC34 (by omega); have hy34 : y540.length = (x5_1 : Int).toNat := (by rw [Ny540.out, List.length_take]; omega); rw [← Ny540.out] at hr34; rw [← hy34] at hcut34; have HR543 := am_ hr34; have HC543 := am_ (show y540.length ≤ co31 from by omega); clear hr34 hC34 hroom34 hi034 hsz34; have KY34 := am_ hy34; clear hy34; have KL34 := am_ (show (x5_1 : Int).toNat ≤ l0.length from by omega); replace q34 := eq_true q34) | ((with_reducible refine gate_builtin (b := .append) (xs := #[.tmp 34, .tmp 37]) rfl ?_); at_builtin; refine Kd.R_append_rows (Kd.int .i64) (w0 := w0) w0.heap.size rfl (.tmp 34) (.tmp 37) 36 3 (.int .i64 0) 8 rfl Tryz.underlying36 info3 rfl (by decide) (by omega) v538 y537 y540 _ _ _ (fun k_ => (P0_ k_ ∨ w.heap.size ≤ k_) ∧ some k_ ≠ (.slice Ao31 l0.length co31 : Value).ownBlock) (fun _ => False) rfl rfl ?aO ?aR (fun _ _ h => h) (fun _ h => h.elim) ?aF ?aB ?aS ?aL ?_; (case aR => repeat (first | exact (by repeat (first | (with_reducible exact HR543.out) | (with_reducible refine Kd.C_alloc ?_ _) | (with_reducible refine Kd.C_drewN ?_ _) | (with_reducible refine Kd.C_drew ?_) | exact HR543.out)) | (with_reducible refine Kd.C_alloc ?_ _) | (with_reducible refine Kd.C_drewN ?_ _) | (with_reducible refine Kd.C_drew ?_))); (case aB => exact (hb_ HB)); (case aF => exact (fun k_ hk => ⟨(.inr (Nat.le_trans (by first | exact HK.out.1 | exact (show Kept w _ (fun k_ => P0_ k_) from by repeat (first | (with_reducible first | exact HK.out | apply Kept.alloc | apply Kept.drewN | apply Kept.drew) | exact HK.out)).1) hk)), Kd.fresh' (Kd.R_lt (Kd.R_p HO_0)) k_ hk⟩)); (case aO => exact (rm_ (h := HO539.out))); (case aS => exact (below_size (hb_ HB))); (case aL => have := LMc26.out; omega); intro v545 w35 ho hb hg hat; rw [← Ny544.out] at ho; have HO546 := am_ (ho); replace HB := am_ (hb); replace HK := am_ (Kept.of_grown (S := (fun k_ => P0_ k_)) hg (by repeat (first | (with_reducible first | exact HK.out | apply Kept.alloc | apply Kept.drewN | apply Kept.drew) | exact HK.out)) (fun k_ e_ => (HO539.out.1 k_ e_).1.1)); replace HR543 := am_ ((show Kd.C (Kd.int .i64) w35 Ao31 y540.length y540 from by rw [Ny540.out]; exact Kd.C_take (m := (x5_1 : Int).toNat) ((Kd.R_reads' (Kd.R_after (ok := (fun k_ => (P0_ k_ ∨ w.heap.size ≤ k_))) (Kd.R_p HO_0) hg hat)).2.2) KL34.out)); replace HO_0 := am_ (Kd.R_after (ok := (fun k_ => (P0_ k_ ∨ w.heap.size ≤ k_))) (Kd.R_p HO_0) hg hat); clear HO539; clear ho hb hg hat; try clear HR543) | ((with_reducible refine gate_builtin (b := .append) (xs := #[.tmp 39, .tmp 41]) rfl ?_); at_builtin; refine Kd.R_append (Kd.int .i64) (w0 := w0) w0.heap.size rfl (.tmp 39) (.tmp 41) 36 3 (.int .i64 0) 8 rfl Tryz.underlying36 info3 rfl (by decide) (by omega) v545 y544 a1 [.int .i64 a1] (fun k_ => (P0_ k_ ∨ w.heap.size ≤ k_) ∧ some k_ ≠ (.slice Ao31 l0.length co31 : Value).ownBlock) (fun _ => False) rfl rfl ?aP (fun _ hk => hk.elim) ?aF ?aO ?aB ?aS ?aL ?_; (case aP => exact rfl); (case aB => exact (hb_ HB)); (case aF => exact (fun k_ hk => ⟨(.inr (Nat.le_trans (by first | exact HK.out.1 | exact (show Kept w _ (fun k_ => P0_ k_) from by repeat (first | (with_reducible first | exact HK.out | apply Kept.alloc | apply Kept.drewN | apply Kept.drew) | exact HK.out)).1) hk)), Kd.fresh' (Kd.R_lt (Kd.R_p HO_0)) k_ hk⟩)); (case aO => exact (Kd.R_p HO546)); (case aS => exact (below_size (hb_ HB))); (case aL => have := LMc27.out; omega); intro v548 w36 ho hb hg hat; rw [← Ny547.out] at ho; have HO549 := am_ (ho); replace HO_0 := am_ (Kd.R_after (ok := (fun k_ => (P0_ k_ ∨ w.heap.size ≤ k_))) (Kd.R_p HO_0) hg hat); replace HB := am_ (hb); replace HK := am_ (Kept.of_grown (S := (fun k_ => P0_ k_)) hg (by repeat (first | (with_reducible first | exact HK.out | apply Kept.alloc | apply Kept.drewN | apply Kept.drew) | exact HK.out)) (fun k_ e_ => (HO546.out.1 k_ e_).1)); clear HO546; clear ho hb hg hat; have q37 : (x5_1 : Int) ≤ ((l0.length : Int) : Int) := od_; obtain ⟨i037, hi037, _, hsz37, _⟩ := info_parts info3; have hroom37 : l0.length ≤ co31 := (Kd.R_reads' HO_0.out).2.1; have hC37 : Kd.C (Kd.int .i64) _ Ao31 l0.length l0 := (Kd.R_reads' HO_0.out).2.2; have q037 : (0 : Int) ≤ (x5_1 : Int) := od_; have hcut37 := cut_from (P := Tryz.prog) 36 3 .i64 Tryz.underlying36 hi037 1 hsz37 Ao31 l0.length co31 x5_1 q037 q37; have hr37 := Kd.C_drop (m := (x5_1 : Int).toNat) (c := co31) hC37 (by omega) hroom37; obtain ⟨A37, hA37⟩ : ∃ A1, A1 = (if co31 = (x5_1 : Int).toNat then Ao31 else (Ao31 : Option Addr).map (·.add ((x5_1 : Int).toNat * 1))) := ⟨_, rfl⟩; obtain ⟨c37, hc37⟩ : ∃ c1, c1 = co31 - (x5_1 : Int).toNat := ⟨_, rfl⟩; have hy37 : y550.length = l0.length - (x5_1 : Int).toNat := (by rw [Ny550.out, List.length_drop] <;> omega); rw [show (l0).drop (x5_1 : Int).toNat = y550 from Ny550.out.symm] at hr37; replace hr37 : Kd.C (Kd.int .i64) _ A37 y550.length y550 := (by rw [hA37]; exact hr37); rw [← hy37, ← hA37, ← hc37] at hcut37; have HR553 := am_ hr37; have HC553 := am_ (show y550.length ≤ c37 from by rw [hy37, hc37]; exact Nat.sub_le_sub_right hroom37 _); clear hr37 hC37 hroom37 hi037 hsz37 hc37; have KY37 := am_ hy37; have KA37 := am_ hA37; clear hy37 hA37; have KL37 := am_ (show (x5_1 : Int).toNat ≤ l0.length from by omega); replace q37 := eq_true q37) | ((with_reducible refine gate_builtin (b := .append) (xs := #[.tmp 43, .tmp 46]) rfl ?_); at_builtin; refine Kd.R_append_rows (Kd.int .i64) (w0 := w0) w0.heap.size rfl (.tmp 43) (.tmp 46) 36 3 (.int .i64 0) 8 rfl Tryz.underlying36 info3 rfl (by decide) (by omega) v548 y547 y550 _ _ _ (fun k_ => (P0_ k_ ∨ w.heap.size ≤ k_) ∧ some k_ ≠ (.slice Ao31 l0.length co31 : Value).ownBlock) (fun _ => False) rfl rfl ?aO ?aR (fun _ _ h => h) (fun _ h => h.elim) ?aF ?aB ?aS ?aL ?_; (case aR => repeat (first | exact (by repeat (first | (with_reducible exact HR553.out) | (with_reducible refine Kd.C_alloc ?_ _) | (with_reducible refine Kd.C_drewN ?_ _) | (with_reducible refine Kd.C_drew ?_) | exact HR553.out)) | (with_reducible refine Kd.C_alloc ?_ _) | (with_reducible refine Kd.C_drewN ?_ _) | (with_reducible refine Kd.C_drew ?_))); (case aB => exact (hb_ HB)); (case aF => exact (fun k_ hk => ⟨(.inr (Nat.le_trans (by first | exact HK.out.1 | exact (show Kept w _ (fun k_ => P0_ k_) from by repeat (first | (with_reducible first | exact HK.out | apply Kept.alloc | apply Kept.drewN | apply Kept.drew) | exact HK.out)).1) hk)), Kd.fresh' (Kd.R_lt (Kd.R_p HO_0)) k_ hk⟩)); (case aO => exact (Kd.R_p HO549)); (case aS => exact (below_size (hb_ HB))); (case aL => have := LMc30.out; omega); intro v555 w38 ho hb hg hat; rw [← Ny554.out] at ho; have HO556 := am_ (ho); replace HB := am_ (hb); replace HK := am_ (Kept.of_grown (S := (fun k_ => P0_ k_)) hg (by repeat (first | (with_reducible first | exact HK.out | apply Kept.alloc | apply Kept.drewN | apply Kept.drew) | exact HK.out)) (fun k_ e_ => (HO549.out.1 k_ e_).1)); replace HR553 := am_ ((show Kd.C (Kd.int .i64) w38 A37 y550.length y550 from by rw [Ny550.out, KA37.out]; exact Kd.C_drop (m := (x5_1 : Int).toNat) (c := co31) ((Kd.R_reads' (Kd.R_after (ok := (fun k_ => (P0_ k_ ∨ w.heap.size ≤ k_))) (Kd.R_p HO_0) hg hat)).2.2) KL37.out ((Kd.R_reads' (Kd.R_after (ok := (fun k_ => (P0_ k_ ∨ w.heap.size ≤ k_))) (Kd.R_p HO_0) hg hat)).2.1))); replace HO_0 := am_ (Kd.R_after (ok := (fun k_ => (P0_ k_ ∨ w.heap.size ≤ k_))) (Kd.R_p HO_0) hg hat); clear HO549; clear ho hb hg hat))
 go_ret
 exact ⟨_, se_, rm_ (h := HO556.out), hb_ HB, by repeat (first | (with_reducible first | exact HK.out | apply Kept.alloc | apply Kept.drewN | apply Kept.drew) | exact HK.out)⟩

/-! ### spec_FieldsOfRule: function 18 -/
def spec_FieldsOfRule.l0 : Nat → List Int → List (S73) → Int → Int → Option (List Int × Bool)
 | 0, _, _, _, _ => none
 | k + 1, x4, x10, x11, x12 => if x12 < x11 then (if 0 ≤ x12 then (if x12 < (x10.length : Int) then (if ((rd_T73 x10 x12).f0) = 1 then ((spec_l1Put.f k x4 ((rd_T73 x10 x12).f1)).bind fun t560 => (spec_FieldsOfRule.l0 k t560 x10 x11 (wrap64 (x12 + 1)))) else (spec_FieldsOfRule.l0 k x4 x10 x11 (wrap64 (x12 + 1)))) else (none)) else (none)) else (some (x4, true))
def spec_FieldsOfRule.f (k : Nat) (l0 : List (S73)) : Option (List Int × Bool) := (spec_ruGood.f k l0).bind fun t557 => (if t557 = true then (spec_FieldsOfRule.l0 k ([] : List Int) l0 (l0.length : Int) 0) else (some (([] : List Int), false)))
theorem spec_FieldsOfRule.calls (k : Nat) (A0 : Option Addr) (c0 : Nat) (l0 : List (S73)) (r1 : List Int) (r2 : Bool) (w : World) (hr0 : Kd.C k73 w A0 l0.length l0) (hc0 : l0.length ≤ c0) (h : spec_FieldsOfRule.f k l0 = some (r1, r2)) :
  Calls Tryz.prog 18 #[.slice A0 l0.length c0] w fun e w' => ∃ v0_ : Value, e = .returned (.tuple #[v0_, .bool r2]) ∧ Kd.R (Kd.int .i64) 3 w' w.heap.size (fun _ => True) v0_ r1 ∧ Below w.heap.size w w' := by
 have hu73 := Tryz.underlying73
 have HR0 := am_ hr0
 have HC0 := am_ hc0
 clear hr0 hc0
 have HB := am_ (Below.refl w.heap.size w)
 have H := h
 unfold spec_FieldsOfRule.f at H
 clear h
 revert H; refine bn_ ?_; rintro t557 A2 H; try dsimp only at H
 by_cases c3 : t557 = true
 ·subst c3
  rw [if_pos rfl] at H
  have H' := am_ H
  clear H
  go_enter Tryz.func18, Tryz.ntmps18
  go_wp2_with (first | ((with_reducible refine gk_ 26 ?_); refine gq_ 8 Tryz.func26 #[.slice A0 l0.length c0] ?_; (with_reducible refine (spec_ruGood.calls k _ _ l0 true _ ?side1 ?_ A2.out).mono ?_); (case side1 => repeat (first | exact HR0.out | (with_reducible refine Kd.C_alloc ?_ _) | (with_reducible refine Kd.C_drewN ?_ _) | (with_reducible refine Kd.C_drew ?_))); exact HC0.out; rintro e w4 ⟨rfl, hb⟩; refine ⟨_, rfl, ?_⟩; replace HB := hbs_ HB hb))
  go_loopg [4, 12] k (fun kq v4 v12 w' => ∃ (x4_1 : List Int) (x12_1 : Int), v12 = .int .i64 x12_1 ∧ Aside0 (spec_FieldsOfRule.l0 kq x4_1 l0 (l0.length : Int) x12_1 = some (r1, r2)) ∧ Aside0 (kq ≤ k) ∧ Aside0 (Kd.R (Kd.int .i64) 3 w' w.heap.size (fun _ => True) v4 x4_1) ∧ Aside0 (Below w.heap.size w w'))
  case atStart => exact ⟨(([] : List Int)), (0), sr_, H', ⟨Nat.le_refl _⟩, ⟨by first | exact Kd.R_nil _ _ _ _ _ | exact Kd.N_nil _ _ _ _ _ | exact Kd.V_nil _ _ _ _ _ | exact Kd.Q_nil _ _ _ _ _ | exact Kd.S_nil _ _ _ _ _⟩, ⟨hb_ HB⟩⟩
  clear H'
  obtain ⟨x4_1, x12_1, rfl, HA, HK1, HO_4, HB⟩ := hrel
  cases gk with
  | zero => exact absurd HA.out (by simp [spec_FieldsOfRule.l0])
  | succ k1 => ?_
  have H := HA.out
  clear HA
  simp only [spec_FieldsOfRule.l0] at H
  by_cases c5 : x12_1 < (l0.length : Int)
  case neg => rw [if_neg c5] at H; have c5b0 := decide_eq_false c5; clear c5; simp only [Option.some.injEq, Prod.mk.injEq] at H; obtain ⟨rfl, rfl⟩ := H; go_wp2; go_ret2; (exact ⟨_, se_, Kd.R_p HO_4, hb_ HB⟩)
  rw [if_pos c5] at H
  have c5b0 := decide_eq_true c5
  clear c5
  revert H; refine pd_ fun c6b0 H => ?_
  revert H; refine pd_ fun c7b0 H => ?_
  by_cases c8 : ((rd_T73 l0 x12_1).f0) = 1
  ·rw [if_pos c8] at H
   have c8b0 : (((rd_T73 l0 x12_1).f0) == 1) = true := beq_iff_eq.mpr c8
   have c8b1 : (((rd_T73 l0 x12_1).f0) != 1) = false := bne_eq_false_iff_eq.mpr c8
   clear c8
   revert H; refine bn_ ?_; rintro t560 A9 H; try dsimp only at H
   have H' := am_ H
   clear H
   have p558 : 0 ≤ (x12_1 : Int) := od_
   have q558 : x12_1 < (l0.length : Int) := od_
   obtain ⟨ad558, e558, hx558_0, hx558_1⟩ := at_T73 HR0.out x12_1 p558 q558
   cases e558
   replace hx558_0 := hc_ HB hx558_0
   replace hx558_1 := hc_ HB hx558_1
   replace p558 := eq_true p558
   replace q558 := eq_true q558
   go_wp2_with (first | ((with_reducible refine gate_dst (N := 6) rfl ?_); refine bv_ 6 (cs := #[.int .i64 0, .int .i64 0]) (t := 73) ?_; intro gb559 hg w10 hbox hb; have BK559 := am_ (hbox); have GW559 := gs_ hg HB; have GE559 := gs_ hg HB; replace HO_4 := Kd.R_b HO_4 hb; replace HB := hbs_ HB hb; clear hb hbox hg; obtain ⟨hcz11_0, hcz11_1, hfz11_0, hfz11_1⟩ := bx2 BK559) | ((with_reducible refine gate_store (t := 73) (p := 6) rfl ?_); refine store_event (t := 73) (p := 6) (v := ?vo_w12) (w1 := ((w10.setCell ⟨gb559, 0, none⟩ (.int .i64 ((rd_T73 l0 x12_1).f0))).setCell ⟨gb559, 1, none⟩ (.int .i64 ((rd_T73 l0 x12_1).f1)))) ?hg ?ho ?hn ?hr ?_; (case ho => rfl); (case hg => rfl); (case hn => rfl); (case hr => first | (go_simp; done) | (go_simp; rfl)); intro w12 hw; have n0_ : Aside0 (Kd.R (Kd.int .i64) 3 w12 w.heap.size (fun _ => True) u4 x4_1) := ⟨(by rw [hw]; exact (Kd.R_mono (Kd.R_s HO_4 BK559) (fun _ hk => trivial)))⟩; have n1_ : Aside0 (w12.heap[gb559]? = some (.cells #[.int .i64 ((rd_T73 l0 x12_1).f0), .int .i64 ((rd_T73 l0 x12_1).f1)] 73 (0, 0))) := ⟨(by rw [hw]; exact (kpq_ (kputs BK559 [(0, _), (1, _)])))⟩; have n2_ : Aside0 (Below w.heap.size w w12) := ⟨(by rw [hw]; exact (hb_ HB))⟩; clear hw HO_4 BK559 HB; have HO_4 := n0_; have BK559 := n1_; have HB := n2_; clear n0_ n1_ n2_; obtain ⟨hcz13_0, hcz13_1, hfz13_0, hfz13_1⟩ := bx2 BK559; obtain ⟨Ao14, co14, eo14⟩ := Kd.R_slice HO_4.out; subst eo14) | ((with_reducible refine gk_ 44 ?_); refine gq_ 22 Tryz.func44 #[.slice Ao14 x4_1.length co14, .int .i64 ((rd_T73 l0 x12_1).f1)] ?_; (with_reducible refine (spec_l1Put.calls k1 (fun k_ => some k_ = (.slice Ao14 x4_1.length co14 : Value).ownBlock) (.slice Ao14 x4_1.length co14) x4_1 ((rd_T73 l0 x12_1).f1) t560 w _ ?_ ?_ A9.out).mono ?_); exact hb_ HB; exact Kd.R_tight rfl HO_4.out; rintro e w15 ⟨v561, rfl, ho0, hb, hkp⟩; refine ⟨_, rfl, ?_⟩; have HO562 := am_ (Kd.R_mono (ok' := fun k_ => True) ho0 (fun k_ hk_ => trivial)); replace BK559 := am_ (blk_kept (kp_ BK559) hkp (fun hs_ => (fun e_ => (Kd.R_ne HO_4.out BK559.out (by decide)) e_) hs_)); replace HB := am_ (hb); clear HO_4))
   go_roundg k1
   case measure => have := HK1.out; omega
   case rel => exact ⟨(t560), (wrap64 (x12_1 + 1)), sr_, H', ⟨by have := HK1.out; omega⟩, ⟨Kd.R_p HO562⟩, ⟨hb_ HB⟩⟩
  rw [if_neg c8] at H
  have c8b0 : (((rd_T73 l0 x12_1).f0) == 1) = false := beq_eq_false_iff_ne.mpr c8
  have c8b1 : (((rd_T73 l0 x12_1).f0) != 1) = true := bne_iff_ne.mpr c8
  have H' := am_ H
  clear H
  have p558 : 0 ≤ (x12_1 : Int) := od_
  have q558 : x12_1 < (l0.length : Int) := od_
  obtain ⟨ad558, e558, hx558_0, hx558_1⟩ := at_T73 HR0.out x12_1 p558 q558
  cases e558
  replace hx558_0 := hc_ HB hx558_0
  replace hx558_1 := hc_ HB hx558_1
  replace p558 := eq_true p558
  replace q558 := eq_true q558
  go_wp2_with (first | ((with_reducible refine gate_dst (N := 6) rfl ?_); refine bv_ 6 (cs := #[.int .i64 0, .int .i64 0]) (t := 73) ?_; intro gb559 hg w16 hbox hb; have BK559 := am_ (hbox); have GW559 := gs_ hg HB; have GE559 := gs_ hg HB; replace HO_4 := Kd.R_b HO_4 hb; replace HB := hbs_ HB hb; clear hb hbox hg; obtain ⟨hcz17_0, hcz17_1, hfz17_0, hfz17_1⟩ := bx2 BK559))
  go_roundg k1
  case measure => have := HK1.out; omega
  case rel => exact ⟨(x4_1), (wrap64 (x12_1 + 1)), sr_, H', ⟨by have := HK1.out; omega⟩, ⟨Kd.R_mono (Kd.R_s HO_4 BK559) (fun _ hk => trivial)⟩, ⟨hb_ HB⟩⟩
 replace c3 := Bool.eq_false_iff.mpr c3
 subst c3
 rw [if_neg (show ¬ (false = true) by decide)] at H
 simp only [Option.some.injEq, Prod.mk.injEq] at H
 obtain ⟨rfl, rfl⟩ := H
 go_enter Tryz.func18, Tryz.ntmps18
 go_wp2_with (first | ((with_reducible refine gk_ 26 ?_); refine gq_ 8 Tryz.func26 #[.slice A0 l0.length c0] ?_; (with_reducible refine (spec_ruGood.calls k _ _ l0 false _ ?side1 ?_ A2.out).mono ?_); (case side1 => repeat (first | exact HR0.out | (with_reducible refine Kd.C_alloc ?_ _) | (with_reducible refine Kd.C_drewN ?_ _) | (with_reducible refine Kd.C_drew ?_))); exact HC0.out; rintro e w18 ⟨rfl, hb⟩; refine ⟨_, rfl, ?_⟩; replace HB := hbs_ HB hb))
 go_ret2
 exact ⟨_, se_, by first | exact Kd.R_nil _ _ _ _ _ | exact Kd.N_nil _ _ _ _ _ | exact Kd.V_nil _ _ _ _ _ | exact Kd.Q_nil _ _ _ _ _ | exact Kd.S_nil _ _ _ _ _, hb_ HB⟩

/-! ### laws_qParts: function 19 -/
def laws_qParts.l0 : Nat → List (S73) → List (S73) → Int → Int → Option (Bool)
 | 0, _, _, _, _ => none
 | k + 1, x0, x1, x12, x13 => if x13 < x12 then (if 0 ≤ x13 then (if x13 < (x0.length : Int) then (if x13 < (x1.length : Int) then (if (!(((rd_T73 x0 x13).f0) == ((rd_T73 x1 x13).f0)) || (!(((rd_T73 x0 x13).f1) == ((rd_T73 x1 x13).f1)))) = true then (some false) else (laws_qParts.l0 k x0 x1 x12 (wrap64 (x13 + 1)))) else (none)) else (none)) else (none)) else (some true)
def laws_qParts.f (k : Nat) (l0 : List (S73)) (l1 : List (S73)) : Option (Bool) := if (l0.length : Int) = (l1.length : Int) then (laws_qParts.l0 k l0 l1 (l0.length : Int) 0) else (some false)
theorem laws_qParts.calls (k : Nat) (A0 : Option Addr) (c0 : Nat) (l0 : List (S73)) (A1 : Option Addr) (c1 : Nat) (l1 : List (S73)) (r : Bool) (w : World) (hr0 : Kd.C k73 w A0 l0.length l0) (hc0 : l0.length ≤ c0) (hr1 : Kd.C k73 w A1 l1.length l1) (hc1 : l1.length ≤ c1) (h : laws_qParts.f k l0 l1 = some r) :
  Calls Tryz.prog 19 #[.slice A0 l0.length c0, .slice A1 l1.length c1] w fun e w' => e = .returned (.bool r) ∧ Drawn0 w w' := by
 have hu73 := Tryz.underlying73
 have HR0 := am_ hr0
 have HC0 := am_ hc0
 clear hr0 hc0
 have HR1 := am_ hr1
 have HC1 := am_ hc1
 clear hr1 hc1
 have H := h
 unfold laws_qParts.f at H
 clear h
 by_cases c3 : (l0.length : Int) = (l1.length : Int)
 ·rw [if_pos c3] at H
  have c3b0 : ((l0.length : Int) == (l1.length : Int)) = true := beq_iff_eq.mpr c3
  have c3b1 : ((l0.length : Int) != (l1.length : Int)) = false := bne_eq_false_iff_eq.mpr c3
  have c3b2 : (l0.length == l1.length) = true := by first | simpa using c3 | (simp at c3 ⊢; omega)
  clear c3
  have H' := am_ H
  clear H
  go_enter Tryz.func19, Tryz.ntmps19
  go_wp2
  repeat (go_quiet (fail); try go_wp2)
  go_loopg [13] k (fun kq v13 w' => ∃ (x13_1 : Int), v13 = .int .i64 x13_1 ∧ Aside0 (laws_qParts.l0 kq l0 l1 (l0.length : Int) x13_1 = some r) ∧ Aside0 (kq ≤ k) ∧ Drawn0 w w')
  case atStart => exact ⟨(0), sr_, H', ⟨Nat.le_refl _⟩, by repeat (first | exact Drawn0.refl _ | apply Drawn0.step)⟩
  clear H'
  obtain ⟨x13_1, rfl, HA, HK1, ⟨m1, rfl⟩⟩ := hrel
  cases gk with
  | zero => exact absurd HA.out (by simp [laws_qParts.l0])
  | succ k1 => ?_
  have H := HA.out
  clear HA
  simp only [laws_qParts.l0] at H
  by_cases c4 : x13_1 < (l0.length : Int)
  case neg => rw [if_neg c4] at H; have c4b0 := decide_eq_false c4; clear c4; obtain rfl := Option.some.inj H; go_wp2; (repeat (go_quiet (fail); try go_wp2)); go_ret; (exact ⟨by first | rfl | (simp; done) | (simp [*]; done), by repeat (first | exact Drawn0.refl _ | apply Drawn0.step)⟩)
  rw [if_pos c4] at H
  have c4b0 := decide_eq_true c4
  clear c4
  revert H; refine pd_ fun c5b0 H => ?_
  revert H; refine pd_ fun c6b0 H => ?_
  revert H; refine pd_ fun c7b0 H => ?_
  by_cases c8 : (!(((rd_T73 l0 x13_1).f0) == ((rd_T73 l1 x13_1).f0)) || (!(((rd_T73 l0 x13_1).f1) == ((rd_T73 l1 x13_1).f1)))) = true
  ·rw [if_pos c8] at H
   have c8b0 : (!(((rd_T73 l0 x13_1).f0) == ((rd_T73 l1 x13_1).f0)) || (!(((rd_T73 l0 x13_1).f1) == ((rd_T73 l1 x13_1).f1)))) = true := c8
   clear c8
   obtain rfl := Option.some.inj H
   have p563 : 0 ≤ (x13_1 : Int) := od_
   have q563 : x13_1 < (l0.length : Int) := od_
   obtain ⟨ad563, e563, hx563_0, hx563_1⟩ := at_T73 HR0.out x13_1 p563 q563
   cases e563
   replace p563 := eq_true p563
   replace q563 := eq_true q563
   have p564 : 0 ≤ (x13_1 : Int) := od_
   have q564 : x13_1 < (l1.length : Int) := od_
   obtain ⟨ad564, e564, hx564_0, hx564_1⟩ := at_T73 HR1.out x13_1 p564 q564
   cases e564
   replace p564 := eq_true p564
   replace q564 := eq_true q564
   go_wp2
   repeat (go_quiet (fail); try go_wp2)
   go_ret
   exact ⟨by first | rfl | (simp; done) | (simp [*]; done), by repeat (first | exact Drawn0.refl _ | apply Drawn0.step)⟩
  rw [if_neg c8] at H
  have c8b0 : (!(((rd_T73 l0 x13_1).f0) == ((rd_T73 l1 x13_1).f0)) || (!(((rd_T73 l0 x13_1).f1) == ((rd_T73 l1 x13_1).f1)))) = false := by simpa using c8
  clear c8
  have H' := am_ H
  clear H
  have p563 : 0 ≤ (x13_1 : Int) := od_
  have q563 : x13_1 < (l0.length : Int) := od_
  obtain ⟨ad563, e563, hx563_0, hx563_1⟩ := at_T73 HR0.out x13_1 p563 q563
  cases e563
  replace p563 := eq_true p563
  replace q563 := eq_true q563
  have p564 : 0 ≤ (x13_1 : Int) := od_
  have q564 : x13_1 < (l1.length : Int) := od_
  obtain ⟨ad564, e564, hx564_0, hx564_1⟩ := at_T73 HR1.out x13_1 p564 q564
  cases e564
  replace p564 := eq_true p564
  replace q564 := eq_true q564
  go_wp2
  repeat (go_quiet (fail); try go_wp2)
  go_roundg k1
  case measure => have := HK1.out; omega
  case rel => exact ⟨(wrap64 (x13_1 + 1)), sr_, H', ⟨by have := HK1.out; omega⟩, by repeat (first | exact Drawn0.refl _ | apply Drawn0.step)⟩
 rw [if_neg c3] at H
 have c3b0 : ((l0.length : Int) == (l1.length : Int)) = false := beq_eq_false_iff_ne.mpr c3
 have c3b1 : ((l0.length : Int) != (l1.length : Int)) = true := bne_iff_ne.mpr c3
 have c3b2 : (l0.length == l1.length) = false := by first | simpa using c3 | (simp at c3 ⊢; omega)
 obtain rfl := Option.some.inj H
 go_enter Tryz.func19, Tryz.ntmps19
 go_wp2
 repeat (go_quiet (fail); try go_wp2)
 go_ret
 exact ⟨by first | rfl | (simp; done) | (simp [*]; done), by repeat (first | exact Drawn0.refl _ | apply Drawn0.step)⟩

/-! ### laws_qInts: function 20 -/
def laws_qInts.l0 : Nat → List Int → List Int → Int → Int → Option (Bool)
 | 0, _, _, _, _ => none
 | k + 1, x0, x1, x12, x13 => if x13 < x12 then (if 0 ≤ x13 then (if x13 < (x0.length : Int) then (if x13 < (x1.length : Int) then (if (rd x0 x13) = (rd x1 x13) then (laws_qInts.l0 k x0 x1 x12 (wrap64 (x13 + 1))) else (some false)) else (none)) else (none)) else (none)) else (some true)
def laws_qInts.f (k : Nat) (l0 : List Int) (l1 : List Int) : Option (Bool) := if (l0.length : Int) = (l1.length : Int) then (laws_qInts.l0 k l0 l1 (l0.length : Int) 0) else (some false)
theorem laws_qInts.calls (k : Nat) (A0 : Option Addr) (c0 : Nat) (l0 : List Int) (A1 : Option Addr) (c1 : Nat) (l1 : List Int) (r : Bool) (w : World) (hr0 : Kd.C (Kd.int .i64) w A0 l0.length l0) (hc0 : l0.length ≤ c0) (hr1 : Kd.C (Kd.int .i64) w A1 l1.length l1) (hc1 : l1.length ≤ c1) (h : laws_qInts.f k l0 l1 = some r) :
  Calls Tryz.prog 20 #[.slice A0 l0.length c0, .slice A1 l1.length c1] w fun e w' => e = .returned (.bool r) ∧ Drawn0 w w' := by
 have HR0 := am_ hr0
 have HC0 := am_ hc0
 clear hr0 hc0
 have HR1 := am_ hr1
 have HC1 := am_ hc1
 clear hr1 hc1
 have H := h
 unfold laws_qInts.f at H
 clear h
 by_cases c3 : (l0.length : Int) = (l1.length : Int)
 ·rw [if_pos c3] at H
  have c3b0 : ((l0.length : Int) == (l1.length : Int)) = true := beq_iff_eq.mpr c3
  have c3b1 : ((l0.length : Int) != (l1.length : Int)) = false := bne_eq_false_iff_eq.mpr c3
  have c3b2 : (l0.length == l1.length) = true := by first | simpa using c3 | (simp at c3 ⊢; omega)
  clear c3
  have H' := am_ H
  clear H
  go_enter Tryz.func20, Tryz.ntmps20
  go_wp2
  repeat (go_quiet (fail); try go_wp2)
  go_loopg [13] k (fun kq v13 w' => ∃ (x13_1 : Int), v13 = .int .i64 x13_1 ∧ Aside0 (laws_qInts.l0 kq l0 l1 (l0.length : Int) x13_1 = some r) ∧ Aside0 (kq ≤ k) ∧ Drawn0 w w')
  case atStart => exact ⟨(0), sr_, H', ⟨Nat.le_refl _⟩, by repeat (first | exact Drawn0.refl _ | apply Drawn0.step)⟩
  clear H'
  obtain ⟨x13_1, rfl, HA, HK1, ⟨m1, rfl⟩⟩ := hrel
  cases gk with
  | zero => exact absurd HA.out (by simp [laws_qInts.l0])
  | succ k1 => ?_
  have H := HA.out
  clear HA
  simp only [laws_qInts.l0] at H
  by_cases c4 : x13_1 < (l0.length : Int)
  case neg => rw [if_neg c4] at H; have c4b0 := decide_eq_false c4; clear c4; obtain rfl := Option.some.inj H; go_wp2; (repeat (go_quiet (fail); try go_wp2)); go_ret; (exact ⟨by first | rfl | (simp; done) | (simp [*]; done), by repeat (first | exact Drawn0.refl _ | apply Drawn0.step)⟩)
  rw [if_pos c4] at H
  have c4b0 := decide_eq_true c4
  clear c4
  revert H; refine pd_ fun c5b0 H => ?_
  revert H; refine pd_ fun c6b0 H => ?_
  revert H; refine pd_ fun c7b0 H => ?_
  by_cases c8 : (rd l0 x13_1) = (rd l1 x13_1)
  ·rw [if_pos c8] at H
   have c8b0 : ((rd l0 x13_1) == (rd l1 x13_1)) = true := beq_iff_eq.mpr c8
   have c8b1 : ((rd l0 x13_1) != (rd l1 x13_1)) = false := bne_eq_false_iff_eq.mpr c8
   clear c8
   have H' := am_ H
   clear H
   obtain ⟨ad565, e565, hx565_0, p565, q565⟩ := ai_ HR0.out x13_1
   cases e565
   obtain ⟨ad566, e566, hx566_0, p566, q566⟩ := ai_ HR1.out x13_1
   cases e566
   go_wp2
   repeat (go_quiet (fail); try go_wp2)
   go_roundg k1
   case measure => have := HK1.out; omega
   case rel => exact ⟨(wrap64 (x13_1 + 1)), sr_, H', ⟨by have := HK1.out; omega⟩, by repeat (first | exact Drawn0.refl _ | apply Drawn0.step)⟩
  rw [if_neg c8] at H
  have c8b0 : ((rd l0 x13_1) == (rd l1 x13_1)) = false := beq_eq_false_iff_ne.mpr c8
  have c8b1 : ((rd l0 x13_1) != (rd l1 x13_1)) = true := bne_iff_ne.mpr c8
  obtain rfl := Option.some.inj H
  obtain ⟨ad565, e565, hx565_0, p565, q565⟩ := ai_ HR0.out x13_1
  cases e565
  obtain ⟨ad566, e566, hx566_0, p566, q566⟩ := ai_ HR1.out x13_1
  cases e566
  go_wp2
  repeat (go_quiet (fail); try go_wp2)
  go_ret
  exact ⟨by first | rfl | (simp; done) | (simp [*]; done), by repeat (first | exact Drawn0.refl _ | apply Drawn0.step)⟩
 rw [if_neg c3] at H
 have c3b0 : ((l0.length : Int) == (l1.length : Int)) = false := beq_eq_false_iff_ne.mpr c3
 have c3b1 : ((l0.length : Int) != (l1.length : Int)) = true := bne_iff_ne.mpr c3
 have c3b2 : (l0.length == l1.length) = false := by first | simpa using c3 | (simp at c3 ⊢; omega)
 obtain rfl := Option.some.inj H
 go_enter Tryz.func20, Tryz.ntmps20
 go_wp2
 repeat (go_quiet (fail); try go_wp2)
 go_ret
 exact ⟨by first | rfl | (simp; done) | (simp [*]; done), by repeat (first | exact Drawn0.refl _ | apply Drawn0.step)⟩

end Go.Proofs.YtihjlepgmppedaaGreatDoor.PFnRules
