-- Laid for this claim by wip/tools/print2.sh, a changed copy of the kit's print (wip/tools/patch_print.py): not by print.sh. Changed by wip/fix/laid.py.
import Derived.Test.YthphbkkkbolcnaaGreatDoorPFnModelsx6
import Derived.Test.YthphbkkkbolcnaaGreatDoorPFnModelsx9
import Derived.Test.YthphbkkkbolcnaaGreatDoorVFnModels
namespace Go.Proofs.YthphbkkkbolcnaaGreatDoor.PFnModels
set_option maxHeartbeats 8000000
set_option maxRecDepth 100000
open Go.RowKit Go.Proofs.YthphbkkkbolcnaaGreatDoorW.PrintWords Go.Proofs.YthphbkkkbolcnaaGreatDoorW.PrintLast Go.Proofs.YthphbkkkbolcnaaGreatDoorW.PrintMore
set_option linter.unusedVariables false
set_option linter.unusedSimpArgs false

/-! ### impl_linesOf: function 35 -/
def impl_linesOf.f (a0 : ByteArray) : Option (List ByteArray × Bool) := if a0.toList = ([] : List UInt8) then (some (([] : List ByteArray), true)) else ((strings_HasSuffix.f a0 (⟨#[10]⟩ : ByteArray)).bind fun t367 => (if t367 = true then (if 0 ≤ (wrap64 ((a0.size : Int) - 1)) then (if (wrap64 ((a0.size : Int) - 1)) ≤ (a0.size : Int) then ((strings_Split.f (a0.extract 0 ((wrap64 ((a0.size : Int) - 1)) : Int).toNat) (⟨#[10]⟩ : ByteArray)).bind fun t368 => (some (t368, true))) else (none)) else (none)) else (some (([] : List ByteArray), false))))
theorem impl_linesOf.calls (a0 : ByteArray) (r1 : List ByteArray) (r2 : Bool) (w : World) (h : impl_linesOf.f a0 = some (r1, r2)) (hL : LaidW w) :
  Calls Tryz.prog 35 #[.string a0] w fun e w' => ∃ v0_ : Value, e = .returned (.tuple #[v0_, .bool r2]) ∧ Kd.R Kd.string 9 w' w.heap.size (fun _ => True) v0_ r1 ∧ Below w.heap.size w w' := by
 have HLw := am_ hL
 clear hL
 have HB := am_ (Below.refl w.heap.size w)
 have H := h
 unfold impl_linesOf.f at H
 clear h
 by_cases c2 : a0.toList = ([] : List UInt8)
 ·rw [if_pos c2] at H
  have c2b0 : (a0.toList == ([] : List UInt8)) = true := beq_iff_eq.mpr c2
  have c2b1 : (a0.toList != ([] : List UInt8)) = false := bne_eq_false_iff_eq.mpr c2
  clear c2
  simp only [Option.some.injEq, Prod.mk.injEq] at H
  obtain ⟨rfl, rfl⟩ := H
  go_enter Tryz.func35, Tryz.ntmps35
  go_wp2
  go_ret2
  exact ⟨_, se_, by first | exact Kd.R_nil _ _ _ _ _ | exact Kd.N_nil _ _ _ _ _ | exact Kd.V_nil _ _ _ _ _ | exact Kd.Q_nil _ _ _ _ _ | exact Kd.S_nil _ _ _ _ _, hb_ HB⟩
 rw [if_neg c2] at H
 have c2b0 : (a0.toList == ([] : List UInt8)) = false := beq_eq_false_iff_ne.mpr c2
 have c2b1 : (a0.toList != ([] : List UInt8)) = true := bne_iff_ne.mpr c2
 revert H; refine bn_ ?_; rintro t367 A3 H; try dsimp only at H
 by_cases c4 : t367 = true
 ·subst c4
  rw [if_pos rfl] at H
  obtain ⟨ji5, hji5⟩ : ∃ j_ : Int, (wrap64 ((a0.size : Int) - 1)) = j_ := ⟨_, rfl⟩
  replace H : (if 0 ≤ (ji5) then (if (ji5) ≤ (a0.size : Int) then ((strings_Split.f (a0.extract 0 ((ji5) : Int).toNat) (⟨#[10]⟩ : ByteArray)).bind fun t368 => (some (t368, true))) else (none)) else (none)) = some (r1, r2) := by first | (rw [hji5] at H; exact H) | (simp only [hji5] at H ⊢; exact H)
  (try rw [hji5] at A3)
  have hji5w : (IntKind.i64.wrap ((a0.size : Int) - 1)) = ji5 := (i64_w _).trans hji5
  revert H; refine pf_ fun c6 H => ?_
  have c6b0 := eq_true c6
  have c6b1 := decide_eq_true c6
  clear c6
  revert H; refine pf_ fun c7 H => ?_
  have c7b0 := eq_true c7
  have c7b1 := decide_eq_true c7
  clear c7
  revert H; refine bn_ ?_; rintro t368 A8 H; try dsimp only at H
  simp only [Option.some.injEq, Prod.mk.injEq] at H
  obtain ⟨rfl, rfl⟩ := H
  go_enter Tryz.func35, Tryz.ntmps35
  go_wp2_with (first | ((with_reducible refine gk_ 63 ?_); refine gq_ 7 Tryz.func63 #[.string a0, .string ⟨#[10]⟩] ?_; (with_reducible refine (strings_HasSuffix.calls a0 (⟨#[10]⟩ : ByteArray) true _ A3.out).mono ?_); rintro e w' ⟨rfl, ⟨nd, rfl⟩⟩; refine ⟨_, rfl, ?_⟩) | ((with_reducible refine gk_ 64 ?_); refine gq_ 14 Tryz.func64 #[.string (a0.extract 0 ((ji5) : Int).toNat), .string ⟨#[10]⟩] ?_ (by (try simp only [List.map_toArray, List.map_cons, List.map_nil]); first | done | (simp only [hji5]; rfl) | rfl | (simp only [List.length_drop, List.length_take]; rfl)); (with_reducible refine (strings_Split.calls (a0.extract 0 ((ji5) : Int).toNat) (⟨#[10]⟩ : ByteArray) t368 _ A8.out (by exact LaidW.step HLw (hb_ HB))).mono ?_); rintro e w9 ⟨v369, rfl, ho0, hb⟩; refine ⟨_, rfl, ?_⟩; have HO370 := Kd.R_lo ho0 HB; replace HB := hbs_ HB hb))
  go_ret2
  exact ⟨_, by first | rfl | (simp [errW_none, errW_some] <;> rfl) | (simp only [← hji5]; first | rfl | (simp [errW_none, errW_some] <;> rfl)) | (simp [*, errW_none, errW_some] <;> rfl), Kd.R_p HO370, hb_ HB⟩
 replace c4 := Bool.eq_false_iff.mpr c4
 subst c4
 rw [if_neg (show ¬ (false = true) by decide)] at H
 simp only [Option.some.injEq, Prod.mk.injEq] at H
 obtain ⟨rfl, rfl⟩ := H
 go_enter Tryz.func35, Tryz.ntmps35
 go_wp2_with (first | ((with_reducible refine gk_ 63 ?_); refine gq_ 7 Tryz.func63 #[.string a0, .string ⟨#[10]⟩] ?_; (with_reducible refine (strings_HasSuffix.calls a0 (⟨#[10]⟩ : ByteArray) false _ A3.out).mono ?_); rintro e w' ⟨rfl, ⟨nd, rfl⟩⟩; refine ⟨_, rfl, ?_⟩))
 go_ret2
 exact ⟨_, se_, by first | exact Kd.R_nil _ _ _ _ _ | exact Kd.N_nil _ _ _ _ _ | exact Kd.V_nil _ _ _ _ _ | exact Kd.Q_nil _ _ _ _ _ | exact Kd.S_nil _ _ _ _ _, hb_ HB⟩

/-! ### stringslite_HasPrefix: function 83 -/
def stringslite_HasPrefix.f (a0 : ByteArray) (a1 : ByteArray) : Option (Bool) := if (a0.size : Int) ≥ (a1.size : Int) then (if 0 ≤ (a1.size : Int) then (if (a1.size : Int) ≤ (a0.size : Int) then (some ((a0.extract 0 ((a1.size : Int) : Int).toNat).toList == a1.toList)) else (none)) else (none)) else (some false)
theorem stringslite_HasPrefix.calls (a0 : ByteArray) (a1 : ByteArray) (r : Bool) (w : World) (h : stringslite_HasPrefix.f a0 a1 = some r) :
  Calls Tryz.prog 83 #[.string a0, .string a1] w fun e w' => e = .returned (.bool r) ∧ Drawn0 w w' := by
 have H := h
 unfold stringslite_HasPrefix.f at H
 clear h
 by_cases c3 : (a0.size : Int) ≥ (a1.size : Int)
 ·rw [if_pos c3] at H
  have c3b0 : decide ((a1.size : Int) ≤ (a0.size : Int)) = true := decide_eq_true c3
  have c3b1 : decide (a1.size ≤ a0.size) = true := decide_eq_true (Int.ofNat_le.mp c3)
  clear c3
  revert H; refine pf_ fun c4 H => ?_
  have c4b0 := eq_true c4
  have c4b1 := decide_eq_true c4
  clear c4
  by_cases c5 : (a1.size : Int) ≤ (a0.size : Int)
  ·rw [if_pos c5] at H
   have c5b0 := eq_true c5
   have c5b1 := decide_eq_true c5
   clear c5
   obtain rfl := Option.some.inj H
   go_enter Tryz.func83, Tryz.ntmps83
   go_wp2
   go_ret
   exact ⟨by first | rfl | (simp; done) | (simp [*]; done), by repeat (first | exact Drawn0.refl _ | apply Drawn0.step)⟩
  rw [if_neg c5] at H
  exact absurd H (by simp)
 rw [if_neg c3] at H
 have c3b0 : decide ((a1.size : Int) ≤ (a0.size : Int)) = false := decide_eq_false c3
 have c3b1 : decide (a1.size ≤ a0.size) = false := decide_eq_false (fun h => c3 (Int.ofNat_le.mpr h))
 clear c3
 obtain rfl := Option.some.inj H
 go_enter Tryz.func83, Tryz.ntmps83
 go_wp2
 go_ret
 exact ⟨by first | rfl | (simp; done) | (simp [*]; done), by repeat (first | exact Drawn0.refl _ | apply Drawn0.step)⟩

/-! ### stringslite_CutPrefix: function 65 -/
def stringslite_CutPrefix.f (a0 : ByteArray) (a1 : ByteArray) : Option (ByteArray × Bool) := (stringslite_HasPrefix.f a0 a1).bind fun t371 => (if t371 = true then (if 0 ≤ (a1.size : Int) then (if (a1.size : Int) ≤ (a0.size : Int) then (some (a0.extract ((a1.size : Int) : Int).toNat a0.size, true)) else (none)) else (none)) else (some (a0, false)))
theorem stringslite_CutPrefix.calls (a0 : ByteArray) (a1 : ByteArray) (r1 : ByteArray) (r2 : Bool) (w : World) (h : stringslite_CutPrefix.f a0 a1 = some (r1, r2)) :
  Calls Tryz.prog 65 #[.string a0, .string a1] w fun e w' => e = .returned (.tuple #[.string r1, .bool r2]) ∧ Drawn0 w w' := by
 have H := h
 unfold stringslite_CutPrefix.f at H
 clear h
 revert H; refine bn_ ?_; rintro t371 A3 H; try dsimp only at H
 by_cases c4 : t371 = true
 ·subst c4
  rw [if_pos rfl] at H
  revert H; refine pf_ fun c5 H => ?_
  have c5b0 := eq_true c5
  have c5b1 := decide_eq_true c5
  clear c5
  revert H; refine pf_ fun c6 H => ?_
  have c6b0 := eq_true c6
  have c6b1 := decide_eq_true c6
  clear c6
  simp only [Option.some.injEq, Prod.mk.injEq] at H
  obtain ⟨rfl, rfl⟩ := H
  go_enter Tryz.func65, Tryz.ntmps65
  go_wp2_with (first | ((with_reducible refine gk_ 83 ?_); refine gq_ 8 Tryz.func83 #[.string a0, .string a1] ?_; (with_reducible refine (stringslite_HasPrefix.calls a0 a1 true _ A3.out).mono ?_); rintro e w' ⟨rfl, ⟨nd, rfl⟩⟩; refine ⟨_, rfl, ?_⟩))
  go_ret2
  exact ⟨by first | rfl | (simp; done) | (simp [*]; done), by repeat (first | exact Drawn0.refl _ | apply Drawn0.step)⟩
 replace c4 := Bool.eq_false_iff.mpr c4
 subst c4
 rw [if_neg (show ¬ (false = true) by decide)] at H
 simp only [Option.some.injEq, Prod.mk.injEq] at H
 obtain ⟨rfl, rfl⟩ := H
 go_enter Tryz.func65, Tryz.ntmps65
 go_wp2_with (first | ((with_reducible refine gk_ 83 ?_); refine gq_ 8 Tryz.func83 #[.string a0, .string a1] ?_; (with_reducible refine (stringslite_HasPrefix.calls a0 a1 false _ A3.out).mono ?_); rintro e w' ⟨rfl, ⟨nd, rfl⟩⟩; refine ⟨_, rfl, ?_⟩))
 go_ret2
 exact ⟨by first | rfl | (simp; done) | (simp [*]; done), by repeat (first | exact Drawn0.refl _ | apply Drawn0.step)⟩

/-! ### strings_CutPrefix: function 36 -/
def strings_CutPrefix.f (a0 : ByteArray) (a1 : ByteArray) : Option (ByteArray × Bool) := (stringslite_CutPrefix.f a0 a1).bind fun bt372 => (some (bt372.1, bt372.2))
theorem strings_CutPrefix.calls (a0 : ByteArray) (a1 : ByteArray) (r1 : ByteArray) (r2 : Bool) (w : World) (h : strings_CutPrefix.f a0 a1 = some (r1, r2)) :
  Calls Tryz.prog 36 #[.string a0, .string a1] w fun e w' => e = .returned (.tuple #[.string r1, .bool r2]) ∧ Drawn0 w w' := by
 have H := h
 unfold strings_CutPrefix.f at H
 clear h
 revert H; refine bn_ ?_; rintro ⟨t372, t373⟩ A3 H; try dsimp only at H
 simp only [Option.some.injEq, Prod.mk.injEq] at H
 obtain ⟨rfl, rfl⟩ := H
 go_enter Tryz.func36, Tryz.ntmps36
 go_wp2_with (first | ((with_reducible refine gk_ 65 ?_); refine gq_ 8 Tryz.func65 #[.string a0, .string a1] ?_; (with_reducible refine (stringslite_CutPrefix.calls a0 a1 t372 t373 _ A3.out).mono ?_); rintro e w' ⟨rfl, ⟨nd, rfl⟩⟩; refine ⟨_, rfl, ?_⟩))
 go_ret2
 exact ⟨by first | rfl | (simp; done) | (simp [*]; done), by repeat (first | exact Drawn0.refl _ | apply Drawn0.step)⟩

/-! ### impl_decimal: function 66 -/
mutual
def impl_decimal.j0 : Nat → ByteArray → Bool → Option (Int × Bool)
 | 0, _, _ => none
 | k + 1, x0, x22 => if x22 = true then (some (0, false)) else (impl_decimal.l0 k x0 0 0)
def impl_decimal.l0 : Nat → ByteArray → Int → Int → Option (Int × Bool)
 | 0, _, _, _ => none
 | k + 1, x0, x4, x5 => if x5 < (x0.size : Int) then (if 0 ≤ x5 then (if (bt x0 x5) < 48 then (some (0, false)) else (if (bt x0 x5) > 57 then (some (0, false)) else (impl_decimal.l0 k x0 (wrap64 ((wrap64 (10 * x4)) + (((bt x0 x5) - 48) % 256))) (wrap64 (x5 + 1))))) else (none)) else (some (x4, true))
end
def impl_decimal.f (k : Nat) (a0 : ByteArray) : Option (Int × Bool) := if a0.toList = ([] : List UInt8) then (impl_decimal.j0 k a0 true) else (if (a0.size : Int) > 15 then (impl_decimal.j0 k a0 true) else (if 0 < (a0.size : Int) then (if (bt a0 0) = 48 then (impl_decimal.j0 k a0 (decide ((a0.size : Int) > 1))) else (impl_decimal.j0 k a0 false)) else (none)))
theorem impl_decimal.calls (k : Nat) (a0 : ByteArray) (r1 : Int) (r2 : Bool) (w : World) (h : impl_decimal.f k a0 = some (r1, r2)) :
  Calls Tryz.prog 66 #[.string a0] w fun e w' => e = .returned (.tuple #[.int .i64 r1, .bool r2]) ∧ Drawn0 w w' := by
 have H := h
 unfold impl_decimal.f at H
 clear h
 have HC2 := am_ H
 clear H
 go_enter Tryz.func66, Tryz.ntmps66
 go_upto_region 1 with (fail)
 go_cut [22] (fun v22 wc => ∃ (kq : Nat) (x22_1 : Bool), v22 = .bool x22_1 ∧ Aside0 (impl_decimal.j0 kq a0 x22_1 = some (r1, r2)) ∧ Aside0 (kq ≤ k) ∧ Drawn0 w wc)
 case first =>
  have H := HC2.out
  clear HC2
  by_cases c3 : a0.toList = ([] : List UInt8)
  ·rw [if_pos c3] at H
   have c3b0 : (a0.toList == ([] : List UInt8)) = true := beq_iff_eq.mpr c3
   have c3b1 : (a0.toList != ([] : List UInt8)) = false := bne_eq_false_iff_eq.mpr c3
   clear c3
   (first | rw [c3b0] | (simp only [i64_w, i32_w]; rw [c3b0]) | skip)
   have H' := am_ H
   clear H
   go_wp2
   go_meet
   case rel => exact ⟨_, (true), sr_, H', ⟨by first | omega | exact Nat.le_refl _⟩, by repeat (first | exact Drawn0.refl _ | apply Drawn0.step)⟩
  rw [if_neg c3] at H
  have c3b0 : (a0.toList == ([] : List UInt8)) = false := beq_eq_false_iff_ne.mpr c3
  have c3b1 : (a0.toList != ([] : List UInt8)) = true := bne_iff_ne.mpr c3
  (first | rw [c3b0] | (simp only [i64_w, i32_w]; rw [c3b0]) | skip)
  by_cases c4 : (a0.size : Int) > 15
  ·rw [if_pos c4] at H
   have c4b0 : decide (15 < (a0.size : Int)) = true := decide_eq_true c4
   have c4b1 : decide (15 < a0.size) = true := decide_eq_true (by omega)
   clear c4
   have H' := am_ H
   clear H
   go_wp2
   go_meet
   case rel => exact ⟨_, (true), sr_, H', ⟨by first | omega | exact Nat.le_refl _⟩, by repeat (first | exact Drawn0.refl _ | apply Drawn0.step)⟩
  rw [if_neg c4] at H
  have c4b0 : decide (15 < (a0.size : Int)) = false := decide_eq_false c4
  have c4b1 : decide (15 < a0.size) = false := decide_eq_false (by omega)
  clear c4
  revert H; refine pf_ fun c5 H => ?_
  have c5b0 := decide_eq_true c5
  have c5b1 : decide (0 < a0.size) = true := decide_eq_true (by omega)
  clear c5
  by_cases c7 : (bt a0 0) = 48
  ·rw [if_pos c7] at H
   have c7b0 : ((bt a0 0) == 48) = true := beq_iff_eq.mpr c7
   have c7b1 : ((bt a0 0) != 48) = false := bne_eq_false_iff_eq.mpr c7
   clear c7
   have H' := am_ H
   clear H
   have p6 : 0 ≤ (0 : Int) := (by omega)
   have q6 : 0 < a0.size := (by have : (0 : Int) < (a0.size : Int) := od_; omega)
   have hx6 : ∀ h : 0 < a0.size, ((a0[0]'h).toNat : Int) = bt a0 0 := bt_at a0 0
   clear p6
   have qi6 : (0 < (a0.size : Int)) = True := eq_true (od_)
   replace q6 := eq_true q6
   go_wp2
   go_meet
   case rel => exact ⟨_, (decide ((a0.size : Int) > 1)), sr_, H', ⟨by first | omega | exact Nat.le_refl _⟩, by repeat (first | exact Drawn0.refl _ | apply Drawn0.step)⟩
  rw [if_neg c7] at H
  have c7b0 : ((bt a0 0) == 48) = false := beq_eq_false_iff_ne.mpr c7
  have c7b1 : ((bt a0 0) != 48) = true := bne_iff_ne.mpr c7
  have H' := am_ H
  clear H
  have p6 : 0 ≤ (0 : Int) := (by omega)
  have q6 : 0 < a0.size := (by have : (0 : Int) < (a0.size : Int) := od_; omega)
  have hx6 : ∀ h : 0 < a0.size, ((a0[0]'h).toNat : Int) = bt a0 0 := bt_at a0 0
  clear p6
  have qi6 : (0 < (a0.size : Int)) = True := eq_true (od_)
  replace q6 := eq_true q6
  go_wp2
  go_meet
  case rel => exact ⟨_, (false), sr_, H', ⟨by first | omega | exact Nat.le_refl _⟩, by repeat (first | exact Drawn0.refl _ | apply Drawn0.step)⟩
 clear HC2
 obtain ⟨kq, x22_1, rfl, HA, HJ1, ⟨mc1, rfl⟩⟩ := hcut
 cases kq with
 | zero => exact absurd HA.out (by simp [impl_decimal.j0])
 | succ kj1 => ?_
 have H := HA.out
 clear HA
 simp only [impl_decimal.j0] at H
 by_cases c8 : x22_1 = true
 ·subst c8
  rw [if_pos rfl] at H
  simp only [Option.some.injEq, Prod.mk.injEq] at H
  obtain ⟨rfl, rfl⟩ := H
  go_wp2
  go_ret2
  exact ⟨by first | rfl | (simp; done) | (simp [*]; done), by repeat (first | exact Drawn0.refl _ | apply Drawn0.step)⟩
 replace c8 := Bool.eq_false_iff.mpr c8
 subst c8
 rw [if_neg (show ¬ (false = true) by decide)] at H
 have H' := am_ H
 clear H
 go_wp2
 go_loopg [4, 5] kj1 (fun kq v4 v5 w' => ∃ (x4_2 : Int) (x5_2 : Int), v4 = .int .i64 x4_2 ∧ v5 = .int .i64 x5_2 ∧ Aside0 (impl_decimal.l0 kq a0 x4_2 x5_2 = some (r1, r2)) ∧ Aside0 (kq ≤ kj1) ∧ Drawn0 w w')
 case atStart => exact ⟨(0), (0), sr_, sr_, H', ⟨Nat.le_refl _⟩, by repeat (first | exact Drawn0.refl _ | apply Drawn0.step)⟩
 clear H'
 obtain ⟨x4_2, x5_2, rfl, rfl, HA, HK2, ⟨m2, rfl⟩⟩ := hrel
 cases gk with
 | zero => exact absurd HA.out (by simp [impl_decimal.l0])
 | succ k2 => ?_
 have H := HA.out
 clear HA
 simp only [impl_decimal.l0] at H
 by_cases c9 : x5_2 < (a0.size : Int)
 case neg => rw [if_neg c9] at H; have c9b0 := decide_eq_false c9; clear c9; simp only [Option.some.injEq, Prod.mk.injEq] at H; obtain ⟨rfl, rfl⟩ := H; go_wp2; go_ret2; (exact ⟨by first | rfl | (simp; done) | (simp [*]; done), by repeat (first | exact Drawn0.refl _ | apply Drawn0.step)⟩)
 rw [if_pos c9] at H
 have c9b0 := decide_eq_true c9
 clear c9
 revert H; refine pd_ fun c10b0 H => ?_
 by_cases c12 : (bt a0 x5_2) < 48
 ·rw [if_pos c12] at H
  have c12b0 := decide_eq_true c12
  clear c12
  simp only [Option.some.injEq, Prod.mk.injEq] at H
  obtain ⟨rfl, rfl⟩ := H
  have p11 : 0 ≤ (x5_2 : Int) := od_
  have q11 : x5_2 < (a0.size : Int) := od_
  have hx11 := bt_at a0 x5_2
  replace p11 := eq_true p11
  replace q11 := eq_true q11
  go_wp2
  go_ret2
  exact ⟨by first | rfl | (simp; done) | (simp [*]; done), by repeat (first | exact Drawn0.refl _ | apply Drawn0.step)⟩
 rw [if_neg c12] at H
 have c12b0 := decide_eq_false c12
 clear c12
 by_cases c14 : (bt a0 x5_2) > 57
 ·rw [if_pos c14] at H
  have c14b0 : decide (57 < (bt a0 x5_2)) = true := decide_eq_true c14
  clear c14
  simp only [Option.some.injEq, Prod.mk.injEq] at H
  obtain ⟨rfl, rfl⟩ := H
  have p11 : 0 ≤ (x5_2 : Int) := od_
  have q11 : x5_2 < (a0.size : Int) := od_
  have hx11 := bt_at a0 x5_2
  replace p11 := eq_true p11
  replace q11 := eq_true q11
  have p13 : 0 ≤ (x5_2 : Int) := od_
  have q13 : x5_2 < (a0.size : Int) := od_
  have hx13 := bt_at a0 x5_2
  replace p13 := eq_true p13
  replace q13 := eq_true q13
  go_wp2
  go_ret2
  exact ⟨by first | rfl | (simp; done) | (simp [*]; done), by repeat (first | exact Drawn0.refl _ | apply Drawn0.step)⟩
 rw [if_neg c14] at H
 have c14b0 : decide (57 < (bt a0 x5_2)) = false := decide_eq_false c14
 clear c14
 have H' := am_ H
 clear H
 have p11 : 0 ≤ (x5_2 : Int) := od_
 have q11 : x5_2 < (a0.size : Int) := od_
 have hx11 := bt_at a0 x5_2
 replace p11 := eq_true p11
 replace q11 := eq_true q11
 have p13 : 0 ≤ (x5_2 : Int) := od_
 have q13 : x5_2 < (a0.size : Int) := od_
 have hx13 := bt_at a0 x5_2
 replace p13 := eq_true p13
 replace q13 := eq_true q13
 have p15 : 0 ≤ (x5_2 : Int) := od_
 have q15 : x5_2 < (a0.size : Int) := od_
 have hx15 := bt_at a0 x5_2
 replace p15 := eq_true p15
 replace q15 := eq_true q15
 go_wp2
 go_roundg k2
 case measure => have := HJ1.out; have := HK2.out; omega
 case rel => exact ⟨(wrap64 ((wrap64 (10 * x4_2)) + (((bt a0 x5_2) - 48) % 256))), (wrap64 (x5_2 + 1)), sr_, sr_, H', ⟨by have := HJ1.out; have := HK2.out; omega⟩, by repeat (first | exact Drawn0.refl _ | apply Drawn0.step)⟩

/-! ### impl_decimals: function 37 -/
def impl_decimals.l0 : Nat → List Int → List ByteArray → Int → Int → Option (List Int × Bool)
 | 0, _, _, _, _ => none
 | k + 1, x7, x19, x20, x21 => if x21 < x20 then (if 0 ≤ x21 then (if x21 < (x19.length : Int) then ((impl_decimal.f k (rdOf ByteArray.empty x19 x21)).bind fun bt381 => (if bt381.2 = true then (if x7.length < 17592186044416 then (impl_decimals.l0 k (x7 ++ [bt381.1]) x19 x20 (wrap64 (x21 + 1))) else (none)) else (some (([] : List Int), false)))) else (none)) else (none)) else (some (x7, true))
def impl_decimals.f (k : Nat) (a0 : ByteArray) (a1 : Int) : Option (List Int × Bool) := (strings_Split.f a0 (⟨#[32]⟩ : ByteArray)).bind fun t374 => (if (t374.length : Int) = a1 then (impl_decimals.l0 k (([] : List Int)) t374 (t374.length : Int) 0) else (some (([] : List Int), false)))
theorem impl_decimals.calls (k : Nat) (a0 : ByteArray) (a1 : Int) (r1 : List Int) (r2 : Bool) (w : World) (h : impl_decimals.f k a0 a1 = some (r1, r2)) (hL : LaidW w) :
  Calls Tryz.prog 37 #[.string a0, .int .i64 a1] w fun e w' => ∃ v0_ : Value, e = .returned (.tuple #[v0_, .bool r2]) ∧ Kd.R (Kd.int .i64) 3 w' w.heap.size (fun _ => True) v0_ r1 ∧ Below w.heap.size w w' := by
 have HLw := am_ hL
 clear hL
 have HB := am_ (Below.refl w.heap.size w)
 have H := h
 unfold impl_decimals.f at H
 clear h
 revert H; refine bn_ ?_; rintro t374 A3 H; try dsimp only at H
 by_cases c4 : (t374.length : Int) = a1
 ·rw [if_pos c4] at H
  have c4b0 : ((t374.length : Int) == a1) = true := beq_iff_eq.mpr c4
  have c4b1 : ((t374.length : Int) != a1) = false := bne_eq_false_iff_eq.mpr c4
  clear c4
  obtain ⟨y377, hy377⟩ : ∃ y_ : List Int, y_ = (([] : List Int)) := ⟨_, rfl⟩
  replace H : (impl_decimals.l0 k y377 t374 (t374.length : Int) 0) = some (r1, r2) := by first | (rw [hy377]; with_reducible exact H) | (have H2_ := (Option.bind_some _ _).symm.trans H; rw [hy377]; with_reducible exact H2_) | (have H2_ := (Option.bind_some _ _).symm.trans H; with_reducible exact H2_) | with_reducible exact H | (rw [hy377]; exact H) | exact H
  have Ny377 := am_ hy377
  clear hy377
  have H' := am_ H
  clear H
  go_enter Tryz.func37, Tryz.ntmps37
  go_wp2_with (first | ((with_reducible refine gk_ 64 ?_); refine gq_ 13 Tryz.func64 #[.string a0, .string ⟨#[32]⟩] ?_; (with_reducible refine (strings_Split.calls a0 (⟨#[32]⟩ : ByteArray) t374 _ A3.out (by exact LaidW.step HLw (hb_ HB))).mono ?_); rintro e w5 ⟨v375, rfl, ho0, hb⟩; refine ⟨_, rfl, ?_⟩; have HO376 := Kd.R_lo ho0 HB; replace HB := hbs_ HB hb; obtain ⟨Ao6, co6, eo6⟩ := Kd.R_slice HO376.out; subst eo6) | ((with_reducible refine gate_dst (N := 18) rfl ?_); refine Kd.R_lit (Kd.int .i64) _ 3 ?hg (N := 18) ?hd (xs := ([] : List Int)) (inner := []) (ok := fun _ => True) (okp := fun _ => True) ?hr ?hp (fun _ hk => hk) trivial (Below.refl _ _) (Nat.le_refl _) (by simp) ?_; (case hd => rfl); (case hg => rfl); (case hr => first | (go_simp; done) | (go_simp; rfl)); (case hp => exact (Reps.none _ _)); intro v378 w7 ho8 hb hg_ hnew_; clear hg_ hnew_; (first | rw [← Ny377.out] at ho8 | (simp only [Int.reduceToNat] at ho8; rw [← Ny377.out] at ho8)); have HO379 := Kd.R_lo ho8 HB; replace HO376 := Kd.R_b HO376 hb; replace HB := hbs_ HB hb; clear hb ho8))
  go_loopg [7, 21] k (fun kq v7 v21 w' => ∃ (x7_1 : List Int) (x21_1 : Int), v21 = .int .i64 x21_1 ∧ Aside0 (impl_decimals.l0 kq x7_1 t374 (t374.length : Int) x21_1 = some (r1, r2)) ∧ Aside0 (kq ≤ k) ∧ Aside0 (Kd.R (Kd.int .i64) 3 w' w.heap.size (fun _ => True) v7 x7_1) ∧ Aside0 (Kd.R Kd.string 9 w' w.heap.size (fun _ => True) (.slice Ao6 t374.length co6) t374) ∧ Aside0 (Below w.heap.size w w'))
  case atStart => exact ⟨(y377), (0), sr_, H', ⟨Nat.le_refl _⟩, ⟨Kd.R_p HO379⟩, ⟨Kd.R_p HO376⟩, ⟨hb_ HB⟩⟩
  clear H'
  obtain ⟨x7_1, x21_1, rfl, HA, HK1, HO_7, HO_19, HB⟩ := hrel
  cases gk with
  | zero => exact absurd HA.out (by simp [impl_decimals.l0])
  | succ k1 => ?_
  have H := HA.out
  clear HA
  simp only [impl_decimals.l0] at H
  by_cases c9 : x21_1 < (t374.length : Int)
  case neg => rw [if_neg c9] at H; have c9b0 := decide_eq_false c9; clear c9; simp only [Option.some.injEq, Prod.mk.injEq] at H; obtain ⟨rfl, rfl⟩ := H; go_wp2; go_ret2; (exact ⟨_, se_, Kd.R_p HO_7, hb_ HB⟩)
  rw [if_pos c9] at H
  have c9b0 := decide_eq_true c9
  clear c9
  revert H; refine pd_ fun c10b0 H => ?_
  revert H; refine pd_ fun c11b0 H => ?_
  revert H; refine bn_ ?_; rintro ⟨t381, t382⟩ A12 H; try dsimp only at H
  by_cases c13 : t382 = true
  ·subst c13
   rw [if_pos rfl] at H
   revert H; refine pf_ fun c14 H => ?_
   have LMc14 := am_ c14
   clear c14
   obtain ⟨y383, hy383⟩ : ∃ y_ : List Int, y_ = (x7_1 ++ [t381]) := ⟨_, rfl⟩
   (try with_reducible replace H := (Option.bind_some _ _).symm.trans H); (try dsimp only at H); (try rw [← hy383] at H)
   have Ny383 := am_ hy383
   clear hy383
   have H' := am_ H
   clear H
   have p380 : 0 ≤ (x21_1 : Int) := od_
   have q380 : x21_1 < (t374.length : Int) := od_
   obtain ⟨ad380, e380, hx380_0⟩ := Kd.at_string (Kd.R_reads' HO_19.out).2.2 x21_1 p380 q380
   cases e380
   replace p380 := eq_true p380
   replace q380 := eq_true q380
   go_wp2_with (first | ((with_reducible refine gk_ 66 ?_); refine gq_ 27 Tryz.func66 #[.string (rdOf ByteArray.empty t374 x21_1)] ?_; (with_reducible refine (impl_decimal.calls k1 (rdOf ByteArray.empty t374 x21_1) t381 true _ A12.out).mono ?_); rintro e w' ⟨rfl, ⟨nd, rfl⟩⟩; refine ⟨_, rfl, ?_⟩) | ((with_reducible refine gate_builtin (b := .append) (xs := #[.tmp 32, .tmp 34]) rfl ?_); at_builtin; refine Kd.R_append (Kd.int .i64) (w0 := w) w.heap.size rfl (.tmp 32) (.tmp 34) 26 3 (.int .i64 0) 8 rfl Tryz.underlying26 info3 rfl (by decide) (by omega) u7 x7_1 t381 [.int .i64 t381] (fun _ => True) (fun _ => False) rfl rfl ?aP (fun _ hk => hk.elim) ?aF ?aO ?aB ?aS ?aL ?_; (case aP => exact rfl); (case aB => exact (hb_ HB)); (case aF => exact (fun _ _ => trivial)); (case aO => exact (Kd.R_p HO_7)); (case aS => exact (below_size (hb_ HB))); (case aL => have := LMc14.out; omega); intro v384 w15 ho hb hg hat; rw [← Ny383.out] at ho; have HO385 := am_ (ho); replace HO_19 := am_ (Kd.R_over' (Kd.R_p HO_19) (Kd.R_typed (Kd.R_p HO_7)) (by decide) hg); replace HB := am_ (hb); clear HO_7; clear ho hb hg hat))
   go_roundg k1
   case measure => have := HK1.out; omega
   case rel => exact ⟨(y383), (wrap64 (x21_1 + 1)), sr_, H', ⟨by have := HK1.out; omega⟩, ⟨Kd.R_p HO385⟩, ⟨Kd.R_p HO_19⟩, ⟨hb_ HB⟩⟩
  replace c13 := Bool.eq_false_iff.mpr c13
  subst c13
  rw [if_neg (show ¬ (false = true) by decide)] at H
  simp only [Option.some.injEq, Prod.mk.injEq] at H
  obtain ⟨rfl, rfl⟩ := H
  have p380 : 0 ≤ (x21_1 : Int) := od_
  have q380 : x21_1 < (t374.length : Int) := od_
  obtain ⟨ad380, e380, hx380_0⟩ := Kd.at_string (Kd.R_reads' HO_19.out).2.2 x21_1 p380 q380
  cases e380
  replace p380 := eq_true p380
  replace q380 := eq_true q380
  go_wp2_with (first | ((with_reducible refine gk_ 66 ?_); refine gq_ 27 Tryz.func66 #[.string (rdOf ByteArray.empty t374 x21_1)] ?_; (with_reducible refine (impl_decimal.calls k1 (rdOf ByteArray.empty t374 x21_1) t381 false _ A12.out).mono ?_); rintro e w' ⟨rfl, ⟨nd, rfl⟩⟩; refine ⟨_, rfl, ?_⟩))
  go_ret2
  exact ⟨_, se_, by first | exact Kd.R_nil _ _ _ _ _ | exact Kd.N_nil _ _ _ _ _ | exact Kd.V_nil _ _ _ _ _ | exact Kd.Q_nil _ _ _ _ _ | exact Kd.S_nil _ _ _ _ _, hb_ HB⟩
 rw [if_neg c4] at H
 have c4b0 : ((t374.length : Int) == a1) = false := beq_eq_false_iff_ne.mpr c4
 have c4b1 : ((t374.length : Int) != a1) = true := bne_iff_ne.mpr c4
 simp only [Option.some.injEq, Prod.mk.injEq] at H
 obtain ⟨rfl, rfl⟩ := H
 go_enter Tryz.func37, Tryz.ntmps37
 go_wp2_with (first | ((with_reducible refine gk_ 64 ?_); refine gq_ 13 Tryz.func64 #[.string a0, .string ⟨#[32]⟩] ?_; (with_reducible refine (strings_Split.calls a0 (⟨#[32]⟩ : ByteArray) t374 _ A3.out (by exact LaidW.step HLw (hb_ HB))).mono ?_); rintro e w16 ⟨v375, rfl, ho0, hb⟩; refine ⟨_, rfl, ?_⟩; have HO376 := Kd.R_lo ho0 HB; replace HB := hbs_ HB hb; obtain ⟨Ao17, co17, eo17⟩ := Kd.R_slice HO376.out; subst eo17))
 go_ret2
 exact ⟨_, se_, by first | exact Kd.R_nil _ _ _ _ _ | exact Kd.N_nil _ _ _ _ _ | exact Kd.V_nil _ _ _ _ _ | exact Kd.Q_nil _ _ _ _ _ | exact Kd.S_nil _ _ _ _ _, hb_ HB⟩

/-! ### strings_ReplaceAll: function 38 -/
def strings_ReplaceAll.f (a0 a1 a2 : ByteArray) : Option (ByteArray) := if a0.size ≤ 4294967280 then (if 1 ≤ a1.size then (if a2.size ≤ 1 then some (⟨(Lib.replaceAll a0.data.toList a1.data.toList a2.data.toList).toArray⟩ : ByteArray) else none) else none) else none
theorem strings_ReplaceAll.calls (a0 a1 a2 : ByteArray) (r : ByteArray) (w : World) (h : strings_ReplaceAll.f a0 a1 a2 = some r) (hL : LaidW w) :
  Calls Tryz.prog 38 #[.string a0, .string a1, .string a2] w fun e w' => e = .returned (.string r) ∧ Below w.heap.size w w' := by
 unfold strings_ReplaceAll.f at h
 by_cases h0 : a0.size ≤ 4294967280
 case neg => (rw [if_neg h0] at h; cases h)
 rw [if_pos h0] at h
 by_cases h1 : 1 ≤ a1.size
 case neg => (rw [if_neg h1] at h; cases h)
 rw [if_pos h1] at h
 by_cases h2 : a2.size ≤ 1
 ·rw [if_pos h2] at h
  obtain rfl := Option.some.inj h
  obtain ⟨m, hm⟩ := hL.1
  have hle := Lib.countB_le a1 h1 a0.size a0 (Nat.le_refl _)
  have hmul : Lib.countB a0 a1 * a2.size ≤ Lib.countB a0 a1 * 1 := Nat.mul_le_mul (Nat.le_refl _) h2
  exact Tryz.strings_ReplaceAll a0 a1 a2 m w (by omega) hm h1 (by omega)
 rw [if_neg h2] at h; cases h

/-! ### strings_Contains: function 39 -/
def strings_Contains.f (a0 a1 : ByteArray) : Option (Bool) := if a1.size = 1 then some (decide (0 ≤ Lib.indexByte a0.data.toList (a1.data.toList.headD 0))) else none
theorem strings_Contains.calls (a0 a1 : ByteArray) (r : Bool) (w : World) (h : strings_Contains.f a0 a1 = some r) :
  Calls Tryz.prog 39 #[.string a0, .string a1] w fun e w' => e = .returned (.bool r) ∧ w' = w := by
 unfold strings_Contains.f at h
 by_cases h0 : a1.size = 1
 ·rw [if_pos h0] at h
  obtain rfl := Option.some.inj h
  obtain ⟨c, rfl⟩ := Lib.one_byte a1 h0
  exact Tryz.strings_Contains_one a0 c w
 rw [if_neg h0] at h; cases h

end Go.Proofs.YthphbkkkbolcnaaGreatDoor.PFnModels
