-- Laid for this claim by wip/tools/print2.sh, a changed copy of the kit's print (wip/tools/patch_print.py): not by print.sh.
import Derived.Test.YtceajigggcihnaaPFnPiecesx0
import Derived.Test.YtceajigggcihnaaVFnPieces
namespace Go.Proofs.Ytceajigggcihnaa.PFnPieces
open Go.RowKit Go.Proofs.YtceajigggcihnaaW.PrintWords Go.Proofs.YtceajigggcihnaaW.PrintLast Go.Proofs.YtceajigggcihnaaW.PrintMore
attribute [local go_sem] max2_int min2_int max_two min_two max_three min_three max_four min_four   -- for this text's walks alone
set_option linter.unusedVariables false
set_option linter.unusedSimpArgs false

/-! ### impl_sharesOf: function 74 -/
mutual
def impl_sharesOf.l0 : Nat → Int → List Int → Int → List Int → Int → Int → Option (List Int)
 | 0, _, _, _, _, _, _ => none
 | k + 1, x0, x1, x5, x15, x16, x17 => if x17 < x16 then (if 0 ≤ x17 then (if x17 < (x15.length : Int) then (impl_sharesOf.l0 k x0 x1 (wrap64 (x5 + (rd x15 x17))) x15 x16 (wrap64 (x17 + 1))) else (none)) else (none)) else (if 0 ≤ (x1.length : Int) then (if ((x1.length : Int) : Int).toNat ≤ 35184372088832 then (impl_sharesOf.l1 k x0 x5 (List.replicate ((x1.length : Int) : Int).toNat 0) (List.replicate ((x1.length : Int) : Int).toNat 0) x0 x1 (x1.length : Int) 0) else (none)) else (none))
def impl_sharesOf.l1 : Nat → Int → Int → List Int → List Int → Int → List Int → Int → Int → Option (List Int)
 | 0, _, _, _, _, _, _, _, _ => none
 | k + 1, x0, x5, x8, x9, x10, x32, x33, x34 => if x34 < x33 then (if 0 ≤ x34 then (if x34 < (x32.length : Int) then (if x5 = 0 then (none) else (if x34 < (x8.length : Int) then ((some (x8.set (x34 : Int).toNat (wrap64 (Int.tdiv (wrap64 (x0 * (rd x32 x34))) x5)) : List Int)).bind fun y217 => (if x34 < (x9.length : Int) then (impl_sharesOf.l1 k x0 x5 y217 (x9.set (x34 : Int).toNat (Int.tmod (wrap64 (x0 * (rd x32 x34))) x5)) (wrap64 (x10 - (rd y217 x34))) x32 x33 (wrap64 (x34 + 1))) else (none))) else (none))) else (none)) else (none)) else (impl_sharesOf.l2 k x8 x9 x10)
def impl_sharesOf.l2 : Nat → List Int → List Int → Int → Option (List Int)
 | 0, _, _, _ => none
 | k + 1, x8, x9, x10 => if x10 > 0 then (impl_sharesOf.l3 k x8 x9 x10 0 (x9.length : Int) 0) else (some x8)
def impl_sharesOf.l3 : Nat → List Int → List Int → Int → Int → Int → Int → Option (List Int)
 | 0, _, _, _, _, _, _ => none
 | k + 1, x8, x9, x10, x13, x67, x68 => if x68 < x67 then (if 0 ≤ x68 then (if x68 < (x9.length : Int) then (if 0 ≤ x13 then (if x13 < (x9.length : Int) then (if (rd x9 x68) > (rd x9 x13) then (impl_sharesOf.l3 k x8 x9 x10 x68 x67 (wrap64 (x68 + 1))) else (impl_sharesOf.l3 k x8 x9 x10 x13 x67 (wrap64 (x68 + 1)))) else (none)) else (none)) else (none)) else (none)) else (if 0 ≤ x13 then (if x13 < (x8.length : Int) then (if x13 < (x9.length : Int) then (impl_sharesOf.l2 k (x8.set (x13 : Int).toNat (wrap64 ((rd x8 x13) + 1))) (x9.set (x13 : Int).toNat (-1)) (wrap64 (x10 - 1))) else (none)) else (none)) else (none))
end
def impl_sharesOf.f (k : Nat) (a0 : Int) (l1 : List Int) : Option (List Int) := impl_sharesOf.l0 k a0 l1 0 l1 (l1.length : Int) 0
set_option maxHeartbeats 8000000 in
set_option maxRecDepth 100000 in
theorem impl_sharesOf.calls (k : Nat) (a0 : Int) (A1 : Option Addr) (c1 : Nat) (l1 : List Int) (r : List Int) (w : World) (hr1 : Kd.C (Kd.int .i64) w A1 l1.length l1) (hc1 : l1.length ≤ c1) (h : impl_sharesOf.f k a0 l1 = some r) :
  Calls Try.prog 74 #[.int .i64 a0, .slice A1 l1.length c1] w fun e w' => ∃ v0_ : Value, e = .returned (v0_) ∧ Kd.R (Kd.int .i64) 3 w' w.heap.size (fun _ => True) v0_ r ∧ Below w.heap.size w w' := by
 have HR1 := Aside0.mk hr1
 have HC1 := Aside0.mk hc1
 clear hr1 hc1
 have HB := Aside0.mk (Below.refl w.heap.size w)
 have H : (impl_sharesOf.l0 k a0 l1 0 l1 (l1.length : Int) 0) = some r := h
 clear h
 have H' := Aside0.mk H
 clear H
 go_enter Try.func74, Try.ntmps74
 go_wp2
 repeat (go_quiet (fail); try go_wp2)
 go_loopg [5, 17] k (fun kq v5 v17 w' => ∃ (x5_1 : Int) (x17_1 : Int), v5 = .int .i64 x5_1 ∧ v17 = .int .i64 x17_1 ∧ Aside0 (impl_sharesOf.l0 kq a0 l1 x5_1 l1 (l1.length : Int) x17_1 = some r) ∧ Aside0 (kq ≤ k) ∧ Aside0 (Below w.heap.size w w'))
 case atStart => exact ⟨(0), (0), (by first | rfl | (simp; done) | (simp [*]; done)), (by first | rfl | (simp; done) | (simp [*]; done)), H', ⟨Nat.le_refl _⟩, ⟨hb_ HB⟩⟩
 case round =>
  clear H'
  (try clear c1); (try clear p2)
  obtain ⟨x5_1, x17_1, rfl, rfl, HA, HK1, HB⟩ := hrel
  cases gk with
  | zero => exact absurd HA.out (by simp [impl_sharesOf.l0])
  | succ k1 =>
   have H := HA.out
   clear HA
   simp only [impl_sharesOf.l0] at H
   by_cases c3 : x17_1 < (l1.length : Int)
   ·rw [if_pos c3] at H
    have c3b0 : decide (x17_1 < (l1.length : Int)) = true := decide_eq_true c3
    clear c3
    by_cases c4 : 0 ≤ x17_1
    ·rw [if_pos c4] at H
     have c4b0 : decide (0 ≤ x17_1) = true := decide_eq_true c4
     clear c4
     by_cases c5 : x17_1 < (l1.length : Int)
     ·rw [if_pos c5] at H
      have c5b0 : decide (x17_1 < (l1.length : Int)) = true := decide_eq_true c5
      clear c5
      have H' := Aside0.mk H
      clear H
      have p209 : 0 ≤ (x17_1 : Int) := of_decide_eq_true (by first | (with_reducible assumption) | assumption)
      have q209 : x17_1 < (l1.length : Int) := of_decide_eq_true (by first | (with_reducible assumption) | assumption)
      obtain ⟨ad209, e209, hx209_0⟩ := Kd.at_int HR1.out x17_1 p209 q209
      cases e209
      replace hx209_0 := (HB.out.cell (World.block_lt_of_cell? w _ hx209_0)).trans hx209_0
      replace p209 := eq_true p209
      replace q209 := eq_true q209
      go_wp2
      repeat (go_quiet (fail); try go_wp2)
      go_roundg k1
      case measure => have := HK1.out; omega
      case rel => exact ⟨(wrap64 (x5_1 + (rd l1 x17_1))), (wrap64 (x17_1 + 1)), (by first | rfl | (simp; done) | (simp [*]; done)), (by first | rfl | (simp; done) | (simp [*]; done)), H', ⟨by have := HK1.out; omega⟩, ⟨hb_ HB⟩⟩
     ·rw [if_neg c5] at H
      exact absurd H (by simp)
    ·rw [if_neg c4] at H
     exact absurd H (by simp)
   ·rw [if_neg c3] at H
    have c3b0 : decide (x17_1 < (l1.length : Int)) = false := decide_eq_false c3
    clear c3
    by_cases c6 : 0 ≤ (l1.length : Int)
    ·rw [if_pos c6] at H
     have c6b0 := eq_true c6
     have c6b1 : decide (0 ≤ (l1.length : Int)) = true := decide_eq_true c6
     clear c6
     by_cases c7 : ((l1.length : Int) : Int).toNat ≤ 35184372088832
     ·rw [if_pos c7] at H
      have c7b0 := eq_true c7
      have c7b1 : decide (((l1.length : Int) : Int).toNat ≤ 35184372088832) = true := decide_eq_true c7
      clear c7
      obtain ⟨y210, hy210⟩ : ∃ y_ : List Int, y_ = (List.replicate ((l1.length : Int) : Int).toNat 0) := ⟨_, rfl⟩
      replace H : (impl_sharesOf.l1 k1 a0 x5_1 y210 (List.replicate ((l1.length : Int) : Int).toNat 0) a0 l1 (l1.length : Int) 0) = some r := by first | (rw [hy210]; with_reducible exact H) | (have H2_ := (Option.bind_some _ _).symm.trans H; rw [hy210]; with_reducible exact H2_) | (have H2_ := (Option.bind_some _ _).symm.trans H; with_reducible exact H2_) | with_reducible exact H | (rw [hy210]; exact H) | exact H
      have Ny210 := Aside0.mk hy210
      clear hy210
      obtain ⟨y213, hy213⟩ : ∃ y_ : List Int, y_ = (List.replicate ((l1.length : Int) : Int).toNat 0) := ⟨_, rfl⟩
      replace H : (impl_sharesOf.l1 k1 a0 x5_1 y210 y213 a0 l1 (l1.length : Int) 0) = some r := by first | (rw [hy213]; with_reducible exact H) | (have H2_ := (Option.bind_some _ _).symm.trans H; rw [hy213]; with_reducible exact H2_) | (have H2_ := (Option.bind_some _ _).symm.trans H; with_reducible exact H2_) | with_reducible exact H | (rw [hy213]; exact H) | exact H
      have Ny213 := Aside0.mk hy213
      clear hy213
      have H' := Aside0.mk H
      clear H
      go_wp2_with (first | ((with_reducible refine gate_dst (N := 27) rfl ?_); refine Kd.R_make (Kd.int .i64) _ 3 rfl (N := 27) rfl 24 _ _ rfl (l1.length : Int) rfl rfl Try.underlying24 (.int .i64 0) 8 info3 rfl (by decide) (by omega) 0 (ok := fun _ => True) (okp := fun _ => True) rfl (fun _ hk => hk) trivial (of_decide_eq_true (by first | (with_reducible assumption) | assumption)) (Nat.le_trans (Nat.mul_le_mul_right _ (of_decide_eq_true (by first | (with_reducible assumption) | assumption) : (l1.length : Int).toNat ≤ 35184372088832)) (by omega)) (Below.refl _ _) (Nat.le_refl _) ?_; intro v211 w8 ho9 hb hg_ hnew_; clear hg_ hnew_; (first | rw [← Ny210.out] at ho9 | (simp only [Int.reduceToNat] at ho9; rw [← Ny210.out] at ho9)); have HO212 := Kd.R_lo ho9 HB; replace HB := hbs_ HB hb; clear hb ho9) | ((with_reducible refine gate_dst (N := 30) rfl ?_); refine Kd.R_make (Kd.int .i64) _ 3 rfl (N := 30) rfl 24 _ _ rfl (l1.length : Int) rfl rfl Try.underlying24 (.int .i64 0) 8 info3 rfl (by decide) (by omega) 0 (ok := fun _ => True) (okp := fun _ => True) rfl (fun _ hk => hk) trivial (of_decide_eq_true (by first | (with_reducible assumption) | assumption)) (Nat.le_trans (Nat.mul_le_mul_right _ (of_decide_eq_true (by first | (with_reducible assumption) | assumption) : (l1.length : Int).toNat ≤ 35184372088832)) (by omega)) (Below.refl _ _) (Nat.le_refl _) ?_; intro v214 w10 ho11 hb hg_ hnew_; clear hg_ hnew_; (first | rw [← Ny213.out] at ho11 | (simp only [Int.reduceToNat] at ho11; rw [← Ny213.out] at ho11)); have HO215 := Kd.R_lo (Kd.R_nw ho11 HO212) HB; replace HO212 := Kd.R_e HO212 ho11 hb; replace HB := hbs_ HB hb; clear hb ho11))
      repeat (go_quiet (first | ((with_reducible refine gate_dst (N := 27) rfl ?_); refine Kd.R_make (Kd.int .i64) _ 3 rfl (N := 27) rfl 24 _ _ rfl (l1.length : Int) rfl rfl Try.underlying24 (.int .i64 0) 8 info3 rfl (by decide) (by omega) 0 (ok := fun _ => True) (okp := fun _ => True) rfl (fun _ hk => hk) trivial (of_decide_eq_true (by first | (with_reducible assumption) | assumption)) (Nat.le_trans (Nat.mul_le_mul_right _ (of_decide_eq_true (by first | (with_reducible assumption) | assumption) : (l1.length : Int).toNat ≤ 35184372088832)) (by omega)) (Below.refl _ _) (Nat.le_refl _) ?_; intro v211 w8 ho9 hb hg_ hnew_; clear hg_ hnew_; (first | rw [← Ny210.out] at ho9 | (simp only [Int.reduceToNat] at ho9; rw [← Ny210.out] at ho9)); have HO212 := Kd.R_lo ho9 HB; replace HB := hbs_ HB hb; clear hb ho9) | ((with_reducible refine gate_dst (N := 30) rfl ?_); refine Kd.R_make (Kd.int .i64) _ 3 rfl (N := 30) rfl 24 _ _ rfl (l1.length : Int) rfl rfl Try.underlying24 (.int .i64 0) 8 info3 rfl (by decide) (by omega) 0 (ok := fun _ => True) (okp := fun _ => True) rfl (fun _ hk => hk) trivial (of_decide_eq_true (by first | (with_reducible assumption) | assumption)) (Nat.le_trans (Nat.mul_le_mul_right _ (of_decide_eq_true (by first | (with_reducible assumption) | assumption) : (l1.length : Int).toNat ≤ 35184372088832)) (by omega)) (Below.refl _ _) (Nat.le_refl _) ?_; intro v214 w10 ho11 hb hg_ hnew_; clear hg_ hnew_; (first | rw [← Ny213.out] at ho11 | (simp only [Int.reduceToNat] at ho11; rw [← Ny213.out] at ho11)); have HO215 := Kd.R_lo (Kd.R_nw ho11 HO212) HB; replace HO212 := Kd.R_e HO212 ho11 hb; replace HB := hbs_ HB hb; clear hb ho11)); try go_wp2_with (first | ((with_reducible refine gate_dst (N := 27) rfl ?_); refine Kd.R_make (Kd.int .i64) _ 3 rfl (N := 27) rfl 24 _ _ rfl (l1.length : Int) rfl rfl Try.underlying24 (.int .i64 0) 8 info3 rfl (by decide) (by omega) 0 (ok := fun _ => True) (okp := fun _ => True) rfl (fun _ hk => hk) trivial (of_decide_eq_true (by first | (with_reducible assumption) | assumption)) (Nat.le_trans (Nat.mul_le_mul_right _ (of_decide_eq_true (by first | (with_reducible assumption) | assumption) : (l1.length : Int).toNat ≤ 35184372088832)) (by omega)) (Below.refl _ _) (Nat.le_refl _) ?_; intro v211 w8 ho9 hb hg_ hnew_; clear hg_ hnew_; (first | rw [← Ny210.out] at ho9 | (simp only [Int.reduceToNat] at ho9; rw [← Ny210.out] at ho9)); have HO212 := Kd.R_lo ho9 HB; replace HB := hbs_ HB hb; clear hb ho9) | ((with_reducible refine gate_dst (N := 30) rfl ?_); refine Kd.R_make (Kd.int .i64) _ 3 rfl (N := 30) rfl 24 _ _ rfl (l1.length : Int) rfl rfl Try.underlying24 (.int .i64 0) 8 info3 rfl (by decide) (by omega) 0 (ok := fun _ => True) (okp := fun _ => True) rfl (fun _ hk => hk) trivial (of_decide_eq_true (by first | (with_reducible assumption) | assumption)) (Nat.le_trans (Nat.mul_le_mul_right _ (of_decide_eq_true (by first | (with_reducible assumption) | assumption) : (l1.length : Int).toNat ≤ 35184372088832)) (by omega)) (Below.refl _ _) (Nat.le_refl _) ?_; intro v214 w10 ho11 hb hg_ hnew_; clear hg_ hnew_; (first | rw [← Ny213.out] at ho11 | (simp only [Int.reduceToNat] at ho11; rw [← Ny213.out] at ho11)); have HO215 := Kd.R_lo (Kd.R_nw ho11 HO212) HB; replace HO212 := Kd.R_e HO212 ho11 hb; replace HB := hbs_ HB hb; clear hb ho11)))
      go_loopg [10, 34] k1 (fun kq v10 v34 w' => ∃ (x8_2 : List Int) (x9_2 : List Int) (x10_2 : Int) (x34_2 : Int), v10 = .int .i64 x10_2 ∧ v34 = .int .i64 x34_2 ∧ Aside0 (impl_sharesOf.l1 kq a0 x5_1 x8_2 x9_2 x10_2 l1 (l1.length : Int) x34_2 = some r) ∧ Aside0 (kq ≤ k1) ∧ Aside0 (Kd.R (Kd.int .i64) 3 w' w.heap.size (fun k_ => some k_ ≠ (v214 : Value).ownBlock) v211 x8_2) ∧ Aside0 (Kd.R (Kd.int .i64) 3 w' w.heap.size (fun k_ => some k_ ≠ (v211 : Value).ownBlock) v214 x9_2) ∧ Aside0 (Below w.heap.size w w'))
      case atStart => exact ⟨(y210), (y213), (a0), (0), (by first | rfl | (simp; done) | (simp [*]; done)), (by first | rfl | (simp; done) | (simp [*]; done)), H', ⟨Nat.le_refl _⟩, ⟨Kd.R_pp (Kd.R_mono HO212.out (fun _ hk => hk.2))⟩, ⟨Kd.R_pp (Kd.R_mono HO215.out (fun _ hk => hk.2))⟩, ⟨hb_ HB⟩⟩
      case round =>
       clear H'
       (try clear c1); (try clear p2); (try clear q2); (try clear hx2); (try clear c3); (try clear c3b0); (try clear c4); (try clear c4b0); (try clear c5); (try clear c5b0); (try clear c6); (try clear c6b0); (try clear c6b1); (try clear p6); (try clear c7); (try clear c7b0); (try clear c7b1)
       obtain ⟨x8_2, x9_2, x10_2, x34_2, rfl, rfl, HA, HK2, HO_8, HO_9, HB⟩ := hrel
       cases gk with
       | zero => exact absurd HA.out (by simp [impl_sharesOf.l1])
       | succ k2 =>
        have H := HA.out
        clear HA
        simp only [impl_sharesOf.l1] at H
        by_cases c12 : x34_2 < (l1.length : Int)
        ·rw [if_pos c12] at H
         have c12b0 : decide (x34_2 < (l1.length : Int)) = true := decide_eq_true c12
         clear c12
         by_cases c13 : 0 ≤ x34_2
         ·rw [if_pos c13] at H
          have c13b0 : decide (0 ≤ x34_2) = true := decide_eq_true c13
          clear c13
          by_cases c14 : x34_2 < (l1.length : Int)
          ·rw [if_pos c14] at H
           have c14b0 : decide (x34_2 < (l1.length : Int)) = true := decide_eq_true c14
           clear c14
           by_cases c15 : x5_1 = 0
           ·rw [if_pos c15] at H
            exact absurd H (by simp)
           ·rw [if_neg c15] at H
            have c15b0 : (x5_1 == 0) = false := beq_eq_false_iff_ne.mpr c15
            have c15b1 : (x5_1 != 0) = true := bne_iff_ne.mpr c15
            by_cases c16 : x34_2 < (x8_2.length : Int)
            ·rw [if_pos c16] at H
             have c16b0 : decide (x34_2 < (x8_2.length : Int)) = true := decide_eq_true c16
             clear c16
             obtain ⟨y217, hy217⟩ : ∃ y_ : List Int, y_ = (x8_2.set (x34_2 : Int).toNat (wrap64 (Int.tdiv (wrap64 (a0 * (rd l1 x34_2))) x5_1))) := ⟨_, rfl⟩
             replace H : (if x34_2 < (x9_2.length : Int) then (impl_sharesOf.l1 k2 a0 x5_1 y217 (x9_2.set (x34_2 : Int).toNat (Int.tmod (wrap64 (a0 * (rd l1 x34_2))) x5_1)) (wrap64 (x10_2 - (rd y217 x34_2))) l1 (l1.length : Int) (wrap64 (x34_2 + 1))) else (none)) = some r := by first | (rw [hy217]; with_reducible exact H) | (have H2_ := (Option.bind_some _ _).symm.trans H; rw [hy217]; with_reducible exact H2_) | (have H2_ := (Option.bind_some _ _).symm.trans H; with_reducible exact H2_) | with_reducible exact H | (rw [hy217]; exact H) | exact H
             have Ny217 := Aside0.mk hy217
             clear hy217
             by_cases c18 : x34_2 < (x9_2.length : Int)
             ·rw [if_pos c18] at H
              have c18b0 : decide (x34_2 < (x9_2.length : Int)) = true := decide_eq_true c18
              clear c18
              obtain ⟨y218, hy218⟩ : ∃ y_ : List Int, y_ = (x9_2.set (x34_2 : Int).toNat (Int.tmod (wrap64 (a0 * (rd l1 x34_2))) x5_1)) := ⟨_, rfl⟩
              replace H : (impl_sharesOf.l1 k2 a0 x5_1 y217 y218 (wrap64 (x10_2 - (rd y217 x34_2))) l1 (l1.length : Int) (wrap64 (x34_2 + 1))) = some r := by first | (rw [hy218]; with_reducible exact H) | (have H2_ := (Option.bind_some _ _).symm.trans H; rw [hy218]; with_reducible exact H2_) | (have H2_ := (Option.bind_some _ _).symm.trans H; with_reducible exact H2_) | with_reducible exact H | (rw [hy218]; exact H) | exact H
              have Ny218 := Aside0.mk hy218
              clear hy218
              have H' := Aside0.mk H
              clear H
              have p216 : 0 ≤ (x34_2 : Int) := of_decide_eq_true (by first | (with_reducible assumption) | assumption)
              have q216 : x34_2 < (l1.length : Int) := of_decide_eq_true (by first | (with_reducible assumption) | assumption)
              obtain ⟨ad216, e216, hx216_0⟩ := Kd.at_int HR1.out x34_2 p216 q216
              cases e216
              replace hx216_0 := (HB.out.cell (World.block_lt_of_cell? w _ hx216_0)).trans hx216_0
              replace p216 := eq_true p216
              replace q216 := eq_true q216
              have p17 : 0 ≤ (x34_2 : Int) := of_decide_eq_true (by first | (with_reducible assumption) | assumption)
              have q17 : (x34_2 : Int) < ((x8_2.length : Int) : Int) := of_decide_eq_true (by first | (with_reducible assumption) | assumption)
              obtain ⟨go17, co17, eo17, gb17, gl17, cl17, HG17⟩ := Kd.R_form HO_8.out (by omega)
              (first | cases eo17 | (injection eo17 with ea_ en_ ec_; (first | subst ea_ | (injection ea_ with ea_; subst ea_)); subst ec_; clear en_))
              have GB17 := Aside0.mk gb17
              have GG17 := Aside0.mk HG17
              clear gb17 gl17 HG17
              obtain ⟨hx17_0, hf17_0⟩ := Kd.R_celln 0 HO_8.out (x34_2 : Int) p17 q17
              replace p17 := eq_true p17
              replace q17 := eq_true q17
              have HP20 := Kd.R_putg HO_8.out (x34_2 : Int) (wrap64 (Int.tdiv (wrap64 (a0 * (rd l1 x34_2))) x5_1))
              go_wp2_with (first | ((with_reducible refine gate_store (t := 3) (p := 46) rfl ?_); (try (rw [drewN_self wr]; generalize hq_ : World.drewN wr _ = wr; have n0_ := Aside0.mk (Kd.R_at hq_ HO_8.out); have n1_ := Aside0.mk (Kd.R_at hq_ HO_9.out); have n2_ := Aside0.mk (below_at hq_ HB.out); clear hq_ HO_8 HO_9 HB; have HO_8 := n0_; have HO_9 := n1_; have HB := n2_; clear n0_ n1_ n2_; (try (have HP20 := Kd.R_putg HO_8.out (x34_2 : Int) (wrap64 (Int.tdiv (wrap64 (a0 * (rd l1 x34_2))) x5_1)))))); refine store_event (t := 3) (p := 46) (v := ?vo_w21) (w1 := (wr.setCell ⟨go17, (x34_2 : Int).toNat, none⟩ (.int .i64 (wrap64 (Int.tdiv (wrap64 (a0 * (rd l1 x34_2))) x5_1))))) ?hg ?ho ?hn ?hr ?_; (case ho => rfl); (case hg => rfl); (case hn => rfl); (case hr => first | (go_simp; done) | (go_simp; rfl)); intro w21 hw; have hg : wr.grownBy w21 (some go17) := (by rw [hw]; exact HP20.2); have hp_ : Kd.R (Kd.int .i64) 3 w21 w.heap.size (fun k_ => some k_ ≠ (v214 : Value).ownBlock) (.slice (some ⟨go17, 0, none⟩) x8_2.length co17) y217 := (by rw [hw, Ny217.out]; exact HP20.1); clear HP20; replace HO_8 := Aside0.mk (hp_); replace HO_9 := Aside0.mk (Kd.R_after (v := (.slice (some ⟨go17, 0, none⟩) x8_2.length co17)) (v1 := (.slice (some ⟨go17, 0, none⟩) x8_2.length co17)) (ok := (fun _ => True)) (Kd.R_pp (Kd.R_mono HO_9.out (fun _ hk => ⟨trivial, hk⟩))) hg (.inl rfl)); replace HB := Aside0.mk ((by rw [hw]; exact below_set (HB.out) GB17.out : Below w.heap.size w w21)); clear hg hw hp_; have p19 : 0 ≤ (x34_2 : Int) := of_decide_eq_true (by first | (with_reducible assumption) | assumption); have q19 : (x34_2 : Int) < ((x9_2.length : Int) : Int) := of_decide_eq_true (by first | (with_reducible assumption) | assumption); obtain ⟨go19, co19, eo19, gb19, gl19, cl19, HG19⟩ := Kd.R_form HO_9.out (by omega); (first | cases eo19 | (injection eo19 with ea_ en_ ec_; (first | subst ea_ | (injection ea_ with ea_; subst ea_)); subst ec_; clear en_)); have GB19 := Aside0.mk gb19; have GG19 := Aside0.mk HG19; clear gb19 gl19 HG19; obtain ⟨hx19_0, hf19_0⟩ := Kd.R_celln 0 HO_9.out (x34_2 : Int) p19 q19; replace p19 := eq_true p19; replace q19 := eq_true q19; have n_ := Aside0.mk (Kd.R_mono (ok' := (fun k_ => some k_ ≠ (.slice (some ⟨go17, 0, none⟩) x8_2.length co17 : Value).ownBlock)) HO_9.out (fun k_ hk => hk.2)); clear HO_9; have HO_9 := n_; clear n_; obtain ⟨hy22_, hz22_⟩ := Kd.R_celln 0 HO_9.out (x34_2 : Int) (of_decide_eq_true (by first | (with_reducible assumption) | assumption)) (of_decide_eq_true (by first | (with_reducible assumption) | assumption)); have HP22 := Kd.R_putg HO_9.out (x34_2 : Int) (Int.tmod (wrap64 (a0 * (rd l1 x34_2))) x5_1)) | ((with_reducible refine gate_store (t := 3) (p := 54) rfl ?_); (try (rw [drewN_self w21]; generalize hq_ : World.drewN w21 _ = w21; have n0_ := Aside0.mk (Kd.R_at hq_ HO_8.out); have n1_ := Aside0.mk (Kd.R_at hq_ HO_9.out); have n2_ := Aside0.mk (below_at hq_ HB.out); clear hq_ HO_8 HO_9 HB; have HO_8 := n0_; have HO_9 := n1_; have HB := n2_; clear n0_ n1_ n2_; (try (have n_ := Aside0.mk (Kd.R_mono (ok' := (fun k_ => some k_ ≠ (.slice (some ⟨go17, 0, none⟩) x8_2.length co17 : Value).ownBlock)) HO_9.out (fun k_ hk => hk.2)); clear HO_9; have HO_9 := n_; clear n_)); (try (obtain ⟨hy22_, hz22_⟩ := Kd.R_celln 0 HO_9.out (x34_2 : Int) (of_decide_eq_true (by first | (with_reducible assumption) | assumption)) (of_decide_eq_true (by first | (with_reducible assumption) | assumption)))); (try (have HP22 := Kd.R_putg HO_9.out (x34_2 : Int) (Int.tmod (wrap64 (a0 * (rd l1 x34_2))) x5_1))))); refine store_event (t := 3) (p := 54) (v := ?vo_w23) (w1 := (w21.setCell ⟨go19, (x34_2 : Int).toNat, none⟩ (.int .i64 (Int.tmod (wrap64 (a0 * (rd l1 x34_2))) x5_1)))) ?hg ?ho ?hn ?hr ?_; (case ho => rfl); (case hg => rfl); (case hn => rfl); (case hr => first | (go_simp; done) | (go_simp; rfl)); intro w23 hw; have hg : w21.grownBy w23 (some go19) := (by rw [hw]; exact HP22.2); have hp_ : Kd.R (Kd.int .i64) 3 w23 w.heap.size (fun k_ => some k_ ≠ (.slice (some ⟨go17, 0, none⟩) x8_2.length co17 : Value).ownBlock) (.slice (some ⟨go19, 0, none⟩) x9_2.length co19) y218 := (by rw [hw, Ny218.out]; exact HP22.1); clear HP22; replace HO_8 := Aside0.mk (Kd.R_after (v := (.slice (some ⟨go19, 0, none⟩) x9_2.length co19)) (v1 := (.slice (some ⟨go19, 0, none⟩) x9_2.length co19)) (ok := (fun _ => True)) (Kd.R_pp (Kd.R_mono HO_8.out (fun _ hk => ⟨trivial, hk⟩))) hg (.inl rfl)); replace HO_9 := Aside0.mk (hp_); replace HB := Aside0.mk ((by rw [hw]; exact below_set (HB.out) GB19.out : Below w.heap.size w w23)); clear hg hw hp_; have p219 : 0 ≤ (x34_2 : Int) := of_decide_eq_true (by first | (with_reducible assumption) | assumption); have q219 : x34_2 < (y217.length : Int) := (by have h_ : (x34_2 : Int) < ((x8_2.length : Int) : Int) := of_decide_eq_true (by first | (with_reducible assumption) | assumption); first | (have e_ := (Kd.R_reads' HO_8.out).1; omega) | simpa only [Ny217.out, List.length_set] using h_); have ql219 : ((x34_2 : Int) < ((x8_2.length : Int) : Int)) = True := eq_true (of_decide_eq_true (by first | (with_reducible assumption) | assumption)); obtain ⟨ad219, e219, hx219_0⟩ := Kd.at_int (Kd.R_reads' HO_8.out).2.2 x34_2 p219 q219; obtain rfl : (⟨go17, 0, none⟩ : Addr) = ad219 := (by injection e219); (first | simp only [add_plain] at hx219_0 | simp only [add_at] at hx219_0 | simp only [Addr.add, Nat.zero_add] at hx219_0 | skip); replace p219 := eq_true p219; replace q219 := eq_true q219))
              repeat (go_quiet (first | ((with_reducible refine gate_store (t := 3) (p := 46) rfl ?_); (try (rw [drewN_self wr]; generalize hq_ : World.drewN wr _ = wr; have n0_ := Aside0.mk (Kd.R_at hq_ HO_8.out); have n1_ := Aside0.mk (Kd.R_at hq_ HO_9.out); have n2_ := Aside0.mk (below_at hq_ HB.out); clear hq_ HO_8 HO_9 HB; have HO_8 := n0_; have HO_9 := n1_; have HB := n2_; clear n0_ n1_ n2_; (try (have HP20 := Kd.R_putg HO_8.out (x34_2 : Int) (wrap64 (Int.tdiv (wrap64 (a0 * (rd l1 x34_2))) x5_1)))))); refine store_event (t := 3) (p := 46) (v := ?vo_w21) (w1 := (wr.setCell ⟨go17, (x34_2 : Int).toNat, none⟩ (.int .i64 (wrap64 (Int.tdiv (wrap64 (a0 * (rd l1 x34_2))) x5_1))))) ?hg ?ho ?hn ?hr ?_; (case ho => rfl); (case hg => rfl); (case hn => rfl); (case hr => first | (go_simp; done) | (go_simp; rfl)); intro w21 hw; have hg : wr.grownBy w21 (some go17) := (by rw [hw]; exact HP20.2); have hp_ : Kd.R (Kd.int .i64) 3 w21 w.heap.size (fun k_ => some k_ ≠ (v214 : Value).ownBlock) (.slice (some ⟨go17, 0, none⟩) x8_2.length co17) y217 := (by rw [hw, Ny217.out]; exact HP20.1); clear HP20; replace HO_8 := Aside0.mk (hp_); replace HO_9 := Aside0.mk (Kd.R_after (v := (.slice (some ⟨go17, 0, none⟩) x8_2.length co17)) (v1 := (.slice (some ⟨go17, 0, none⟩) x8_2.length co17)) (ok := (fun _ => True)) (Kd.R_pp (Kd.R_mono HO_9.out (fun _ hk => ⟨trivial, hk⟩))) hg (.inl rfl)); replace HB := Aside0.mk ((by rw [hw]; exact below_set (HB.out) GB17.out : Below w.heap.size w w21)); clear hg hw hp_; have p19 : 0 ≤ (x34_2 : Int) := of_decide_eq_true (by first | (with_reducible assumption) | assumption); have q19 : (x34_2 : Int) < ((x9_2.length : Int) : Int) := of_decide_eq_true (by first | (with_reducible assumption) | assumption); obtain ⟨go19, co19, eo19, gb19, gl19, cl19, HG19⟩ := Kd.R_form HO_9.out (by omega); (first | cases eo19 | (injection eo19 with ea_ en_ ec_; (first | subst ea_ | (injection ea_ with ea_; subst ea_)); subst ec_; clear en_)); have GB19 := Aside0.mk gb19; have GG19 := Aside0.mk HG19; clear gb19 gl19 HG19; obtain ⟨hx19_0, hf19_0⟩ := Kd.R_celln 0 HO_9.out (x34_2 : Int) p19 q19; replace p19 := eq_true p19; replace q19 := eq_true q19; have n_ := Aside0.mk (Kd.R_mono (ok' := (fun k_ => some k_ ≠ (.slice (some ⟨go17, 0, none⟩) x8_2.length co17 : Value).ownBlock)) HO_9.out (fun k_ hk => hk.2)); clear HO_9; have HO_9 := n_; clear n_; obtain ⟨hy22_, hz22_⟩ := Kd.R_celln 0 HO_9.out (x34_2 : Int) (of_decide_eq_true (by first | (with_reducible assumption) | assumption)) (of_decide_eq_true (by first | (with_reducible assumption) | assumption)); have HP22 := Kd.R_putg HO_9.out (x34_2 : Int) (Int.tmod (wrap64 (a0 * (rd l1 x34_2))) x5_1)) | ((with_reducible refine gate_store (t := 3) (p := 54) rfl ?_); (try (rw [drewN_self w21]; generalize hq_ : World.drewN w21 _ = w21; have n0_ := Aside0.mk (Kd.R_at hq_ HO_8.out); have n1_ := Aside0.mk (Kd.R_at hq_ HO_9.out); have n2_ := Aside0.mk (below_at hq_ HB.out); clear hq_ HO_8 HO_9 HB; have HO_8 := n0_; have HO_9 := n1_; have HB := n2_; clear n0_ n1_ n2_; (try (have n_ := Aside0.mk (Kd.R_mono (ok' := (fun k_ => some k_ ≠ (.slice (some ⟨go17, 0, none⟩) x8_2.length co17 : Value).ownBlock)) HO_9.out (fun k_ hk => hk.2)); clear HO_9; have HO_9 := n_; clear n_)); (try (obtain ⟨hy22_, hz22_⟩ := Kd.R_celln 0 HO_9.out (x34_2 : Int) (of_decide_eq_true (by first | (with_reducible assumption) | assumption)) (of_decide_eq_true (by first | (with_reducible assumption) | assumption)))); (try (have HP22 := Kd.R_putg HO_9.out (x34_2 : Int) (Int.tmod (wrap64 (a0 * (rd l1 x34_2))) x5_1))))); refine store_event (t := 3) (p := 54) (v := ?vo_w23) (w1 := (w21.setCell ⟨go19, (x34_2 : Int).toNat, none⟩ (.int .i64 (Int.tmod (wrap64 (a0 * (rd l1 x34_2))) x5_1)))) ?hg ?ho ?hn ?hr ?_; (case ho => rfl); (case hg => rfl); (case hn => rfl); (case hr => first | (go_simp; done) | (go_simp; rfl)); intro w23 hw; have hg : w21.grownBy w23 (some go19) := (by rw [hw]; exact HP22.2); have hp_ : Kd.R (Kd.int .i64) 3 w23 w.heap.size (fun k_ => some k_ ≠ (.slice (some ⟨go17, 0, none⟩) x8_2.length co17 : Value).ownBlock) (.slice (some ⟨go19, 0, none⟩) x9_2.length co19) y218 := (by rw [hw, Ny218.out]; exact HP22.1); clear HP22; replace HO_8 := Aside0.mk (Kd.R_after (v := (.slice (some ⟨go19, 0, none⟩) x9_2.length co19)) (v1 := (.slice (some ⟨go19, 0, none⟩) x9_2.length co19)) (ok := (fun _ => True)) (Kd.R_pp (Kd.R_mono HO_8.out (fun _ hk => ⟨trivial, hk⟩))) hg (.inl rfl)); replace HO_9 := Aside0.mk (hp_); replace HB := Aside0.mk ((by rw [hw]; exact below_set (HB.out) GB19.out : Below w.heap.size w w23)); clear hg hw hp_; have p219 : 0 ≤ (x34_2 : Int) := of_decide_eq_true (by first | (with_reducible assumption) | assumption); have q219 : x34_2 < (y217.length : Int) := (by have h_ : (x34_2 : Int) < ((x8_2.length : Int) : Int) := of_decide_eq_true (by first | (with_reducible assumption) | assumption); first | (have e_ := (Kd.R_reads' HO_8.out).1; omega) | simpa only [Ny217.out, List.length_set] using h_); have ql219 : ((x34_2 : Int) < ((x8_2.length : Int) : Int)) = True := eq_true (of_decide_eq_true (by first | (with_reducible assumption) | assumption)); obtain ⟨ad219, e219, hx219_0⟩ := Kd.at_int (Kd.R_reads' HO_8.out).2.2 x34_2 p219 q219; obtain rfl : (⟨go17, 0, none⟩ : Addr) = ad219 := (by injection e219); (first | simp only [add_plain] at hx219_0 | simp only [add_at] at hx219_0 | simp only [Addr.add, Nat.zero_add] at hx219_0 | skip); replace p219 := eq_true p219; replace q219 := eq_true q219)); try go_wp2_with (first | ((with_reducible refine gate_store (t := 3) (p := 46) rfl ?_); (try (rw [drewN_self wr]; generalize hq_ : World.drewN wr _ = wr; have n0_ := Aside0.mk (Kd.R_at hq_ HO_8.out); have n1_ := Aside0.mk (Kd.R_at hq_ HO_9.out); have n2_ := Aside0.mk (below_at hq_ HB.out); clear hq_ HO_8 HO_9 HB; have HO_8 := n0_; have HO_9 := n1_; have HB := n2_; clear n0_ n1_ n2_; (try (have HP20 := Kd.R_putg HO_8.out (x34_2 : Int) (wrap64 (Int.tdiv (wrap64 (a0 * (rd l1 x34_2))) x5_1)))))); refine store_event (t := 3) (p := 46) (v := ?vo_w21) (w1 := (wr.setCell ⟨go17, (x34_2 : Int).toNat, none⟩ (.int .i64 (wrap64 (Int.tdiv (wrap64 (a0 * (rd l1 x34_2))) x5_1))))) ?hg ?ho ?hn ?hr ?_; (case ho => rfl); (case hg => rfl); (case hn => rfl); (case hr => first | (go_simp; done) | (go_simp; rfl)); intro w21 hw; have hg : wr.grownBy w21 (some go17) := (by rw [hw]; exact HP20.2); have hp_ : Kd.R (Kd.int .i64) 3 w21 w.heap.size (fun k_ => some k_ ≠ (v214 : Value).ownBlock) (.slice (some ⟨go17, 0, none⟩) x8_2.length co17) y217 := (by rw [hw, Ny217.out]; exact HP20.1); clear HP20; replace HO_8 := Aside0.mk (hp_); replace HO_9 := Aside0.mk (Kd.R_after (v := (.slice (some ⟨go17, 0, none⟩) x8_2.length co17)) (v1 := (.slice (some ⟨go17, 0, none⟩) x8_2.length co17)) (ok := (fun _ => True)) (Kd.R_pp (Kd.R_mono HO_9.out (fun _ hk => ⟨trivial, hk⟩))) hg (.inl rfl)); replace HB := Aside0.mk ((by rw [hw]; exact below_set (HB.out) GB17.out : Below w.heap.size w w21)); clear hg hw hp_; have p19 : 0 ≤ (x34_2 : Int) := of_decide_eq_true (by first | (with_reducible assumption) | assumption); have q19 : (x34_2 : Int) < ((x9_2.length : Int) : Int) := of_decide_eq_true (by first | (with_reducible assumption) | assumption); obtain ⟨go19, co19, eo19, gb19, gl19, cl19, HG19⟩ := Kd.R_form HO_9.out (by omega); (first | cases eo19 | (injection eo19 with ea_ en_ ec_; (first | subst ea_ | (injection ea_ with ea_; subst ea_)); subst ec_; clear en_)); have GB19 := Aside0.mk gb19; have GG19 := Aside0.mk HG19; clear gb19 gl19 HG19; obtain ⟨hx19_0, hf19_0⟩ := Kd.R_celln 0 HO_9.out (x34_2 : Int) p19 q19; replace p19 := eq_true p19; replace q19 := eq_true q19; have n_ := Aside0.mk (Kd.R_mono (ok' := (fun k_ => some k_ ≠ (.slice (some ⟨go17, 0, none⟩) x8_2.length co17 : Value).ownBlock)) HO_9.out (fun k_ hk => hk.2)); clear HO_9; have HO_9 := n_; clear n_; obtain ⟨hy22_, hz22_⟩ := Kd.R_celln 0 HO_9.out (x34_2 : Int) (of_decide_eq_true (by first | (with_reducible assumption) | assumption)) (of_decide_eq_true (by first | (with_reducible assumption) | assumption)); have HP22 := Kd.R_putg HO_9.out (x34_2 : Int) (Int.tmod (wrap64 (a0 * (rd l1 x34_2))) x5_1)) | ((with_reducible refine gate_store (t := 3) (p := 54) rfl ?_); (try (rw [drewN_self w21]; generalize hq_ : World.drewN w21 _ = w21; have n0_ := Aside0.mk (Kd.R_at hq_ HO_8.out); have n1_ := Aside0.mk (Kd.R_at hq_ HO_9.out); have n2_ := Aside0.mk (below_at hq_ HB.out); clear hq_ HO_8 HO_9 HB; have HO_8 := n0_; have HO_9 := n1_; have HB := n2_; clear n0_ n1_ n2_; (try (have n_ := Aside0.mk (Kd.R_mono (ok' := (fun k_ => some k_ ≠ (.slice (some ⟨go17, 0, none⟩) x8_2.length co17 : Value).ownBlock)) HO_9.out (fun k_ hk => hk.2)); clear HO_9; have HO_9 := n_; clear n_)); (try (obtain ⟨hy22_, hz22_⟩ := Kd.R_celln 0 HO_9.out (x34_2 : Int) (of_decide_eq_true (by first | (with_reducible assumption) | assumption)) (of_decide_eq_true (by first | (with_reducible assumption) | assumption)))); (try (have HP22 := Kd.R_putg HO_9.out (x34_2 : Int) (Int.tmod (wrap64 (a0 * (rd l1 x34_2))) x5_1))))); refine store_event (t := 3) (p := 54) (v := ?vo_w23) (w1 := (w21.setCell ⟨go19, (x34_2 : Int).toNat, none⟩ (.int .i64 (Int.tmod (wrap64 (a0 * (rd l1 x34_2))) x5_1)))) ?hg ?ho ?hn ?hr ?_; (case ho => rfl); (case hg => rfl); (case hn => rfl); (case hr => first | (go_simp; done) | (go_simp; rfl)); intro w23 hw; have hg : w21.grownBy w23 (some go19) := (by rw [hw]; exact HP22.2); have hp_ : Kd.R (Kd.int .i64) 3 w23 w.heap.size (fun k_ => some k_ ≠ (.slice (some ⟨go17, 0, none⟩) x8_2.length co17 : Value).ownBlock) (.slice (some ⟨go19, 0, none⟩) x9_2.length co19) y218 := (by rw [hw, Ny218.out]; exact HP22.1); clear HP22; replace HO_8 := Aside0.mk (Kd.R_after (v := (.slice (some ⟨go19, 0, none⟩) x9_2.length co19)) (v1 := (.slice (some ⟨go19, 0, none⟩) x9_2.length co19)) (ok := (fun _ => True)) (Kd.R_pp (Kd.R_mono HO_8.out (fun _ hk => ⟨trivial, hk⟩))) hg (.inl rfl)); replace HO_9 := Aside0.mk (hp_); replace HB := Aside0.mk ((by rw [hw]; exact below_set (HB.out) GB19.out : Below w.heap.size w w23)); clear hg hw hp_; have p219 : 0 ≤ (x34_2 : Int) := of_decide_eq_true (by first | (with_reducible assumption) | assumption); have q219 : x34_2 < (y217.length : Int) := (by have h_ : (x34_2 : Int) < ((x8_2.length : Int) : Int) := of_decide_eq_true (by first | (with_reducible assumption) | assumption); first | (have e_ := (Kd.R_reads' HO_8.out).1; omega) | simpa only [Ny217.out, List.length_set] using h_); have ql219 : ((x34_2 : Int) < ((x8_2.length : Int) : Int)) = True := eq_true (of_decide_eq_true (by first | (with_reducible assumption) | assumption)); obtain ⟨ad219, e219, hx219_0⟩ := Kd.at_int (Kd.R_reads' HO_8.out).2.2 x34_2 p219 q219; obtain rfl : (⟨go17, 0, none⟩ : Addr) = ad219 := (by injection e219); (first | simp only [add_plain] at hx219_0 | simp only [add_at] at hx219_0 | simp only [Addr.add, Nat.zero_add] at hx219_0 | skip); replace p219 := eq_true p219; replace q219 := eq_true q219)))
              go_roundg k2
              case measure => have := HK1.out; have := HK2.out; omega
              case rel => exact ⟨(y217), (y218), (wrap64 (x10_2 - (rd y217 x34_2))), (wrap64 (x34_2 + 1)), (by first | rfl | (simp; done) | (simp [*]; done)), (by first | rfl | (simp; done) | (simp [*]; done)), H', ⟨by have := HK1.out; have := HK2.out; omega⟩, ⟨Kd.R_pp (Kd.R_mono HO_8.out (fun _ hk => hk.2))⟩, ⟨Kd.R_p HO_9⟩, ⟨hb_ HB⟩⟩
             ·rw [if_neg c18] at H
              exact absurd H (by simp)
            ·rw [if_neg c16] at H
             exact absurd H (by simp)
          ·rw [if_neg c14] at H
           exact absurd H (by simp)
         ·rw [if_neg c13] at H
          exact absurd H (by simp)
        ·rw [if_neg c12] at H
         have c12b0 : decide (x34_2 < (l1.length : Int)) = false := decide_eq_false c12
         clear c12
         have H' := Aside0.mk H
         clear H
         go_wp2
         repeat (go_quiet (fail); try go_wp2)
         go_loopg [10] k2 (fun kq v10 w' => ∃ (x8_3 : List Int) (x9_3 : List Int) (x10_3 : Int), v10 = .int .i64 x10_3 ∧ Aside0 (impl_sharesOf.l2 kq x8_3 x9_3 x10_3 = some r) ∧ Aside0 (kq ≤ k2) ∧ Aside0 (Kd.R (Kd.int .i64) 3 w' w.heap.size (fun k_ => some k_ ≠ (v214 : Value).ownBlock) v211 x8_3) ∧ Aside0 (Kd.R (Kd.int .i64) 3 w' w.heap.size (fun k_ => some k_ ≠ (v211 : Value).ownBlock) v214 x9_3) ∧ Aside0 (Below w.heap.size w w'))
         case atStart => exact ⟨(x8_2), (x9_2), (x10_2), (by first | rfl | (simp; done) | (simp [*]; done)), H', ⟨Nat.le_refl _⟩, ⟨Kd.R_p HO_8⟩, ⟨Kd.R_p HO_9⟩, ⟨hb_ HB⟩⟩
         case round =>
          clear H'
          (try clear c1); (try clear p1); (try clear q1); (try clear hx1); (try clear p2); (try clear q2); (try clear hx2); (try clear c3); (try clear c3b0); (try clear c4); (try clear c4b0); (try clear c5); (try clear c5b0); (try clear c6); (try clear c6b0); (try clear c6b1); (try clear p6); (try clear c7); (try clear c7b0); (try clear c7b1); (try clear c12); (try clear c12b0); (try clear c13); (try clear c13b0); (try clear c14); (try clear c14b0); (try clear c15); (try clear c15b0); (try clear c15b1); (try clear c16); (try clear c16b0); (try clear p17); (try clear q17); (try clear hx17); (try clear hf17); (try clear c18); (try clear c18b0); (try clear p19); (try clear q19); (try clear hx19); (try clear hf19); (try clear p20); (try clear q20); (try clear hx20); (try clear p21); (try clear q21); (try clear hx21)
          obtain ⟨x8_3, x9_3, x10_3, rfl, HA, HK3, HO_8, HO_9, HB⟩ := hrel
          cases gk with
          | zero => exact absurd HA.out (by simp [impl_sharesOf.l2])
          | succ k3 =>
           have H := HA.out
           clear HA
           simp only [impl_sharesOf.l2] at H
           by_cases c24 : x10_3 > 0
           ·rw [if_pos c24] at H
            have c24b0 : decide (0 < x10_3) = true := decide_eq_true c24
            clear c24
            have H' := Aside0.mk H
            clear H
            obtain ⟨Ao25, co25, eo25⟩ := Kd.R_slice HO_9.out
            subst eo25
            go_wp2
            repeat (go_quiet (fail); try go_wp2)
            go_loopg [13, 68] k3 (fun kq v13 v68 w' => ∃ (x13_4 : Int) (x68_4 : Int), v13 = .int .i64 x13_4 ∧ v68 = .int .i64 x68_4 ∧ Aside0 (impl_sharesOf.l3 kq x8_3 x9_3 x10_3 x13_4 (x9_3.length : Int) x68_4 = some r) ∧ Aside0 (kq ≤ k3) ∧ Aside0 (Kd.R (Kd.int .i64) 3 w' w.heap.size (fun k_ => some k_ ≠ ((.slice Ao25 x9_3.length co25) : Value).ownBlock) v211 x8_3) ∧ Aside0 (Kd.R (Kd.int .i64) 3 w' w.heap.size (fun k_ => some k_ ≠ (v211 : Value).ownBlock) (.slice Ao25 x9_3.length co25) x9_3) ∧ Aside0 (Below w.heap.size w w'))
            case atStart => exact ⟨(0), (0), (by first | rfl | (simp; done) | (simp [*]; done)), (by first | rfl | (simp; done) | (simp [*]; done)), H', ⟨Nat.le_refl _⟩, ⟨Kd.R_p HO_8⟩, ⟨Kd.R_p HO_9⟩, ⟨hb_ HB⟩⟩
            case round =>
             clear H'
             (try clear c1); (try clear p1); (try clear q1); (try clear hx1); (try clear c2); (try clear p2); (try clear q2); (try clear hx2); (try clear c3); (try clear c3b0); (try clear c4); (try clear c4b0); (try clear c5); (try clear c5b0); (try clear c6); (try clear c6b0); (try clear c6b1); (try clear p6); (try clear c7); (try clear c7b0); (try clear c7b1); (try clear c12); (try clear c12b0); (try clear c13); (try clear c13b0); (try clear c14); (try clear c14b0); (try clear c15); (try clear c15b0); (try clear c15b1); (try clear c16); (try clear c16b0); (try clear p17); (try clear q17); (try clear hx17); (try clear hf17); (try clear c18); (try clear c18b0); (try clear p19); (try clear q19); (try clear hx19); (try clear hf19); (try clear p20); (try clear q20); (try clear hx20); (try clear p21); (try clear q21); (try clear hx21); (try clear c24); (try clear c24b0)
             obtain ⟨x13_4, x68_4, rfl, rfl, HA, HK4, HO_8, HO_9, HB⟩ := hrel
             cases gk with
             | zero => exact absurd HA.out (by simp [impl_sharesOf.l3])
             | succ k4 =>
              have H := HA.out
              clear HA
              simp only [impl_sharesOf.l3] at H
              by_cases c26 : x68_4 < (x9_3.length : Int)
              ·rw [if_pos c26] at H
               have c26b0 : decide (x68_4 < (x9_3.length : Int)) = true := decide_eq_true c26
               clear c26
               by_cases c27 : 0 ≤ x68_4
               ·rw [if_pos c27] at H
                have c27b0 : decide (0 ≤ x68_4) = true := decide_eq_true c27
                clear c27
                by_cases c28 : x68_4 < (x9_3.length : Int)
                ·rw [if_pos c28] at H
                 have c28b0 : decide (x68_4 < (x9_3.length : Int)) = true := decide_eq_true c28
                 clear c28
                 by_cases c29 : 0 ≤ x13_4
                 ·rw [if_pos c29] at H
                  have c29b0 : decide (0 ≤ x13_4) = true := decide_eq_true c29
                  clear c29
                  by_cases c30 : x13_4 < (x9_3.length : Int)
                  ·rw [if_pos c30] at H
                   have c30b0 : decide (x13_4 < (x9_3.length : Int)) = true := decide_eq_true c30
                   clear c30
                   by_cases c31 : (rd x9_3 x68_4) > (rd x9_3 x13_4)
                   ·rw [if_pos c31] at H
                    have c31b0 : decide ((rd x9_3 x13_4) < (rd x9_3 x68_4)) = true := decide_eq_true c31
                    clear c31
                    have H' := Aside0.mk H
                    clear H
                    have p220 : 0 ≤ (x68_4 : Int) := of_decide_eq_true (by first | (with_reducible assumption) | assumption)
                    have q220 : x68_4 < (x9_3.length : Int) := of_decide_eq_true (by first | (with_reducible assumption) | assumption)
                    obtain ⟨ad220, e220, hx220_0⟩ := Kd.at_int (Kd.R_reads' HO_9.out).2.2 x68_4 p220 q220
                    cases e220
                    replace p220 := eq_true p220
                    replace q220 := eq_true q220
                    have p221 : 0 ≤ (x13_4 : Int) := of_decide_eq_true (by first | (with_reducible assumption) | assumption)
                    have q221 : x13_4 < (x9_3.length : Int) := of_decide_eq_true (by first | (with_reducible assumption) | assumption)
                    obtain ⟨ad221, e221, hx221_0⟩ := Kd.at_int (Kd.R_reads' HO_9.out).2.2 x13_4 p221 q221
                    obtain rfl : ad220 = ad221 := (by injection e221)
                    replace p221 := eq_true p221
                    replace q221 := eq_true q221
                    go_wp2
                    repeat (go_quiet (fail); try go_wp2)
                    go_roundg k4
                    case measure => have := HK1.out; have := HK2.out; have := HK3.out; have := HK4.out; omega
                    case rel => exact ⟨(x68_4), (wrap64 (x68_4 + 1)), (by first | rfl | (simp; done) | (simp [*]; done)), (by first | rfl | (simp; done) | (simp [*]; done)), H', ⟨by have := HK1.out; have := HK2.out; have := HK3.out; have := HK4.out; omega⟩, ⟨Kd.R_p HO_8⟩, ⟨Kd.R_p HO_9⟩, ⟨hb_ HB⟩⟩
                   ·rw [if_neg c31] at H
                    have c31b0 : decide ((rd x9_3 x13_4) < (rd x9_3 x68_4)) = false := decide_eq_false c31
                    clear c31
                    have H' := Aside0.mk H
                    clear H
                    have p220 : 0 ≤ (x68_4 : Int) := of_decide_eq_true (by first | (with_reducible assumption) | assumption)
                    have q220 : x68_4 < (x9_3.length : Int) := of_decide_eq_true (by first | (with_reducible assumption) | assumption)
                    obtain ⟨ad220, e220, hx220_0⟩ := Kd.at_int (Kd.R_reads' HO_9.out).2.2 x68_4 p220 q220
                    cases e220
                    replace p220 := eq_true p220
                    replace q220 := eq_true q220
                    have p221 : 0 ≤ (x13_4 : Int) := of_decide_eq_true (by first | (with_reducible assumption) | assumption)
                    have q221 : x13_4 < (x9_3.length : Int) := of_decide_eq_true (by first | (with_reducible assumption) | assumption)
                    obtain ⟨ad221, e221, hx221_0⟩ := Kd.at_int (Kd.R_reads' HO_9.out).2.2 x13_4 p221 q221
                    obtain rfl : ad220 = ad221 := (by injection e221)
                    replace p221 := eq_true p221
                    replace q221 := eq_true q221
                    go_wp2
                    repeat (go_quiet (fail); try go_wp2)
                    go_roundg k4
                    case measure => have := HK1.out; have := HK2.out; have := HK3.out; have := HK4.out; omega
                    case rel => exact ⟨(x13_4), (wrap64 (x68_4 + 1)), (by first | rfl | (simp; done) | (simp [*]; done)), (by first | rfl | (simp; done) | (simp [*]; done)), H', ⟨by have := HK1.out; have := HK2.out; have := HK3.out; have := HK4.out; omega⟩, ⟨Kd.R_p HO_8⟩, ⟨Kd.R_p HO_9⟩, ⟨hb_ HB⟩⟩
                  ·rw [if_neg c30] at H
                   exact absurd H (by simp)
                 ·rw [if_neg c29] at H
                  exact absurd H (by simp)
                ·rw [if_neg c28] at H
                 exact absurd H (by simp)
               ·rw [if_neg c27] at H
                exact absurd H (by simp)
              ·rw [if_neg c26] at H
               have c26b0 : decide (x68_4 < (x9_3.length : Int)) = false := decide_eq_false c26
               clear c26
               by_cases c32 : 0 ≤ x13_4
               ·rw [if_pos c32] at H
                have c32b0 : decide (0 ≤ x13_4) = true := decide_eq_true c32
                clear c32
                by_cases c33 : x13_4 < (x8_3.length : Int)
                ·rw [if_pos c33] at H
                 have c33b0 : decide (x13_4 < (x8_3.length : Int)) = true := decide_eq_true c33
                 clear c33
                 obtain ⟨y223, hy223⟩ : ∃ y_ : List Int, y_ = (x8_3.set (x13_4 : Int).toNat (wrap64 ((rd x8_3 x13_4) + 1))) := ⟨_, rfl⟩
                 replace H : (if x13_4 < (x9_3.length : Int) then (impl_sharesOf.l2 k4 y223 (x9_3.set (x13_4 : Int).toNat (-1)) (wrap64 (x10_3 - 1))) else (none)) = some r := by first | (rw [hy223]; with_reducible exact H) | (have H2_ := (Option.bind_some _ _).symm.trans H; rw [hy223]; with_reducible exact H2_) | (have H2_ := (Option.bind_some _ _).symm.trans H; with_reducible exact H2_) | with_reducible exact H | (rw [hy223]; exact H) | exact H
                 have Ny223 := Aside0.mk hy223
                 clear hy223
                 by_cases c35 : x13_4 < (x9_3.length : Int)
                 ·rw [if_pos c35] at H
                  have c35b0 : decide (x13_4 < (x9_3.length : Int)) = true := decide_eq_true c35
                  clear c35
                  obtain ⟨y224, hy224⟩ : ∃ y_ : List Int, y_ = (x9_3.set (x13_4 : Int).toNat (-1)) := ⟨_, rfl⟩
                  replace H : (impl_sharesOf.l2 k4 y223 y224 (wrap64 (x10_3 - 1))) = some r := by first | (rw [hy224]; with_reducible exact H) | (have H2_ := (Option.bind_some _ _).symm.trans H; rw [hy224]; with_reducible exact H2_) | (have H2_ := (Option.bind_some _ _).symm.trans H; with_reducible exact H2_) | with_reducible exact H | (rw [hy224]; exact H) | exact H
                  have Ny224 := Aside0.mk hy224
                  clear hy224
                  have H' := Aside0.mk H
                  clear H
                  obtain ⟨Ao37, co37, eo37⟩ := Kd.R_slice HO_8.out
                  subst eo37
                  have p222 : 0 ≤ (x13_4 : Int) := of_decide_eq_true (by first | (with_reducible assumption) | assumption)
                  have q222 : x13_4 < (x8_3.length : Int) := of_decide_eq_true (by first | (with_reducible assumption) | assumption)
                  obtain ⟨ad222, e222, hx222_0⟩ := Kd.at_int (Kd.R_reads' HO_8.out).2.2 x13_4 p222 q222
                  cases e222
                  replace p222 := eq_true p222
                  replace q222 := eq_true q222
                  have p34 : 0 ≤ (x13_4 : Int) := of_decide_eq_true (by first | (with_reducible assumption) | assumption)
                  have q34 : (x13_4 : Int) < ((x8_3.length : Int) : Int) := of_decide_eq_true (by first | (with_reducible assumption) | assumption)
                  obtain ⟨go34, co34, eo34, gb34, gl34, cl34, HG34⟩ := Kd.R_form HO_8.out (by omega)
                  (first | cases eo34 | (injection eo34 with ea_ en_ ec_; (first | subst ea_ | (injection ea_ with ea_; subst ea_)); subst ec_; clear en_))
                  have GB34 := Aside0.mk gb34
                  have GG34 := Aside0.mk HG34
                  clear gb34 gl34 HG34
                  (first | simp only [add_plain] at hx222_0 | skip)
                  obtain ⟨hx34_0, hf34_0⟩ := Kd.R_celln 0 HO_8.out (x13_4 : Int) p34 q34
                  replace p34 := eq_true p34
                  replace q34 := eq_true q34
                  have HP38 := Kd.R_putg HO_8.out (x13_4 : Int) (wrap64 ((rd x8_3 x13_4) + 1))
                  go_wp2_with (first | ((with_reducible refine gate_store (t := 3) (p := 87) rfl ?_); (try (rw [drewN_self wr]; generalize hq_ : World.drewN wr _ = wr; have n0_ := Aside0.mk (Kd.R_at hq_ HO_8.out); have n1_ := Aside0.mk (Kd.R_at hq_ HO_9.out); have n2_ := Aside0.mk (below_at hq_ HB.out); clear hq_ HO_8 HO_9 HB; have HO_8 := n0_; have HO_9 := n1_; have HB := n2_; clear n0_ n1_ n2_; (try (have HP38 := Kd.R_putg HO_8.out (x13_4 : Int) (wrap64 ((rd x8_3 x13_4) + 1)))))); refine store_event (t := 3) (p := 87) (v := ?vo_w39) (w1 := (wr.setCell ⟨go34, (x13_4 : Int).toNat, none⟩ (.int .i64 (wrap64 ((rd x8_3 x13_4) + 1))))) ?hg ?ho ?hn ?hr ?_; (case ho => rfl); (case hg => rfl); (case hn => rfl); (case hr => first | (go_simp; done) | (go_simp; rfl)); intro w39 hw; have hg : wr.grownBy w39 (some go34) := (by rw [hw]; exact HP38.2); have hp_ : Kd.R (Kd.int .i64) 3 w39 w.heap.size (fun k_ => some k_ ≠ (.slice Ao25 x9_3.length co25 : Value).ownBlock) (.slice (some ⟨go34, 0, none⟩) x8_3.length co37) y223 := (by rw [hw, Ny223.out]; exact HP38.1); clear HP38; replace HO_8 := Aside0.mk (hp_); replace HO_9 := Aside0.mk (Kd.R_after (v := (.slice (some ⟨go34, 0, none⟩) x8_3.length co37)) (v1 := (.slice (some ⟨go34, 0, none⟩) x8_3.length co37)) (ok := (fun _ => True)) (Kd.R_pp (Kd.R_mono HO_9.out (fun _ hk => ⟨trivial, hk⟩))) hg (.inl rfl)); replace HB := Aside0.mk ((by rw [hw]; exact below_set (HB.out) GB34.out : Below w.heap.size w w39)); clear hg hw hp_; have p36 : 0 ≤ (x13_4 : Int) := of_decide_eq_true (by first | (with_reducible assumption) | assumption); have q36 : (x13_4 : Int) < ((x9_3.length : Int) : Int) := of_decide_eq_true (by first | (with_reducible assumption) | assumption); obtain ⟨go36, co36, eo36, gb36, gl36, cl36, HG36⟩ := Kd.R_form HO_9.out (by omega); (first | cases eo36 | (injection eo36 with ea_ en_ ec_; (first | subst ea_ | (injection ea_ with ea_; subst ea_)); subst ec_; clear en_)); have GB36 := Aside0.mk gb36; have GG36 := Aside0.mk HG36; clear gb36 gl36 HG36; obtain ⟨hx36_0, hf36_0⟩ := Kd.R_celln 0 HO_9.out (x13_4 : Int) p36 q36; replace p36 := eq_true p36; replace q36 := eq_true q36; have n_ := Aside0.mk (Kd.R_mono (ok' := (fun k_ => some k_ ≠ (.slice (some ⟨go34, 0, none⟩) x8_3.length co37 : Value).ownBlock)) HO_9.out (fun k_ hk => hk.2)); clear HO_9; have HO_9 := n_; clear n_; obtain ⟨hy40_, hz40_⟩ := Kd.R_celln 0 HO_9.out (x13_4 : Int) (of_decide_eq_true (by first | (with_reducible assumption) | assumption)) (of_decide_eq_true (by first | (with_reducible assumption) | assumption)); have HP40 := Kd.R_putg HO_9.out (x13_4 : Int) (-1)) | ((with_reducible refine gate_store (t := 3) (p := 90) rfl ?_); (try (rw [drewN_self w39]; generalize hq_ : World.drewN w39 _ = w39; have n0_ := Aside0.mk (Kd.R_at hq_ HO_8.out); have n1_ := Aside0.mk (Kd.R_at hq_ HO_9.out); have n2_ := Aside0.mk (below_at hq_ HB.out); clear hq_ HO_8 HO_9 HB; have HO_8 := n0_; have HO_9 := n1_; have HB := n2_; clear n0_ n1_ n2_; (try (have n_ := Aside0.mk (Kd.R_mono (ok' := (fun k_ => some k_ ≠ (.slice (some ⟨go34, 0, none⟩) x8_3.length co37 : Value).ownBlock)) HO_9.out (fun k_ hk => hk.2)); clear HO_9; have HO_9 := n_; clear n_)); (try (obtain ⟨hy40_, hz40_⟩ := Kd.R_celln 0 HO_9.out (x13_4 : Int) (of_decide_eq_true (by first | (with_reducible assumption) | assumption)) (of_decide_eq_true (by first | (with_reducible assumption) | assumption)))); (try (have HP40 := Kd.R_putg HO_9.out (x13_4 : Int) (-1))))); refine store_event (t := 3) (p := 90) (v := ?vo_w41) (w1 := (w39.setCell ⟨go36, (x13_4 : Int).toNat, none⟩ (.int .i64 (-1)))) ?hg ?ho ?hn ?hr ?_; (case ho => rfl); (case hg => rfl); (case hn => rfl); (case hr => first | (go_simp; done) | (go_simp; rfl)); intro w41 hw; have hg : w39.grownBy w41 (some go36) := (by rw [hw]; exact HP40.2); have hp_ : Kd.R (Kd.int .i64) 3 w41 w.heap.size (fun k_ => some k_ ≠ (.slice (some ⟨go34, 0, none⟩) x8_3.length co37 : Value).ownBlock) (.slice (some ⟨go36, 0, none⟩) x9_3.length co25) y224 := (by rw [hw, Ny224.out]; exact HP40.1); clear HP40; replace HO_8 := Aside0.mk (Kd.R_after (v := (.slice (some ⟨go36, 0, none⟩) x9_3.length co25)) (v1 := (.slice (some ⟨go36, 0, none⟩) x9_3.length co25)) (ok := (fun _ => True)) (Kd.R_pp (Kd.R_mono HO_8.out (fun _ hk => ⟨trivial, hk⟩))) hg (.inl rfl)); replace HO_9 := Aside0.mk (hp_); replace HB := Aside0.mk ((by rw [hw]; exact below_set (HB.out) GB36.out : Below w.heap.size w w41)); clear hg hw hp_))
                  repeat (go_quiet (first | ((with_reducible refine gate_store (t := 3) (p := 87) rfl ?_); (try (rw [drewN_self wr]; generalize hq_ : World.drewN wr _ = wr; have n0_ := Aside0.mk (Kd.R_at hq_ HO_8.out); have n1_ := Aside0.mk (Kd.R_at hq_ HO_9.out); have n2_ := Aside0.mk (below_at hq_ HB.out); clear hq_ HO_8 HO_9 HB; have HO_8 := n0_; have HO_9 := n1_; have HB := n2_; clear n0_ n1_ n2_; (try (have HP38 := Kd.R_putg HO_8.out (x13_4 : Int) (wrap64 ((rd x8_3 x13_4) + 1)))))); refine store_event (t := 3) (p := 87) (v := ?vo_w39) (w1 := (wr.setCell ⟨go34, (x13_4 : Int).toNat, none⟩ (.int .i64 (wrap64 ((rd x8_3 x13_4) + 1))))) ?hg ?ho ?hn ?hr ?_; (case ho => rfl); (case hg => rfl); (case hn => rfl); (case hr => first | (go_simp; done) | (go_simp; rfl)); intro w39 hw; have hg : wr.grownBy w39 (some go34) := (by rw [hw]; exact HP38.2); have hp_ : Kd.R (Kd.int .i64) 3 w39 w.heap.size (fun k_ => some k_ ≠ (.slice Ao25 x9_3.length co25 : Value).ownBlock) (.slice (some ⟨go34, 0, none⟩) x8_3.length co37) y223 := (by rw [hw, Ny223.out]; exact HP38.1); clear HP38; replace HO_8 := Aside0.mk (hp_); replace HO_9 := Aside0.mk (Kd.R_after (v := (.slice (some ⟨go34, 0, none⟩) x8_3.length co37)) (v1 := (.slice (some ⟨go34, 0, none⟩) x8_3.length co37)) (ok := (fun _ => True)) (Kd.R_pp (Kd.R_mono HO_9.out (fun _ hk => ⟨trivial, hk⟩))) hg (.inl rfl)); replace HB := Aside0.mk ((by rw [hw]; exact below_set (HB.out) GB34.out : Below w.heap.size w w39)); clear hg hw hp_; have p36 : 0 ≤ (x13_4 : Int) := of_decide_eq_true (by first | (with_reducible assumption) | assumption); have q36 : (x13_4 : Int) < ((x9_3.length : Int) : Int) := of_decide_eq_true (by first | (with_reducible assumption) | assumption); obtain ⟨go36, co36, eo36, gb36, gl36, cl36, HG36⟩ := Kd.R_form HO_9.out (by omega); (first | cases eo36 | (injection eo36 with ea_ en_ ec_; (first | subst ea_ | (injection ea_ with ea_; subst ea_)); subst ec_; clear en_)); have GB36 := Aside0.mk gb36; have GG36 := Aside0.mk HG36; clear gb36 gl36 HG36; obtain ⟨hx36_0, hf36_0⟩ := Kd.R_celln 0 HO_9.out (x13_4 : Int) p36 q36; replace p36 := eq_true p36; replace q36 := eq_true q36; have n_ := Aside0.mk (Kd.R_mono (ok' := (fun k_ => some k_ ≠ (.slice (some ⟨go34, 0, none⟩) x8_3.length co37 : Value).ownBlock)) HO_9.out (fun k_ hk => hk.2)); clear HO_9; have HO_9 := n_; clear n_; obtain ⟨hy40_, hz40_⟩ := Kd.R_celln 0 HO_9.out (x13_4 : Int) (of_decide_eq_true (by first | (with_reducible assumption) | assumption)) (of_decide_eq_true (by first | (with_reducible assumption) | assumption)); have HP40 := Kd.R_putg HO_9.out (x13_4 : Int) (-1)) | ((with_reducible refine gate_store (t := 3) (p := 90) rfl ?_); (try (rw [drewN_self w39]; generalize hq_ : World.drewN w39 _ = w39; have n0_ := Aside0.mk (Kd.R_at hq_ HO_8.out); have n1_ := Aside0.mk (Kd.R_at hq_ HO_9.out); have n2_ := Aside0.mk (below_at hq_ HB.out); clear hq_ HO_8 HO_9 HB; have HO_8 := n0_; have HO_9 := n1_; have HB := n2_; clear n0_ n1_ n2_; (try (have n_ := Aside0.mk (Kd.R_mono (ok' := (fun k_ => some k_ ≠ (.slice (some ⟨go34, 0, none⟩) x8_3.length co37 : Value).ownBlock)) HO_9.out (fun k_ hk => hk.2)); clear HO_9; have HO_9 := n_; clear n_)); (try (obtain ⟨hy40_, hz40_⟩ := Kd.R_celln 0 HO_9.out (x13_4 : Int) (of_decide_eq_true (by first | (with_reducible assumption) | assumption)) (of_decide_eq_true (by first | (with_reducible assumption) | assumption)))); (try (have HP40 := Kd.R_putg HO_9.out (x13_4 : Int) (-1))))); refine store_event (t := 3) (p := 90) (v := ?vo_w41) (w1 := (w39.setCell ⟨go36, (x13_4 : Int).toNat, none⟩ (.int .i64 (-1)))) ?hg ?ho ?hn ?hr ?_; (case ho => rfl); (case hg => rfl); (case hn => rfl); (case hr => first | (go_simp; done) | (go_simp; rfl)); intro w41 hw; have hg : w39.grownBy w41 (some go36) := (by rw [hw]; exact HP40.2); have hp_ : Kd.R (Kd.int .i64) 3 w41 w.heap.size (fun k_ => some k_ ≠ (.slice (some ⟨go34, 0, none⟩) x8_3.length co37 : Value).ownBlock) (.slice (some ⟨go36, 0, none⟩) x9_3.length co25) y224 := (by rw [hw, Ny224.out]; exact HP40.1); clear HP40; replace HO_8 := Aside0.mk (Kd.R_after (v := (.slice (some ⟨go36, 0, none⟩) x9_3.length co25)) (v1 := (.slice (some ⟨go36, 0, none⟩) x9_3.length co25)) (ok := (fun _ => True)) (Kd.R_pp (Kd.R_mono HO_8.out (fun _ hk => ⟨trivial, hk⟩))) hg (.inl rfl)); replace HO_9 := Aside0.mk (hp_); replace HB := Aside0.mk ((by rw [hw]; exact below_set (HB.out) GB36.out : Below w.heap.size w w41)); clear hg hw hp_)); try go_wp2_with (first | ((with_reducible refine gate_store (t := 3) (p := 87) rfl ?_); (try (rw [drewN_self wr]; generalize hq_ : World.drewN wr _ = wr; have n0_ := Aside0.mk (Kd.R_at hq_ HO_8.out); have n1_ := Aside0.mk (Kd.R_at hq_ HO_9.out); have n2_ := Aside0.mk (below_at hq_ HB.out); clear hq_ HO_8 HO_9 HB; have HO_8 := n0_; have HO_9 := n1_; have HB := n2_; clear n0_ n1_ n2_; (try (have HP38 := Kd.R_putg HO_8.out (x13_4 : Int) (wrap64 ((rd x8_3 x13_4) + 1)))))); refine store_event (t := 3) (p := 87) (v := ?vo_w39) (w1 := (wr.setCell ⟨go34, (x13_4 : Int).toNat, none⟩ (.int .i64 (wrap64 ((rd x8_3 x13_4) + 1))))) ?hg ?ho ?hn ?hr ?_; (case ho => rfl); (case hg => rfl); (case hn => rfl); (case hr => first | (go_simp; done) | (go_simp; rfl)); intro w39 hw; have hg : wr.grownBy w39 (some go34) := (by rw [hw]; exact HP38.2); have hp_ : Kd.R (Kd.int .i64) 3 w39 w.heap.size (fun k_ => some k_ ≠ (.slice Ao25 x9_3.length co25 : Value).ownBlock) (.slice (some ⟨go34, 0, none⟩) x8_3.length co37) y223 := (by rw [hw, Ny223.out]; exact HP38.1); clear HP38; replace HO_8 := Aside0.mk (hp_); replace HO_9 := Aside0.mk (Kd.R_after (v := (.slice (some ⟨go34, 0, none⟩) x8_3.length co37)) (v1 := (.slice (some ⟨go34, 0, none⟩) x8_3.length co37)) (ok := (fun _ => True)) (Kd.R_pp (Kd.R_mono HO_9.out (fun _ hk => ⟨trivial, hk⟩))) hg (.inl rfl)); replace HB := Aside0.mk ((by rw [hw]; exact below_set (HB.out) GB34.out : Below w.heap.size w w39)); clear hg hw hp_; have p36 : 0 ≤ (x13_4 : Int) := of_decide_eq_true (by first | (with_reducible assumption) | assumption); have q36 : (x13_4 : Int) < ((x9_3.length : Int) : Int) := of_decide_eq_true (by first | (with_reducible assumption) | assumption); obtain ⟨go36, co36, eo36, gb36, gl36, cl36, HG36⟩ := Kd.R_form HO_9.out (by omega); (first | cases eo36 | (injection eo36 with ea_ en_ ec_; (first | subst ea_ | (injection ea_ with ea_; subst ea_)); subst ec_; clear en_)); have GB36 := Aside0.mk gb36; have GG36 := Aside0.mk HG36; clear gb36 gl36 HG36; obtain ⟨hx36_0, hf36_0⟩ := Kd.R_celln 0 HO_9.out (x13_4 : Int) p36 q36; replace p36 := eq_true p36; replace q36 := eq_true q36; have n_ := Aside0.mk (Kd.R_mono (ok' := (fun k_ => some k_ ≠ (.slice (some ⟨go34, 0, none⟩) x8_3.length co37 : Value).ownBlock)) HO_9.out (fun k_ hk => hk.2)); clear HO_9; have HO_9 := n_; clear n_; obtain ⟨hy40_, hz40_⟩ := Kd.R_celln 0 HO_9.out (x13_4 : Int) (of_decide_eq_true (by first | (with_reducible assumption) | assumption)) (of_decide_eq_true (by first | (with_reducible assumption) | assumption)); have HP40 := Kd.R_putg HO_9.out (x13_4 : Int) (-1)) | ((with_reducible refine gate_store (t := 3) (p := 90) rfl ?_); (try (rw [drewN_self w39]; generalize hq_ : World.drewN w39 _ = w39; have n0_ := Aside0.mk (Kd.R_at hq_ HO_8.out); have n1_ := Aside0.mk (Kd.R_at hq_ HO_9.out); have n2_ := Aside0.mk (below_at hq_ HB.out); clear hq_ HO_8 HO_9 HB; have HO_8 := n0_; have HO_9 := n1_; have HB := n2_; clear n0_ n1_ n2_; (try (have n_ := Aside0.mk (Kd.R_mono (ok' := (fun k_ => some k_ ≠ (.slice (some ⟨go34, 0, none⟩) x8_3.length co37 : Value).ownBlock)) HO_9.out (fun k_ hk => hk.2)); clear HO_9; have HO_9 := n_; clear n_)); (try (obtain ⟨hy40_, hz40_⟩ := Kd.R_celln 0 HO_9.out (x13_4 : Int) (of_decide_eq_true (by first | (with_reducible assumption) | assumption)) (of_decide_eq_true (by first | (with_reducible assumption) | assumption)))); (try (have HP40 := Kd.R_putg HO_9.out (x13_4 : Int) (-1))))); refine store_event (t := 3) (p := 90) (v := ?vo_w41) (w1 := (w39.setCell ⟨go36, (x13_4 : Int).toNat, none⟩ (.int .i64 (-1)))) ?hg ?ho ?hn ?hr ?_; (case ho => rfl); (case hg => rfl); (case hn => rfl); (case hr => first | (go_simp; done) | (go_simp; rfl)); intro w41 hw; have hg : w39.grownBy w41 (some go36) := (by rw [hw]; exact HP40.2); have hp_ : Kd.R (Kd.int .i64) 3 w41 w.heap.size (fun k_ => some k_ ≠ (.slice (some ⟨go34, 0, none⟩) x8_3.length co37 : Value).ownBlock) (.slice (some ⟨go36, 0, none⟩) x9_3.length co25) y224 := (by rw [hw, Ny224.out]; exact HP40.1); clear HP40; replace HO_8 := Aside0.mk (Kd.R_after (v := (.slice (some ⟨go36, 0, none⟩) x9_3.length co25)) (v1 := (.slice (some ⟨go36, 0, none⟩) x9_3.length co25)) (ok := (fun _ => True)) (Kd.R_pp (Kd.R_mono HO_8.out (fun _ hk => ⟨trivial, hk⟩))) hg (.inl rfl)); replace HO_9 := Aside0.mk (hp_); replace HB := Aside0.mk ((by rw [hw]; exact below_set (HB.out) GB36.out : Below w.heap.size w w41)); clear hg hw hp_)))
                  go_roundg k4
                  case measure => have := HK1.out; have := HK2.out; have := HK3.out; have := HK4.out; omega
                  case rel => exact ⟨(y223), (y224), (wrap64 (x10_3 - 1)), (by first | rfl | (simp; done) | (simp [*]; done)), H', ⟨by have := HK1.out; have := HK2.out; have := HK3.out; have := HK4.out; omega⟩, ⟨Kd.R_pp (Kd.R_mono HO_8.out (fun _ hk => hk.2))⟩, ⟨Kd.R_p HO_9⟩, ⟨hb_ HB⟩⟩
                 ·rw [if_neg c35] at H
                  exact absurd H (by simp)
                ·rw [if_neg c33] at H
                 exact absurd H (by simp)
               ·rw [if_neg c32] at H
                exact absurd H (by simp)
           ·rw [if_neg c24] at H
            have c24b0 : decide (0 < x10_3) = false := decide_eq_false c24
            clear c24
            obtain rfl := Option.some.inj H
            go_wp2
            repeat (go_quiet (fail); try go_wp2)
            go_ret
            exact ⟨_, by first | rfl | (simp [errW_none, errW_some] <;> rfl) | (simp [*, errW_none, errW_some] <;> rfl), Kd.R_pp (Kd.R_mono HO_8.out (fun _ hk => trivial)), hb_ HB⟩
     ·rw [if_neg c7] at H
      exact absurd H (by simp)
    ·rw [if_neg c6] at H
     exact absurd H (by simp)

end Go.Proofs.Ytceajigggcihnaa.PFnPieces
