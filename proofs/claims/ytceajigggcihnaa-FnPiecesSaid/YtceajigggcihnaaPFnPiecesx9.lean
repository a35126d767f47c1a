-- Laid for this claim by wip/tools/print2.sh, a changed copy of the kit's print (wip/tools/patch_print.py): not by print.sh. Changed by wip/fix/fnpieces.py.
import Derived.Test.YtceajigggcihnaaPFnPiecesx0
import Derived.Test.YtceajigggcihnaaPFnPiecesx4
import Derived.Test.YtceajigggcihnaaPFnPiecesx8
import Derived.Test.YtceajigggcihnaaVFnPieces
namespace Go.Proofs.Ytceajigggcihnaa.PFnPieces
open Go.RowKit Go.Proofs.YtceajigggcihnaaW.PrintWords Go.Proofs.YtceajigggcihnaaW.PrintLast Go.Proofs.YtceajigggcihnaaW.PrintMore
attribute [local go_sem] max2_int min2_int max_two min_two max_three min_three max_four min_four   -- for this text's walks alone
set_option linter.unusedVariables false
set_option linter.unusedSimpArgs false

/-! ### impl_SplitPiece: function 25 -/
mutual
def impl_SplitPiece.j0 : Nat → List Int → Bool → Int → Int → Int → Option ((List (S29)) × Bool)
 | 0, _, _, _, _, _ => none
 | k + 1, x1, x25, x226000, x226001, x226002 => if x25 = true then (some (([] : List (S29)), false)) else (impl_SplitPiece.l0 k x1 0 x1 (x1.length : Int) 0 x226000 x226001 x226002)
def impl_SplitPiece.l0 : Nat → List Int → Int → List Int → Int → Int → Int → Int → Int → Option ((List (S29)) × Bool)
 | 0, _, _, _, _, _, _, _, _ => none
 | k + 1, x1, x6, x26, x27, x28, x226000, x226001, x226002 => if x28 < x27 then (if 0 ≤ x28 then (if x28 < (x26.length : Int) then (if (rd x26 x28) < 0 then (some (([] : List (S29)), false)) else (if (rd x26 x28) > 100 then (some (([] : List (S29)), false)) else (impl_SplitPiece.l0 k x1 (wrap64 (x6 + (rd x26 x28))) x26 x27 (wrap64 (x28 + 1)) x226000 x226001 x226002))) else (none)) else (none)) else (if x6 = 0 then (some (([] : List (S29)), false)) else (if 0 ≤ (x1.length : Int) then (if ((x1.length : Int) : Int).toNat ≤ 11728124029610 then ((some (List.replicate ((x1.length : Int) : Int).toNat z29 : List (S29))).bind fun y228 => ((impl_sharesOf.f k x226000 x1).bind fun t231 => (if ((x1.length : Int) : Int).toNat ≤ 35184372088832 then (if x226000 > 0 then ((impl_sharesOf.f k x226001 t231).bind fun t237 => (impl_SplitPiece.j2 k y228 t231 t237 x226000 x226001 x226002)) else (impl_SplitPiece.j2 k y228 t231 (List.replicate ((x1.length : Int) : Int).toNat 0) x226000 x226001 x226002)) else (none)))) else (none)) else (none)))
def impl_SplitPiece.j2 : Nat → List (S29) → List Int → List Int → Int → Int → Int → Option ((List (S29)) × Bool)
 | 0, _, _, _, _, _, _ => none
 | k + 1, x9, x10, x11, x226000, x226001, x226002 => impl_SplitPiece.l1 k x9 x10 x11 (x9.length : Int) 0 x226000 x226001 x226002
def impl_SplitPiece.l1 : Nat → List (S29) → List Int → List Int → Int → Int → Int → Int → Int → Option ((List (S29)) × Bool)
 | 0, _, _, _, _, _, _, _, _ => none
 | k + 1, x9, x10, x11, x62, x63, x226000, x226001, x226002 => if x63 < x62 then (if 0 ≤ x63 then (if x63 < (x10.length : Int) then (if x63 < (x11.length : Int) then (if x63 < (x9.length : Int) then (impl_SplitPiece.l1 k (x9.set (x63 : Int).toNat (⟨rd x10 x63, rd x11 x63, x226002⟩ : S29)) x10 x11 x62 (wrap64 (x63 + 1)) x226000 x226001 x226002) else (none)) else (none)) else (none)) else (none)) else (some (x9, true))
end
def impl_SplitPiece.f (k : Nat) (a0_0 : Int) (a0_1 : Int) (a0_2 : Int) (l1 : List Int) : Option ((List (S29)) × Bool) := (impl_IsPiece.f a0_0 a0_1 a0_2).bind fun t226 => (if t226 = true then (if (l1.length : Int) < 1 then (impl_SplitPiece.j0 k l1 true a0_0 a0_1 a0_2) else (impl_SplitPiece.j0 k l1 (decide ((l1.length : Int) > 20)) a0_0 a0_1 a0_2)) else (impl_SplitPiece.j0 k l1 true a0_0 a0_1 a0_2))
def impl_SplitPiece.T21 : Bool × List (List Nat × List Nat) := (true, [([], []), ([], []), ([], []), ([], []), ([2, 3], [2, 3]), ([4], [4]), ([], []), ([], []), ([6, 7], [6, 7]), ([8], [8]), ([], []), ([10], [10]), ([5, 9, 11], [5, 9, 11]), ([0, 1, 0, 1, 2, 3, 4, 5, 6, 7, 8, 9, 10, 11, 12], [0, 1]), ([13, 12, 0, 1, 2, 3, 4, 5, 6, 7, 8, 9, 10, 11, 12], [12, 13])])
def impl_SplitPiece.B21 : List Nat := [0, 0, 0, 0, 12, 28, 0, 0, 192, 448, 0, 1024, 4092, 8191, 16383]
theorem impl_SplitPiece.tab21 : rtab .any (opsOf Try.f25 21) = impl_SplitPiece.T21 := by kernel_rfl
theorem impl_SplitPiece.bits21 : waitsOk impl_SplitPiece.T21.2 impl_SplitPiece.B21 = true := by kernel_rfl
set_option maxHeartbeats 8000000 in
set_option maxRecDepth 100000 in
theorem impl_SplitPiece.calls (k : Nat) (a0_0 : Int) (a0_1 : Int) (a0_2 : Int) (A1 : Option Addr) (c1 : Nat) (l1 : List Int) (r1 : List (S29)) (r2 : Bool) (w : World) (hr1 : Kd.C (Kd.int .i64) w A1 l1.length l1) (hc1 : l1.length ≤ c1) (h : impl_SplitPiece.f k a0_0 a0_1 a0_2 l1 = some (r1, r2)) :
  Calls Try.prog 25 #[.agg #[.int .i64 a0_0, .int .i64 a0_1, .int .i64 a0_2], .slice A1 l1.length c1] w fun e w' => ∃ v0_ : Value, e = .returned (.tuple #[v0_, .bool r2]) ∧ Kd.R k29 29 w' w.heap.size (fun _ => True) v0_ r1 ∧ Below w.heap.size w w' := by
 have hu29 := Try.underlying29
 have HR1 := Aside0.mk hr1
 have HC1 := Aside0.mk hc1
 clear hr1 hc1
 have HB := Aside0.mk (Below.refl w.heap.size w)
 have H : ((impl_IsPiece.f a0_0 a0_1 a0_2).bind fun t226 => (if t226 = true then (if (l1.length : Int) < 1 then (impl_SplitPiece.j0 k l1 true a0_0 a0_1 a0_2) else (impl_SplitPiece.j0 k l1 (decide ((l1.length : Int) > 20)) a0_0 a0_1 a0_2)) else (impl_SplitPiece.j0 k l1 true a0_0 a0_1 a0_2))) = some (r1, r2) := h
 clear h
 have HC3 := Aside0.mk H
 clear H
 go_enter Try.func25, Try.ntmps25
 go_upto_region 1 with (first | ((with_reducible refine gate_dst (N := 2) rfl ?_); (try (refine gate_guard (by rfl) ?_; dsimp only)); refine box_event ?hg (N := 2) ?hd (cs := #[.int .i64 a0_0, .int .i64 a0_1, .int .i64 a0_2]) (t := 29) ?hr ?_; (case hd => rfl); (case hg => rfl); (case hr => first | (go_simp; done) | (go_simp; rfl)); intro gb225 hg w4 hbox hb; have BK225 := Aside0.mk (hbox); have GW225 := gs_ hg HB; have GE225 := gs_ hg HB; replace HB := hbs_ HB hb; clear hb hbox hg))
 (try simp only [Act.put, List.setIfInBounds_toArray, List.set_cons_zero, List.set_cons_succ])
 go_cut [25] (fun v25 wc => ∃ (kq : Nat) (x25_2 : Bool), v25 = .bool x25_2 ∧ Aside0 (impl_SplitPiece.j0 kq l1 x25_2 a0_0 a0_1 a0_2 = some (r1, r2)) ∧ Aside0 (kq ≤ k) ∧ Aside0 (wc.heap[gb225]? = some (.cells #[.int .i64 a0_0, .int .i64 a0_1, .int .i64 a0_2] 29 (0, 0))) ∧ Aside0 (Below w.heap.size w wc))
 case first =>
  have H := HC3.out
  clear HC3
  replace H := Option.bind_eq_some_iff.mp H
  obtain ⟨t226, A50, H⟩ := H
  try dsimp only at H
  have A5 := Aside0.mk A50
  clear A50
  by_cases c6 : t226 = true
  ·subst c6
   rw [if_pos rfl] at H
   by_cases c7 : (l1.length : Int) < 1
   ·rw [if_pos c7] at H
    have c7b0 : decide ((l1.length : Int) < 1) = true := decide_eq_true c7
    have c7b1 : decide (l1.length < 1) = true := decide_eq_true (by omega)
    clear c7
    (first | rw [c7b0] | (simp only [i64_w, i32_w]; rw [c7b0]) | skip)
    have H' := Aside0.mk H
    clear H
    have hcz8_0 : w4.cell? ⟨gb225, 0, none⟩ = some (.int .i64 a0_0) := (blk_cell BK225.out 0).trans rfl
    have hcz8_1 : w4.cell? ⟨gb225, 1, none⟩ = some (.int .i64 a0_1) := (blk_cell BK225.out 1).trans rfl
    have hcz8_2 : w4.cell? ⟨gb225, 2, none⟩ = some (.int .i64 a0_2) := (blk_cell BK225.out 2).trans rfl
    have hfz8_0 := blk_frozen BK225.out 0
    have hfz8_1 := blk_frozen BK225.out 1
    have hfz8_2 := blk_frozen BK225.out 2
    go_wp2_with (first | ((with_reducible refine gate_callee (f := 47) rfl ?_); refine gl_ (some 14) Try.func47 #[.agg #[.int .i64 a0_0, .int .i64 a0_1, .int .i64 a0_2]] rfl rfl rfl ?_; (with_reducible refine (impl_IsPiece.calls a0_0 a0_1 a0_2 true _ A5.out).mono ?_); rintro e w9 ⟨rfl, hb⟩; refine ⟨_, rfl, ?_⟩; replace BK225 := kb_ BK225 hb; replace HB := hbs_ HB hb; (try clear hb); (try clear hb2); (try clear hk); (try clear hi)))
    go_meet
    case rel => exact ⟨_, (true), (by first | rfl | (simp; done) | (simp [*]; done)), H', ⟨by first | omega | exact Nat.le_refl _⟩, ⟨kp_ BK225⟩, ⟨hb_ HB⟩⟩
   ·rw [if_neg c7] at H
    have c7b0 : decide ((l1.length : Int) < 1) = false := decide_eq_false c7
    have c7b1 : decide (l1.length < 1) = false := decide_eq_false (by omega)
    clear c7
    (first | rw [c7b0] | (simp only [i64_w, i32_w]; rw [c7b0]) | skip)
    have H' := Aside0.mk H
    clear H
    have hcz10_0 : w4.cell? ⟨gb225, 0, none⟩ = some (.int .i64 a0_0) := (blk_cell BK225.out 0).trans rfl
    have hcz10_1 : w4.cell? ⟨gb225, 1, none⟩ = some (.int .i64 a0_1) := (blk_cell BK225.out 1).trans rfl
    have hcz10_2 : w4.cell? ⟨gb225, 2, none⟩ = some (.int .i64 a0_2) := (blk_cell BK225.out 2).trans rfl
    have hfz10_0 := blk_frozen BK225.out 0
    have hfz10_1 := blk_frozen BK225.out 1
    have hfz10_2 := blk_frozen BK225.out 2
    go_wp2_with (first | ((with_reducible refine gate_callee (f := 47) rfl ?_); refine gl_ (some 14) Try.func47 #[.agg #[.int .i64 a0_0, .int .i64 a0_1, .int .i64 a0_2]] rfl rfl rfl ?_; (with_reducible refine (impl_IsPiece.calls a0_0 a0_1 a0_2 true _ A5.out).mono ?_); rintro e w11 ⟨rfl, hb⟩; refine ⟨_, rfl, ?_⟩; replace BK225 := kb_ BK225 hb; replace HB := hbs_ HB hb; (try clear hb); (try clear hb2); (try clear hk); (try clear hi)))
    go_meet
    case rel => exact ⟨_, (decide ((l1.length : Int) > 20)), (by first | rfl | (simp; done) | (simp [*]; done)), H', ⟨by first | omega | exact Nat.le_refl _⟩, ⟨kp_ BK225⟩, ⟨hb_ HB⟩⟩
  ·replace c6 := Bool.eq_false_iff.mpr c6
   subst c6
   rw [if_neg (show ¬ (false = true) by decide)] at H
   have H' := Aside0.mk H
   clear H
   have hcz12_0 : w4.cell? ⟨gb225, 0, none⟩ = some (.int .i64 a0_0) := (blk_cell BK225.out 0).trans rfl
   have hcz12_1 : w4.cell? ⟨gb225, 1, none⟩ = some (.int .i64 a0_1) := (blk_cell BK225.out 1).trans rfl
   have hcz12_2 : w4.cell? ⟨gb225, 2, none⟩ = some (.int .i64 a0_2) := (blk_cell BK225.out 2).trans rfl
   have hfz12_0 := blk_frozen BK225.out 0
   have hfz12_1 := blk_frozen BK225.out 1
   have hfz12_2 := blk_frozen BK225.out 2
   go_wp2_with (first | ((with_reducible refine gate_callee (f := 47) rfl ?_); refine gl_ (some 14) Try.func47 #[.agg #[.int .i64 a0_0, .int .i64 a0_1, .int .i64 a0_2]] rfl rfl rfl ?_; (with_reducible refine (impl_IsPiece.calls a0_0 a0_1 a0_2 false _ A5.out).mono ?_); rintro e w13 ⟨rfl, hb⟩; refine ⟨_, rfl, ?_⟩; replace BK225 := kb_ BK225 hb; replace HB := hbs_ HB hb; (try clear hb); (try clear hb2); (try clear hk); (try clear hi)))
   go_meet
   case rel => exact ⟨_, (true), (by first | rfl | (simp; done) | (simp [*]; done)), H', ⟨by first | omega | exact Nat.le_refl _⟩, ⟨kp_ BK225⟩, ⟨hb_ HB⟩⟩
 case rest =>
  clear HC3
  (try clear c1); (try clear c2); (try clear p2); (try clear c4); (try clear c6); (try clear c7); (try clear c7b0); (try clear c7b1)
  obtain ⟨kq, x25_2, rfl, HA, HJ2, BK225, HB⟩ := hcut
  cases kq with
  | zero => exact absurd HA.out (by simp [impl_SplitPiece.j0])
  | succ kj2 =>
   have H := HA.out
   clear HA
   simp only [impl_SplitPiece.j0] at H
   by_cases c14 : x25_2 = true
   ·subst c14
    rw [if_pos rfl] at H
    simp only [Option.some.injEq, Prod.mk.injEq] at H
    obtain ⟨rfl, rfl⟩ := H
    go_wp2
    go_ret2
    exact ⟨_, by first | rfl | (simp [errW_none, errW_some] <;> rfl) | (simp [*, errW_none, errW_some] <;> rfl), by first | exact Kd.R_nil _ _ _ _ _ | exact Kd.N_nil _ _ _ _ _ | exact Kd.V_nil _ _ _ _ _ | exact Kd.Q_nil _ _ _ _ _ | exact Kd.S_nil _ _ _ _ _, hb_ HB⟩
   ·replace c14 := Bool.eq_false_iff.mpr c14
    subst c14
    rw [if_neg (show ¬ (false = true) by decide)] at H
    have H' := Aside0.mk H
    clear H
    go_wp2
    go_loopg [6, 28] kj2 (fun kq v6 v28 w' => ∃ (x6_2 : Int) (x28_2 : Int), v6 = .int .i64 x6_2 ∧ v28 = .int .i64 x28_2 ∧ Aside0 (impl_SplitPiece.l0 kq l1 x6_2 l1 (l1.length : Int) x28_2 a0_0 a0_1 a0_2 = some (r1, r2)) ∧ Aside0 (kq ≤ kj2) ∧ Aside0 (w'.heap[gb225]? = some (.cells #[.int .i64 a0_0, .int .i64 a0_1, .int .i64 a0_2] 29 (0, 0))) ∧ Aside0 (Below w.heap.size w w'))
    case atStart => exact ⟨(0), (0), (by first | rfl | (simp; done) | (simp [*]; done)), (by first | rfl | (simp; done) | (simp [*]; done)), H', ⟨Nat.le_refl _⟩, ⟨kp_ BK225⟩, ⟨hb_ HB⟩⟩
    case round =>
     clear H'
     (try clear c1); (try clear c2); (try clear p2); (try clear c4); (try clear c6); (try clear c7); (try clear c7b0); (try clear c7b1); (try clear c14)
     obtain ⟨x6_2, x28_2, rfl, rfl, HA, HK2, BK225, HB⟩ := hrel
     cases gk with
     | zero => exact absurd HA.out (by simp [impl_SplitPiece.l0])
     | succ k2 =>
      have H := HA.out
      clear HA
      simp only [impl_SplitPiece.l0] at H
      by_cases c15 : x28_2 < (l1.length : Int)
      ·rw [if_pos c15] at H
       have c15b0 : decide (x28_2 < (l1.length : Int)) = true := decide_eq_true c15
       clear c15
       by_cases c16 : 0 ≤ x28_2
       ·rw [if_pos c16] at H
        have c16b0 : decide (0 ≤ x28_2) = true := decide_eq_true c16
        clear c16
        by_cases c17 : x28_2 < (l1.length : Int)
        ·rw [if_pos c17] at H
         have c17b0 : decide (x28_2 < (l1.length : Int)) = true := decide_eq_true c17
         clear c17
         by_cases c18 : (rd l1 x28_2) < 0
         ·rw [if_pos c18] at H
          have c18b0 : decide ((rd l1 x28_2) < 0) = true := decide_eq_true c18
          clear c18
          simp only [Option.some.injEq, Prod.mk.injEq] at H
          obtain ⟨rfl, rfl⟩ := H
          have p227 : 0 ≤ (x28_2 : Int) := of_decide_eq_true (by first | (with_reducible assumption) | assumption)
          have q227 : x28_2 < (l1.length : Int) := of_decide_eq_true (by first | (with_reducible assumption) | assumption)
          obtain ⟨ad227, e227, hx227_0⟩ := Kd.at_int HR1.out x28_2 p227 q227
          cases e227
          replace hx227_0 := (HB.out.cell (World.block_lt_of_cell? w _ hx227_0)).trans hx227_0
          replace p227 := eq_true p227
          replace q227 := eq_true q227
          go_wp2
          go_ret2
          exact ⟨_, by first | rfl | (simp [errW_none, errW_some] <;> rfl) | (simp [*, errW_none, errW_some] <;> rfl), by first | exact Kd.R_nil _ _ _ _ _ | exact Kd.N_nil _ _ _ _ _ | exact Kd.V_nil _ _ _ _ _ | exact Kd.Q_nil _ _ _ _ _ | exact Kd.S_nil _ _ _ _ _, hb_ HB⟩
         ·rw [if_neg c18] at H
          have c18b0 : decide ((rd l1 x28_2) < 0) = false := decide_eq_false c18
          clear c18
          by_cases c19 : (rd l1 x28_2) > 100
          ·rw [if_pos c19] at H
           have c19b0 : decide (100 < (rd l1 x28_2)) = true := decide_eq_true c19
           clear c19
           simp only [Option.some.injEq, Prod.mk.injEq] at H
           obtain ⟨rfl, rfl⟩ := H
           have p227 : 0 ≤ (x28_2 : Int) := of_decide_eq_true (by first | (with_reducible assumption) | assumption)
           have q227 : x28_2 < (l1.length : Int) := of_decide_eq_true (by first | (with_reducible assumption) | assumption)
           obtain ⟨ad227, e227, hx227_0⟩ := Kd.at_int HR1.out x28_2 p227 q227
           cases e227
           replace hx227_0 := (HB.out.cell (World.block_lt_of_cell? w _ hx227_0)).trans hx227_0
           replace p227 := eq_true p227
           replace q227 := eq_true q227
           go_wp2
           go_ret2
           exact ⟨_, by first | rfl | (simp [errW_none, errW_some] <;> rfl) | (simp [*, errW_none, errW_some] <;> rfl), by first | exact Kd.R_nil _ _ _ _ _ | exact Kd.N_nil _ _ _ _ _ | exact Kd.V_nil _ _ _ _ _ | exact Kd.Q_nil _ _ _ _ _ | exact Kd.S_nil _ _ _ _ _, hb_ HB⟩
          ·rw [if_neg c19] at H
           have c19b0 : decide (100 < (rd l1 x28_2)) = false := decide_eq_false c19
           clear c19
           have H' := Aside0.mk H
           clear H
           have p227 : 0 ≤ (x28_2 : Int) := of_decide_eq_true (by first | (with_reducible assumption) | assumption)
           have q227 : x28_2 < (l1.length : Int) := of_decide_eq_true (by first | (with_reducible assumption) | assumption)
           obtain ⟨ad227, e227, hx227_0⟩ := Kd.at_int HR1.out x28_2 p227 q227
           cases e227
           replace hx227_0 := (HB.out.cell (World.block_lt_of_cell? w _ hx227_0)).trans hx227_0
           replace p227 := eq_true p227
           replace q227 := eq_true q227
           go_wp2
           go_roundg k2
           case measure => have := HJ2.out; have := HK2.out; omega
           case rel => exact ⟨(wrap64 (x6_2 + (rd l1 x28_2))), (wrap64 (x28_2 + 1)), (by first | rfl | (simp; done) | (simp [*]; done)), (by first | rfl | (simp; done) | (simp [*]; done)), H', ⟨by have := HJ2.out; have := HK2.out; omega⟩, ⟨kp_ BK225⟩, ⟨hb_ HB⟩⟩
        ·rw [if_neg c17] at H
         exact absurd H (by simp)
       ·rw [if_neg c16] at H
        exact absurd H (by simp)
      ·rw [if_neg c15] at H
       have c15b0 : decide (x28_2 < (l1.length : Int)) = false := decide_eq_false c15
       clear c15
       by_cases c20 : x6_2 = 0
       ·rw [if_pos c20] at H
        have c20b0 : (x6_2 == 0) = true := beq_iff_eq.mpr c20
        have c20b1 : (x6_2 != 0) = false := bne_eq_false_iff_eq.mpr c20
        clear c20
        simp only [Option.some.injEq, Prod.mk.injEq] at H
        obtain ⟨rfl, rfl⟩ := H
        go_wp2
        go_ret2
        exact ⟨_, by first | rfl | (simp [errW_none, errW_some] <;> rfl) | (simp [*, errW_none, errW_some] <;> rfl), by first | exact Kd.R_nil _ _ _ _ _ | exact Kd.N_nil _ _ _ _ _ | exact Kd.V_nil _ _ _ _ _ | exact Kd.Q_nil _ _ _ _ _ | exact Kd.S_nil _ _ _ _ _, hb_ HB⟩
       ·rw [if_neg c20] at H
        have c20b0 : (x6_2 == 0) = false := beq_eq_false_iff_ne.mpr c20
        have c20b1 : (x6_2 != 0) = true := bne_iff_ne.mpr c20
        by_cases c21 : 0 ≤ (l1.length : Int)
        ·rw [if_pos c21] at H
         have c21b0 := eq_true c21
         have c21b1 : decide (0 ≤ (l1.length : Int)) = true := decide_eq_true c21
         clear c21
         by_cases c22 : ((l1.length : Int) : Int).toNat ≤ 11728124029610
         ·rw [if_pos c22] at H
          have c22b0 := eq_true c22
          have c22b1 : decide (((l1.length : Int) : Int).toNat ≤ 11728124029610) = true := decide_eq_true c22
          clear c22
          obtain ⟨y228, hy228⟩ : ∃ y_ : List (S29), y_ = (List.replicate ((l1.length : Int) : Int).toNat z29) := ⟨_, rfl⟩
          replace H : ((impl_sharesOf.f k2 a0_0 l1).bind fun t231 => (if ((l1.length : Int) : Int).toNat ≤ 35184372088832 then (if a0_0 > 0 then ((impl_sharesOf.f k2 a0_1 t231).bind fun t237 => (impl_SplitPiece.j2 k2 y228 t231 t237 a0_0 a0_1 a0_2)) else (impl_SplitPiece.j2 k2 y228 t231 (List.replicate ((l1.length : Int) : Int).toNat 0) a0_0 a0_1 a0_2)) else (none))) = some (r1, r2) := by first | (rw [hy228]; with_reducible exact H) | (have H2_ := (Option.bind_some _ _).symm.trans H; rw [hy228]; with_reducible exact H2_) | (have H2_ := (Option.bind_some _ _).symm.trans H; with_reducible exact H2_) | with_reducible exact H | (rw [hy228]; exact H) | exact H
          have Ny228 := Aside0.mk hy228
          clear hy228
          replace H := Option.bind_eq_some_iff.mp H
          obtain ⟨t231, A230, H⟩ := H
          try dsimp only at H
          have A23 := Aside0.mk A230
          clear A230
          by_cases c24 : ((l1.length : Int) : Int).toNat ≤ 35184372088832
          ·rw [if_pos c24] at H
           have c24b0 := eq_true c24
           have c24b1 : decide (((l1.length : Int) : Int).toNat ≤ 35184372088832) = true := decide_eq_true c24
           clear c24
           obtain ⟨y234, hy234⟩ : ∃ y_ : List Int, y_ = (List.replicate ((l1.length : Int) : Int).toNat 0) := ⟨_, rfl⟩
           replace H : (if a0_0 > 0 then ((impl_sharesOf.f k2 a0_1 t231).bind fun t237 => (impl_SplitPiece.j2 k2 y228 t231 t237 a0_0 a0_1 a0_2)) else (impl_SplitPiece.j2 k2 y228 t231 y234 a0_0 a0_1 a0_2)) = some (r1, r2) := by first | (rw [hy234]; with_reducible exact H) | (have H2_ := (Option.bind_some _ _).symm.trans H; rw [hy234]; with_reducible exact H2_) | (have H2_ := (Option.bind_some _ _).symm.trans H; with_reducible exact H2_) | with_reducible exact H | (rw [hy234]; exact H) | exact H
           have Ny234 := Aside0.mk hy234
           clear hy234
           have HC25 := Aside0.mk H
           clear H
           go_upto_if 56 with (first | ((with_reducible refine gate_dst (N := 46) rfl ?_); (try (refine gate_guard (by rfl) ?_; dsimp only)); refine Kd.R_make k29 _ 29 rfl (N := 46) rfl 42 _ _ rfl (l1.length : Int) rfl rfl Try.underlying42 (.agg #[(.int .i64 0), (.int .i64 0), (.int .i64 0)]) 24 info29 rfl (by decide) (by omega) z29 (ok := fun _ => True) (okp := fun _ => True) (k29_mkM _ _ _ z29 ) (fun _ hk => hk) trivial (of_decide_eq_true (by first | (with_reducible assumption) | assumption)) (Nat.le_trans (Nat.mul_le_mul_right _ (of_decide_eq_true (by first | (with_reducible assumption) | assumption) : (l1.length : Int).toNat ≤ 11728124029610)) (by omega)) (Below.refl _ _) (Nat.le_refl _) ?_; intro v229 w26 ho27 hb hg_ hnew_; clear hg_ hnew_; (first | rw [← Ny228.out] at ho27 | (simp only [Int.reduceToNat] at ho27; rw [← Ny228.out] at ho27)); have HO230 := Kd.R_lo (Kd.R_newB ho27 (g := gb225) (o := .cells #[.int .i64 a0_0, .int .i64 a0_1, .int .i64 a0_2] 29 (0, 0)) (kp_ BK225)) HB; replace BK225 := kb_ BK225 hb; replace HB := hbs_ HB hb; clear hb ho27; obtain ⟨hcz28_0, hcz28_1, hcz28_2, hfz28_0, hfz28_1, hfz28_2⟩ := bx3 BK225) | ((with_reducible refine gate_callee (f := 74) rfl ?_); refine gl_ (some 50) Try.func74 #[.int .i64 a0_0, .slice A1 l1.length c1] rfl rfl rfl ?_; (with_reducible refine (impl_sharesOf.calls k2 a0_0 _ _ l1 t231 _ ?side1 ?side2 A23.out).mono ?_); (case side1 => exact Kd.C_w HR1 HB); (case side2 => exact HC1.out); rintro e w29 ⟨v232, rfl, ho0, hb⟩; refine ⟨_, rfl, ?_⟩; have HO233 := Kd.R_lo ho0 HB; replace HO230 := Kd.R_b HO230 hb; replace BK225 := kb_ BK225 hb; replace HB := hbs_ HB hb; (try clear hb); (try clear hb2); (try clear hk); (try clear hi); (try clear ho0)) | ((with_reducible refine gate_dst (N := 53) rfl ?_); (try (refine gate_guard (by rfl) ?_; dsimp only)); refine Kd.R_make (Kd.int .i64) _ 3 rfl (N := 53) rfl 24 _ _ rfl (l1.length : Int) rfl rfl Try.underlying24 (.int .i64 0) 8 info3 rfl (by decide) (by omega) 0 (ok := fun _ => True) (okp := fun _ => True) rfl (fun _ hk => hk) trivial (of_decide_eq_true (by first | (with_reducible assumption) | assumption)) (Nat.le_trans (Nat.mul_le_mul_right _ (of_decide_eq_true (by first | (with_reducible assumption) | assumption) : (l1.length : Int).toNat ≤ 35184372088832)) (by omega)) (Below.refl _ _) (Nat.le_refl _) ?_; intro v235 w30 ho31 hb hg_ hnew_; clear hg_ hnew_; (first | rw [← Ny234.out] at ho31 | (simp only [Int.reduceToNat] at ho31; rw [← Ny234.out] at ho31)); have HO236 := Kd.R_lo (Kd.R_nw ho31 HO233) HB; replace HO230 := Kd.R_b HO230 hb; replace HO233 := Kd.R_e HO233 ho31 hb; replace BK225 := kb_ BK225 hb; replace HB := hbs_ HB hb; clear hb ho31; obtain ⟨hcz32_0, hcz32_1, hcz32_2, hfz32_0, hfz32_1, hfz32_2⟩ := bx3 BK225))
           (try simp only [Act.put, List.setIfInBounds_toArray, List.set_cons_zero, List.set_cons_succ])
           go_cut [11] (fun v11 wc => ∃ (kq : Nat) (x11_24 : List Int), Aside0 (impl_SplitPiece.j2 kq y228 t231 x11_24 a0_0 a0_1 a0_2 = some (r1, r2)) ∧ Aside0 (kq ≤ k2) ∧ Aside0 (Kd.R k29 29 wc w.heap.size (fun k_ => k_ ≠ gb225) v229 y228) ∧ Aside0 (Kd.R (Kd.int .i64) 3 wc w.heap.size (fun k_ => some k_ ≠ (v11 : Value).ownBlock) v232 t231) ∧ Aside0 (Kd.R (Kd.int .i64) 3 wc w.heap.size (fun k_ => some k_ ≠ (v232 : Value).ownBlock) v11 x11_24) ∧ Aside0 (wc.heap[gb225]? = some (.cells #[.int .i64 a0_0, .int .i64 a0_1, .int .i64 a0_2] 29 (0, 0))) ∧ Aside0 (Below w.heap.size w wc))
           case first =>
            have H := HC25.out
            clear HC25
            by_cases c33 : a0_0 > 0
            ·rw [if_pos c33] at H
             have c33b0 : decide (0 < a0_0) = true := decide_eq_true c33
             clear c33
             (first | rw [c33b0] | (simp only [i64_w, i32_w]; rw [c33b0]) | skip)
             replace H := Option.bind_eq_some_iff.mp H
             obtain ⟨t237, A340, H⟩ := H
             try dsimp only at H
             have A34 := Aside0.mk A340
             clear A340
             have H' := Aside0.mk H
             clear H
             have hcz35_0 : w30.cell? ⟨gb225, 0, none⟩ = some (.int .i64 a0_0) := (blk_cell BK225.out 0).trans rfl
             have hcz35_1 : w30.cell? ⟨gb225, 1, none⟩ = some (.int .i64 a0_1) := (blk_cell BK225.out 1).trans rfl
             have hcz35_2 : w30.cell? ⟨gb225, 2, none⟩ = some (.int .i64 a0_2) := (blk_cell BK225.out 2).trans rfl
             have hfz35_0 := blk_frozen BK225.out 0
             have hfz35_1 := blk_frozen BK225.out 1
             have hfz35_2 := blk_frozen BK225.out 2
             (try clear HO236)
             obtain ⟨Ao36, co36, eo36⟩ := Kd.R_slice HO233.out
             subst eo36
             go_wp2_with (first | ((with_reducible refine gate_callee (f := 74) rfl ?_); refine gl_ (some 60) Try.func74 #[.int .i64 a0_1, .slice Ao36 t231.length co36] rfl rfl rfl ?_; (with_reducible refine (impl_sharesOf.calls k2 a0_1 _ _ t231 t237 _ ?side1 ?side2 A34.out).mono ?_); (case side1 => exact Kd.C_o HO233); (case side2 => exact (Kd.R_reads' HO233.out).2.1); rintro e w37 ⟨v238, rfl, ho0, hb⟩; refine ⟨_, rfl, ?_⟩; have HO239 := Kd.R_lo (Kd.R_nw ho0 HO233) HB; replace HO230 := Kd.R_b HO230 hb; replace HO233 := Kd.R_e HO233 ho0 hb; replace BK225 := kb_ BK225 hb; replace HB := hbs_ HB hb; (try clear hb); (try clear hb2); (try clear hk); (try clear hi); (try clear ho0)))
             go_meet
             case rel => exact ⟨_, (t237), H', ⟨by have := HJ2.out; have := HK2.out; first | omega | exact Nat.le_refl _⟩, ⟨Kd.R_pp (Kd.R_mono HO230.out (fun _ hk => hk.2))⟩, ⟨Kd.R_pp (Kd.R_mono HO233.out (fun _ hk => hk.2))⟩, ⟨Kd.R_pp (Kd.R_mono HO239.out (fun _ hk => hk.2))⟩, ⟨kp_ BK225⟩, ⟨hb_ HB⟩⟩
            ·rw [if_neg c33] at H
             have c33b0 : decide (0 < a0_0) = false := decide_eq_false c33
             clear c33
             (first | rw [c33b0] | (simp only [i64_w, i32_w]; rw [c33b0]) | skip)
             have H' := Aside0.mk H
             clear H
             go_wp2
             go_meet
             case rel => exact ⟨_, (y234), H', ⟨by have := HJ2.out; have := HK2.out; first | omega | exact Nat.le_refl _⟩, ⟨Kd.R_pp (Kd.R_mono HO230.out (fun _ hk => hk.2))⟩, ⟨Kd.R_pp (Kd.R_mono HO233.out (fun _ hk => hk.2))⟩, ⟨Kd.R_pp (Kd.R_mono HO236.out (fun _ hk => hk.2))⟩, ⟨kp_ BK225⟩, ⟨hb_ HB⟩⟩
           case rest =>
            clear HC25
            (try clear c1); (try clear c2); (try clear p2); (try clear q2); (try clear hx2); (try clear c3); (try clear c4); (try clear c6); (try clear p6); (try clear c7); (try clear c7b0); (try clear c7b1); (try clear c14); (try clear c15); (try clear c15b0); (try clear c16); (try clear c16b0); (try clear c17); (try clear c17b0); (try clear c18); (try clear c18b0); (try clear c19); (try clear c19b0); (try clear c20); (try clear c20b0); (try clear c20b1); (try clear c21); (try clear c21b0); (try clear c21b1); (try clear c22); (try clear c22b0); (try clear c22b1); (try clear p22); (try clear q22); (try clear hx22); (try clear c24); (try clear c24b0); (try clear c24b1); (try clear c25); (try clear c33); (try clear c33b0); (try clear hcz28_0); (try clear hcz28_1); (try clear hcz28_2); (try clear hcz32_0); (try clear hcz32_1); (try clear hcz32_2); (try clear hfz28_0); (try clear hfz28_1); (try clear hfz28_2); (try clear hfz32_0); (try clear hfz32_1); (try clear hfz32_2)
            obtain ⟨kq, x11_24, HA, HJ24, HO_9, HO_10, HO_11, BK225, HB⟩ := hcut
            cases kq with
            | zero => exact absurd HA.out (by simp [impl_SplitPiece.j2])
            | succ kj24 =>
             have H := HA.out
             clear HA
             simp only [impl_SplitPiece.j2] at H
             have H' := Aside0.mk H
             clear H
             obtain ⟨Ao38, co38, eo38⟩ := Kd.R_slice HO_9.out
             subst eo38
             go_wp2
             go_loopg [63] kj24 (fun kq v63 w' => ∃ (x9_4 : List (S29)) (x63_4 : Int) (x226000_4 : Int) (x226001_4 : Int) (x226002_4 : Int), v63 = .int .i64 x63_4 ∧ Aside0 (impl_SplitPiece.l1 kq x9_4 t231 x11_24 (y228.length : Int) x63_4 x226000_4 x226001_4 x226002_4 = some (r1, r2)) ∧ Aside0 (kq ≤ kj24) ∧ Aside0 (Kd.R k29 29 w' w.heap.size (fun k_ => k_ ≠ gb225) (.slice Ao38 y228.length co38) x9_4) ∧ Aside0 (Kd.R (Kd.int .i64) 3 w' w.heap.size (fun k_ => some k_ ≠ (u11 : Value).ownBlock) v232 t231) ∧ Aside0 (Kd.R (Kd.int .i64) 3 w' w.heap.size (fun k_ => some k_ ≠ (v232 : Value).ownBlock) u11 x11_24) ∧ Aside0 (w'.heap[gb225]? = some (.cells #[.int .i64 x226000_4, .int .i64 x226001_4, .int .i64 x226002_4] 29 (0, 0))) ∧ Aside0 (Below w.heap.size w w'))
             case atStart => exact ⟨(y228), (0), (a0_0), (a0_1), (a0_2), (by first | rfl | (simp; done) | (simp [*]; done)), H', ⟨Nat.le_refl _⟩, ⟨Kd.R_p HO_9⟩, ⟨Kd.R_p HO_10⟩, ⟨Kd.R_p HO_11⟩, ⟨kp_ BK225⟩, ⟨hb_ HB⟩⟩
             case round =>
              clear H'
              (try clear c1); (try clear c2); (try clear p2); (try clear q2); (try clear hx2); (try clear c3); (try clear c4); (try clear c6); (try clear p6); (try clear c7); (try clear c7b0); (try clear c7b1); (try clear c14); (try clear c15); (try clear c15b0); (try clear c16); (try clear c16b0); (try clear c17); (try clear c17b0); (try clear c18); (try clear c18b0); (try clear c19); (try clear c19b0); (try clear c20); (try clear c20b0); (try clear c20b1); (try clear c21); (try clear c21b0); (try clear c21b1); (try clear c22); (try clear c22b0); (try clear c22b1); (try clear p22); (try clear q22); (try clear hx22); (try clear c24); (try clear c24b0); (try clear c24b1); (try clear c25); (try clear c33); (try clear c33b0)
              obtain ⟨x9_4, x63_4, x226000_4, x226001_4, x226002_4, rfl, HA, HK4, HO_9, HO_10, HO_11, BK225, HB⟩ := hrel
              have hl9_4 := (Kd.R_reads' HO_9.out).1
              rw [hl9_4] at HO_9
              (try simp only [hl9_4])
              (try simp only [hl9_4] at BK225)
              (try simp only [hl9_4] at HO_10)
              (try simp only [hl9_4] at HO_11)
              cases gk with
              | zero => exact absurd HA.out (by simp [impl_SplitPiece.l1])
              | succ k4 =>
               have H := HA.out
               clear HA
               simp only [impl_SplitPiece.l1] at H
               by_cases c39 : x63_4 < (y228.length : Int)
               ·rw [if_pos c39] at H
                have c39b0 : decide (x63_4 < (y228.length : Int)) = true := decide_eq_true c39
                clear c39
                by_cases c40 : 0 ≤ x63_4
                ·rw [if_pos c40] at H
                 have c40b0 : decide (0 ≤ x63_4) = true := decide_eq_true c40
                 clear c40
                 by_cases c41 : x63_4 < (t231.length : Int)
                 ·rw [if_pos c41] at H
                  have c41b0 : decide (x63_4 < (t231.length : Int)) = true := decide_eq_true c41
                  clear c41
                  by_cases c42 : x63_4 < (x11_24.length : Int)
                  ·rw [if_pos c42] at H
                   have c42b0 : decide (x63_4 < (x11_24.length : Int)) = true := decide_eq_true c42
                   clear c42
                   by_cases c43 : x63_4 < (x9_4.length : Int)
                   ·rw [if_pos c43] at H
                    have c43b0 : decide (x63_4 < (x9_4.length : Int)) = true := decide_eq_true c43
                    clear c43
                    obtain ⟨y242, hy242⟩ : ∃ y_ : List (S29), y_ = (x9_4.set (x63_4 : Int).toNat (⟨rd t231 x63_4, rd x11_24 x63_4, x226002_4⟩ : S29)) := ⟨_, rfl⟩
                    replace H : (impl_SplitPiece.l1 k4 y242 t231 x11_24 (y228.length : Int) (wrap64 (x63_4 + 1)) x226000_4 x226001_4 x226002_4) = some (r1, r2) := by first | (rw [hy242]; with_reducible exact H) | (have H2_ := (Option.bind_some _ _).symm.trans H; rw [hy242]; with_reducible exact H2_) | (have H2_ := (Option.bind_some _ _).symm.trans H; with_reducible exact H2_) | with_reducible exact H | (rw [hy242]; exact H) | exact H
                    have Ny242 := Aside0.mk hy242
                    clear hy242
                    have H' := Aside0.mk H
                    clear H
                    try go_wp2
                    have n0_ := Aside0.mk (Kd.R_drew HO_9.out)
                    have n1_ := Aside0.mk (Kd.R_drew HO_10.out)
                    have n2_ := Aside0.mk (Kd.R_drew HO_11.out)
                    have n3_ := Aside0.mk (blk_drew BK225.out)
                    have n4_ := Aside0.mk (below_drew1 HB.out)
                    clear HO_9
                    clear HO_10
                    clear HO_11
                    clear BK225
                    clear HB
                    have HO_9 := n0_
                    have HO_10 := n1_
                    have HO_11 := n2_
                    have BK225 := n3_
                    have HB := n4_
                    clear n0_ n1_ n2_ n3_ n4_
                    obtain ⟨Ao46, co46, eo46⟩ := Kd.R_slice HO_10.out
                    (first | subst eo46 | (injection eo46 with f1_ f2_ f3_; have f4_ := f1_.symm; have f5_ := f3_.symm; clear f1_ f2_ f3_; subst f4_; subst f5_))
                    have p240 : 0 ≤ (x63_4 : Int) := of_decide_eq_true (by first | (with_reducible assumption) | assumption)
                    have q240 : x63_4 < (t231.length : Int) := of_decide_eq_true (by first | (with_reducible assumption) | assumption)
                    obtain ⟨ad240, e240, hx240_0⟩ := Kd.at_int (Kd.R_reads' HO_10.out).2.2 x63_4 p240 q240
                    cases e240
                    replace p240 := eq_true p240
                    replace q240 := eq_true q240
                    obtain ⟨Ao47, co47, eo47⟩ := Kd.R_slice HO_11.out
                    (first | subst eo47 | (injection eo47 with f1_ f2_ f3_; have f4_ := f1_.symm; have f5_ := f3_.symm; clear f1_ f2_ f3_; subst f4_; subst f5_))
                    have p241 : 0 ≤ (x63_4 : Int) := of_decide_eq_true (by first | (with_reducible assumption) | assumption)
                    have q241 : x63_4 < (x11_24.length : Int) := of_decide_eq_true (by first | (with_reducible assumption) | assumption)
                    obtain ⟨ad241, e241, hx241_0⟩ := Kd.at_int (Kd.R_reads' HO_11.out).2.2 x63_4 p241 q241
                    cases e241
                    replace p241 := eq_true p241
                    replace q241 := eq_true q241
                    have p44 : 0 ≤ (x63_4 : Int) := of_decide_eq_true (by first | (with_reducible assumption) | assumption)
                    have q44 : (x63_4 : Int) < ((x9_4.length : Int) : Int) := of_decide_eq_true (by first | (with_reducible assumption) | assumption)
                    obtain ⟨go44, co44, eo44, gb44, gl44, cl44, HG44⟩ := Kd.R_form HO_9.out (by omega)
                    (first | cases eo44 | (injection eo44 with ea_ en_ ec_; (first | subst ea_ | (injection ea_ with ea_; subst ea_)); subst ec_; clear en_))
                    have GB44 := Aside0.mk gb44
                    have GG44 := Aside0.mk HG44
                    clear gb44 gl44 HG44
                    obtain ⟨ce44, hcl44, hM44, hcc44, hfr44⟩ := Kd.R_elem HO_9.out z29 (x63_4 : Int) p44 q44
                    obtain rfl := k29_openM hM44
                    have hx44_0 : World.cell? _ ⟨go44, (x63_4 : Int).toNat * 3, none⟩ = some (.int .i64 ((rd_T29 x9_4 x63_4).f0)) := hcc44 0 _ rfl
                    have hx44_1 : World.cell? _ ⟨go44, (x63_4 : Int).toNat * 3 + 1, none⟩ = some (.int .i64 ((rd_T29 x9_4 x63_4).f1)) := hcc44 1 _ rfl
                    have hx44_2 : World.cell? _ ⟨go44, (x63_4 : Int).toNat * 3 + 2, none⟩ = some (.int .i64 ((rd_T29 x9_4 x63_4).f2)) := hcc44 2 _ rfl
                    have hf44_0 : World.frozen? _ ⟨go44, (x63_4 : Int).toNat * 3, none⟩ = false := hfr44 0
                    have hf44_1 : World.frozen? _ ⟨go44, (x63_4 : Int).toNat * 3 + 1, none⟩ = false := hfr44 1
                    have hf44_2 : World.frozen? _ ⟨go44, (x63_4 : Int).toNat * 3 + 2, none⟩ = false := hfr44 2
                    clear hcl44 hcc44 hfr44 hM44
                    replace p44 := eq_true p44
                    replace q44 := eq_true q44
                    obtain ⟨ce48, hcl48, hM48, hcc48, hfr48⟩ := Kd.R_elem HO_9.out z29 (x63_4 : Int) (of_decide_eq_true (by first | (with_reducible assumption) | assumption)) (by have h_ : (x63_4 : Int) < ((x9_4.length : Int) : Int) := of_decide_eq_true (by first | (with_reducible assumption) | assumption); first | exact h_ | (have e_ := (Kd.R_reads' HO_9.out).1; omega) | simpa using h_)
                    obtain rfl := k29_openM hM48
                    have HP48 := (Kd.R_seg HO_9.out (x63_4 : Int) (of_decide_eq_true (by first | (with_reducible assumption) | assumption)) (by have h_ : (x63_4 : Int) < ((x9_4.length : Int) : Int) := of_decide_eq_true (by first | (with_reducible assumption) | assumption); first | exact h_ | (have e_ := (Kd.R_reads' HO_9.out).1; omega) | simpa using h_) (seg := [.int .i64 (rd t231 x63_4), .int .i64 (rd x11_24 x63_4), .int .i64 x226002_4]) (j := 0) hcl48 hcc48 (show 3 ≤ 3 from by decide) (x' := (⟨rd t231 x63_4, rd x11_24 x63_4, x226002_4⟩ : S29)) (k29_mkM _ _ _ (⟨rd t231 x63_4, rd x11_24 x63_4, x226002_4⟩ : S29) ) (fun _ hk => hk)).1
                    rw [← Ny242.out] at HP48
                    have HQ48 := Aside0.mk HP48
                    clear hcl48 hcc48 hfr48 hM48 HP48
                    refine start_ (n := 15) (S := fun w' => w'.cell? ⟨gb225, 0, none⟩ = some (.int .i64 x226000_4) ∧ w'.cell? ⟨gb225, 1, none⟩ = some (.int .i64 x226001_4) ∧ w'.cell? ⟨gb225, 2, none⟩ = some (.int .i64 x226002_4) ∧ w'.cell? (ad240.add (x63_4).toNat) = some (.int .i64 (rd t231 x63_4)) ∧ w'.cell? (ad241.add (x63_4).toNat) = some (.int .i64 (rd x11_24 x63_4))) (ds := [14]) (bb 15 0) (by kernel_rfl) rfl rfl ⟨(blk_cell BK225.out 0).trans rfl, (blk_cell BK225.out 1).trans rfl, (blk_cell BK225.out 2).trans rfl, hx240_0, hx241_0⟩ (fun hHeld => ?_); refine with_tabW impl_SplitPiece.tab21 impl_SplitPiece.bits21 (fun HT_ HW_ => ?_)
                    generalize wr.drew = w45 at HO_9 HO_10 HO_11 BK225 HB GG44 HQ48 hf44_0 hf44_1 hf44_2 hx240_0 hx241_0 hx44_0 hx44_1 hx44_2 hHeld ⊢
                    refine pl_ HT_ 0 (some 66) (bb 15 1) (h := ?_)
                    refine pl_ HT_ 1 (some 67) (bb 15 3) (h := ?_)
                    refine pl_ HT_ 2 (some 68) (bb 15 7) (h := ?_)
                    refine pl_ HT_ 3 (some 69) (bb 15 15) (h := ?_)
                    refine pl_ HT_ 4 (some 70) (bb 15 31) (h := ?_)
                    refine pl_ HT_ 6 (some 72) (bb 15 95) (h := ?_)
                    refine pl_ HT_ 7 (some 73) (bb 15 223) (h := ?_)
                    refine pl_ HT_ 8 (some 74) (bb 15 479) (h := ?_)
                    refine pl_ HT_ 10 (some 76) (bb 15 1503) (h := ?_)
                    refine take_ (i := 5) (N := some 71) (v := ?_) (a' := ?_) (bb 15 1535) rfl rfl (take_ofW HT_.out HW_.out (by kernel_rfl)) (fun _ _ _ h => h) (Or.inl ⟨by rfl, ?_⟩) hHeld ?_ ?_
                    rotate_left
                    ·rintro w' ⟨s0, s1, s2, s3, s4⟩
                     go_simp
                     with_reducible rfl
                    rotate_left
                    ·simp only [Act.put, List.setIfInBounds_toArray, List.set_cons_zero, List.set_cons_succ, i64_w, i32_w]
                     rfl
                    refine take_ (i := 9) (N := some 75) (v := ?_) (a' := ?_) (bb 15 2047) rfl rfl (take_ofW HT_.out HW_.out (by kernel_rfl)) (fun _ _ _ h => h) (Or.inl ⟨by rfl, ?_⟩) hHeld ?_ ?_
                    rotate_left
                    ·rintro w' ⟨s0, s1, s2, s3, s4⟩
                     go_simp
                     with_reducible rfl
                    rotate_left
                    ·simp only [Act.put, List.setIfInBounds_toArray, List.set_cons_zero, List.set_cons_succ, i64_w, i32_w]
                     rfl
                    refine take_ (i := 11) (N := some 77) (v := ?_) (a' := ?_) (bb 15 4095) rfl rfl (take_ofW HT_.out HW_.out (by kernel_rfl)) (fun _ _ _ h => h) (Or.inl ⟨by rfl, ?_⟩) hHeld ?_ ?_
                    rotate_left
                    ·rintro w' ⟨s0, s1, s2, s3, s4⟩
                     go_simp
                     with_reducible rfl
                    rotate_left
                    ·simp only [Act.put, List.setIfInBounds_toArray, List.set_cons_zero, List.set_cons_succ, i64_w, i32_w]
                     rfl
                    refine pl_ HT_ 12 (some 78) (bb 15 8191) (h := ?_)
                    refine pl_ HT_ 13 (some 79) (bb 15 16383) (h := ?_)
                    refine last_ (i := 14) (N := none) (bb 15 32767) rfl rfl (one_of HT_.out (by kernel_rfl)) (by decide) (fun K hK => ?_)
                    refine skip_ (w1 := ?_) (by rfl) rfl ?_ ?_
                    rotate_left
                    ·go_simp
                     rfl
                    refine hK.out _ _ ?_
                    clear hK K
                    refine done_ (done_of HT_.out (by kernel_rfl)) ?_
                    try go_wp2
                    (try simp only [← hl9_4])
                    go_roundg k4
                    case measure => have := HJ2.out; have := HK2.out; have := HJ24.out; have := HK4.out; omega
                    case rel => exact ⟨(y242), (wrap64 (x63_4 + 1)), (x226000_4), (x226001_4), (x226002_4), (by first | rfl | (simp; done) | (simp [*]; done)), H', ⟨by have := HJ2.out; have := HK2.out; have := HJ24.out; have := HK4.out; omega⟩, ⟨by (try simp only [hl9_4]); (with_reducible repeat (first | apply Kd.R_alloc | apply Kd.R_drewN | apply Kd.R_drew)); exact HQ48.out⟩, ⟨by (try simp only [hl9_4]); (with_reducible repeat (first | apply Kd.R_alloc | apply Kd.R_drewN | apply Kd.R_drew)); exact Kd.R_mono (Kd.R_far (p := ⟨go44, (x63_4 : Int).toNat * 3 + 2, none⟩) (Kd.R_far (p := ⟨go44, (x63_4 : Int).toNat * 3 + 1, none⟩) (Kd.R_far (p := ⟨go44, (x63_4 : Int).toNat * 3, none⟩) (Kd.R_types HO_10.out GG44.out (by decide)) (fun _ hk => hk.2) (.int .i64 (rd t231 x63_4))) (fun _ hk => hk.2) (.int .i64 (rd x11_24 x63_4))) (fun _ hk => hk.2) (.int .i64 x226002_4)) (fun _ hk => hk.1)⟩, ⟨by (try simp only [hl9_4]); (with_reducible repeat (first | apply Kd.R_alloc | apply Kd.R_drewN | apply Kd.R_drew)); exact Kd.R_mono (Kd.R_far (p := ⟨go44, (x63_4 : Int).toNat * 3 + 2, none⟩) (Kd.R_far (p := ⟨go44, (x63_4 : Int).toNat * 3 + 1, none⟩) (Kd.R_far (p := ⟨go44, (x63_4 : Int).toNat * 3, none⟩) (Kd.R_types HO_11.out GG44.out (by decide)) (fun _ hk => hk.2) (.int .i64 (rd t231 x63_4))) (fun _ hk => hk.2) (.int .i64 (rd x11_24 x63_4))) (fun _ hk => hk.2) (.int .i64 x226002_4)) (fun _ hk => hk.1)⟩, ⟨by (try simp only [hl9_4]); (with_reducible repeat (first | refine blk_drewN ?_ _ | refine blk_drew ?_ | refine blk_alloc ?_ _)); refine blk_far ?_ (by have h_ := Kd.R_away HO_9.out (fun _ hk => hk); intro e_; exact h_ (by rw [e_]; rfl)) _; (with_reducible repeat (first | refine blk_drewN ?_ _ | refine blk_drew ?_ | refine blk_alloc ?_ _)); refine blk_far ?_ (by have h_ := Kd.R_away HO_9.out (fun _ hk => hk); intro e_; exact h_ (by rw [e_]; rfl)) _; (with_reducible repeat (first | refine blk_drewN ?_ _ | refine blk_drew ?_ | refine blk_alloc ?_ _)); refine blk_far ?_ (by have h_ := Kd.R_away HO_9.out (fun _ hk => hk); intro e_; exact h_ (by rw [e_]; rfl)) _; (with_reducible repeat (first | refine blk_drewN ?_ _ | refine blk_drew ?_ | refine blk_alloc ?_ _)); exact BK225.out⟩, ⟨by repeat (first | (with_reducible first | exact HB.out | apply below_alloc | apply pw_below_drewN | apply below_drew1 | refine below_set ?_ GB44.out | refine below_set ?_ GB44.out | refine below_set ?_ GB44.out | refine below_set ?_ GE225.out) | exact HB.out)⟩⟩
                   ·rw [if_neg c43] at H
                    exact absurd H (by simp)
                  ·rw [if_neg c42] at H
                   exact absurd H (by simp)
                 ·rw [if_neg c41] at H
                  exact absurd H (by simp)
                ·rw [if_neg c40] at H
                 exact absurd H (by simp)
               ·rw [if_neg c39] at H
                have c39b0 : decide (x63_4 < (y228.length : Int)) = false := decide_eq_false c39
                clear c39
                simp only [Option.some.injEq, Prod.mk.injEq] at H
                obtain ⟨rfl, rfl⟩ := H
                have c39i : decide (x63_4 < (x9_4.length : Int)) = false := by have hh_ := of_decide_eq_false c39b0; have hg_ := hl9_4; apply decide_eq_false; omega
                go_wp2
                go_ret2
                exact ⟨_, by first | rfl | (simp [errW_none, errW_some] <;> rfl) | (simp [*, errW_none, errW_some] <;> rfl), Kd.R_pp (Kd.R_mono HO_9.out (fun _ hk => trivial)), hb_ HB⟩
          ·rw [if_neg c24] at H
           exact absurd H (by simp)
         ·rw [if_neg c22] at H
          exact absurd H (by simp)
        ·rw [if_neg c21] at H
         exact absurd H (by simp)

end Go.Proofs.Ytceajigggcihnaa.PFnPieces
