-- Laid for this claim by wip/tools/print2.sh, a changed copy of the kit's print (wip/tools/patch_print.py): not by print.sh.
import Derived.Test.YtceajigggcihnaaPFnPiecesx0
import Derived.Test.YtceajigggcihnaaPFnPiecesx2
import Derived.Test.YtceajigggcihnaaPFnPiecesx5
import Derived.Test.YtceajigggcihnaaPFnPiecesx6
import Derived.Test.YtceajigggcihnaaVFnPieces
namespace Go.Proofs.Ytceajigggcihnaa.PFnPieces
open Go.RowKit Go.Proofs.YtceajigggcihnaaW.PrintWords Go.Proofs.YtceajigggcihnaaW.PrintLast Go.Proofs.YtceajigggcihnaaW.PrintMore
attribute [local go_sem] max2_int min2_int max_two min_two max_three min_three max_four min_four   -- for this text's walks alone
set_option linter.unusedVariables false
set_option linter.unusedSimpArgs false

/-! ### spec_SplitPiece: function 22 -/
mutual
def spec_SplitPiece.j0 : Nat → List Int → Bool → Int → Int → Int → Option ((List (S29)) × Bool)
 | 0, _, _, _, _, _ => none
 | k + 1, x1, x29, x191000, x191001, x191002 => if x29 = true then (some (([] : List (S29)), false)) else ((spec_sbShares.f k x191000 x1).bind fun t195 => (if 0 ≤ (x1.length : Int) then (if ((x1.length : Int) : Int).toNat ≤ 35184372088832 then (if x191000 > 0 then ((spec_sbShares.f k x191001 t195).bind fun t201 => (spec_SplitPiece.j1 k t195 t201 x191000 x191001 x191002)) else (spec_SplitPiece.j1 k t195 (List.replicate ((x1.length : Int) : Int).toNat 0) x191000 x191001 x191002)) else (none)) else (none)))
def spec_SplitPiece.j1 : Nat → List Int → List Int → Int → Int → Int → Option ((List (S29)) × Bool)
 | 0, _, _, _, _, _ => none
 | k + 1, x6, x7, x191000, x191001, x191002 => spec_SplitPiece.l0 k x7 ([] : List (S29)) x6 (x6.length : Int) 0 x191000 x191001 x191002
def spec_SplitPiece.l0 : Nat → List Int → List (S29) → List Int → Int → Int → Int → Int → Int → Option ((List (S29)) × Bool)
 | 0, _, _, _, _, _, _, _, _ => none
 | k + 1, x7, x8, x44, x45, x46, x191000, x191001, x191002 => if x46 < x45 then (if 0 ≤ x46 then (if x46 < (x44.length : Int) then (if x46 < (x7.length : Int) then (if x8.length < 5864062014805 then (spec_SplitPiece.l0 k x7 (x8 ++ [(⟨rd x44 x46, rd x7 x46, x191002⟩ : S29)]) x44 x45 (wrap64 (x46 + 1)) x191000 x191001 x191002) else (none)) else (none)) else (none)) else (none)) else (some (x8, true))
end
def spec_SplitPiece.f (k : Nat) (a0_0 : Int) (a0_1 : Int) (a0_2 : Int) (l1 : List Int) : Option ((List (S29)) × Bool) := (spec_sbPiece.f a0_0 a0_1 a0_2).bind fun t191 => (if t191 = true then ((spec_l1In.f (l1.length : Int) 1 20).bind fun t192 => (if t192 = true then ((spec_l1All.f k l1 0 100).bind fun t193 => (if t193 = true then ((spec_sbSum.f k l1).bind fun t194 => (spec_SplitPiece.j0 k l1 (t194 == 0) a0_0 a0_1 a0_2)) else (spec_SplitPiece.j0 k l1 true a0_0 a0_1 a0_2))) else (spec_SplitPiece.j0 k l1 true a0_0 a0_1 a0_2))) else (spec_SplitPiece.j0 k l1 true a0_0 a0_1 a0_2))
def spec_SplitPiece.T11 : Bool × List (List Nat × List Nat) := (true, [([], []), ([], []), ([], []), ([], []), ([2, 3], [2, 3]), ([4], [4]), ([], []), ([6], [6]), ([1, 5, 7], [1, 5, 7]), ([8], [8]), ([0, 9], [0, 9]), ([10, 10, 0, 1, 2, 3, 4, 5, 6, 7, 8, 9, 10], [0, 10])])
def spec_SplitPiece.B11 : List Nat := [0, 0, 0, 0, 12, 28, 0, 64, 254, 510, 1023, 2047]
theorem spec_SplitPiece.tab11 : rtab .any (opsOf Try.f22 11) = spec_SplitPiece.T11 := by kernel_rfl
theorem spec_SplitPiece.bits11 : waitsOk spec_SplitPiece.T11.2 spec_SplitPiece.B11 = true := by kernel_rfl
set_option maxHeartbeats 8000000 in
set_option maxRecDepth 100000 in
theorem spec_SplitPiece.calls (k : Nat) (a0_0 : Int) (a0_1 : Int) (a0_2 : Int) (A1 : Option Addr) (c1 : Nat) (l1 : List Int) (r1 : List (S29)) (r2 : Bool) (w : World) (hr1 : Kd.C (Kd.int .i64) w A1 l1.length l1) (hc1 : l1.length ≤ c1) (h : spec_SplitPiece.f k a0_0 a0_1 a0_2 l1 = some (r1, r2)) :
  Calls Try.prog 22 #[.agg #[.int .i64 a0_0, .int .i64 a0_1, .int .i64 a0_2], .slice A1 l1.length c1] w fun e w' => ∃ v0_ : Value, e = .returned (.tuple #[v0_, .bool r2]) ∧ Kd.R k29 29 w' w.heap.size (fun _ => True) v0_ r1 ∧ Below w.heap.size w w' := by
 have hu29 := Try.underlying29
 have HR1 := Aside0.mk hr1
 have HC1 := Aside0.mk hc1
 clear hr1 hc1
 have HB := Aside0.mk (Below.refl w.heap.size w)
 have H : ((spec_sbPiece.f a0_0 a0_1 a0_2).bind fun t191 => (if t191 = true then ((spec_l1In.f (l1.length : Int) 1 20).bind fun t192 => (if t192 = true then ((spec_l1All.f k l1 0 100).bind fun t193 => (if t193 = true then ((spec_sbSum.f k l1).bind fun t194 => (spec_SplitPiece.j0 k l1 (t194 == 0) a0_0 a0_1 a0_2)) else (spec_SplitPiece.j0 k l1 true a0_0 a0_1 a0_2))) else (spec_SplitPiece.j0 k l1 true a0_0 a0_1 a0_2))) else (spec_SplitPiece.j0 k l1 true a0_0 a0_1 a0_2))) = some (r1, r2) := h
 clear h
 have HC3 := Aside0.mk H
 clear H
 go_enter Try.func22, Try.ntmps22
 go_upto_region 1 with (first | ((with_reducible refine gate_dst (N := 2) rfl ?_); (try (refine gate_guard (by rfl) ?_; dsimp only)); refine box_event ?hg (N := 2) ?hd (cs := #[.int .i64 a0_0, .int .i64 a0_1, .int .i64 a0_2]) (t := 29) ?hr ?_; (case hd => rfl); (case hg => rfl); (case hr => first | (go_simp; done) | (go_simp; rfl)); intro gb190 hg w4 hbox hb; have BK190 := Aside0.mk (hbox); have GW190 := gs_ hg HB; have GE190 := gs_ hg HB; replace HB := hbs_ HB hb; clear hb hbox hg))
 (try simp only [Act.put, List.setIfInBounds_toArray, List.set_cons_zero, List.set_cons_succ])
 go_cut [29] (fun v29 wc => ∃ (kq : Nat) (x29_2 : Bool), v29 = .bool x29_2 ∧ Aside0 (spec_SplitPiece.j0 kq l1 x29_2 a0_0 a0_1 a0_2 = some (r1, r2)) ∧ Aside0 (kq ≤ k) ∧ Aside0 (wc.heap[gb190]? = some (.cells #[.int .i64 a0_0, .int .i64 a0_1, .int .i64 a0_2] 29 (0, 0))) ∧ Aside0 (Below w.heap.size w wc))
 case first =>
  have H := HC3.out
  clear HC3
  replace H := Option.bind_eq_some_iff.mp H
  obtain ⟨t191, A50, H⟩ := H
  try dsimp only at H
  have A5 := Aside0.mk A50
  clear A50
  by_cases c6 : t191 = true
  ·subst c6
   rw [if_pos rfl] at H
   replace H := Option.bind_eq_some_iff.mp H
   obtain ⟨t192, A70, H⟩ := H
   try dsimp only at H
   have A7 := Aside0.mk A70
   clear A70
   by_cases c8 : t192 = true
   ·subst c8
    rw [if_pos rfl] at H
    replace H := Option.bind_eq_some_iff.mp H
    obtain ⟨t193, A90, H⟩ := H
    try dsimp only at H
    have A9 := Aside0.mk A90
    clear A90
    by_cases c10 : t193 = true
    ·subst c10
     rw [if_pos rfl] at H
     replace H := Option.bind_eq_some_iff.mp H
     obtain ⟨t194, A110, H⟩ := H
     try dsimp only at H
     have A11 := Aside0.mk A110
     clear A110
     have H' := Aside0.mk H
     clear H
     have hcz12_0 : w4.cell? ⟨gb190, 0, none⟩ = some (.int .i64 a0_0) := (blk_cell BK190.out 0).trans rfl
     have hcz12_1 : w4.cell? ⟨gb190, 1, none⟩ = some (.int .i64 a0_1) := (blk_cell BK190.out 1).trans rfl
     have hcz12_2 : w4.cell? ⟨gb190, 2, none⟩ = some (.int .i64 a0_2) := (blk_cell BK190.out 2).trans rfl
     have hfz12_0 := blk_frozen BK190.out 0
     have hfz12_1 := blk_frozen BK190.out 1
     have hfz12_2 := blk_frozen BK190.out 2
     go_wp2_with (first | ((with_reducible refine gate_callee (f := 66) rfl ?_); refine gl_ (some 12) Try.func66 #[.agg #[.int .i64 a0_0, .int .i64 a0_1, .int .i64 a0_2]] rfl rfl rfl ?_; (with_reducible refine (spec_sbPiece.calls a0_0 a0_1 a0_2 true _ A5.out).mono ?_); rintro e w13 ⟨rfl, hb⟩; refine ⟨_, rfl, ?_⟩; replace BK190 := kb_ BK190 hb; replace HB := hbs_ HB hb; (try clear hb); (try clear hb2); (try clear hk); (try clear hi)) | (go_at_call 70; (with_reducible refine (spec_l1In.calls (l1.length : Int) 1 20 true _ A7.out).mono ?_); rintro e w' ⟨rfl, ⟨nd, rfl⟩⟩) | (go_at_call 71; (with_reducible refine (spec_l1All.calls k _ _ l1 0 100 true _ ?side1 ?side2 A9.out).mono ?_); (case side1 => exact Kd.C_below HR1.out (hb_ HB)); (case side2 => exact HC1.out); rintro e w' ⟨rfl, ⟨nd, rfl⟩⟩) | (go_at_call 72; (with_reducible refine (spec_sbSum.calls k _ _ l1 t194 _ ?side1 ?side2 A11.out).mono ?_); (case side1 => exact Kd.C_below HR1.out (hb_ HB)); (case side2 => exact HC1.out); rintro e w' ⟨rfl, ⟨nd, rfl⟩⟩))
     go_meet
     case rel => exact ⟨_, ((t194 == 0)), (by first | rfl | (simp; done) | (simp [*]; done)), H', ⟨by first | omega | exact Nat.le_refl _⟩, ⟨kp_ BK190⟩, ⟨hb_ HB⟩⟩
    ·replace c10 := Bool.eq_false_iff.mpr c10
     subst c10
     rw [if_neg (show ¬ (false = true) by decide)] at H
     have H' := Aside0.mk H
     clear H
     have hcz14_0 : w4.cell? ⟨gb190, 0, none⟩ = some (.int .i64 a0_0) := (blk_cell BK190.out 0).trans rfl
     have hcz14_1 : w4.cell? ⟨gb190, 1, none⟩ = some (.int .i64 a0_1) := (blk_cell BK190.out 1).trans rfl
     have hcz14_2 : w4.cell? ⟨gb190, 2, none⟩ = some (.int .i64 a0_2) := (blk_cell BK190.out 2).trans rfl
     have hfz14_0 := blk_frozen BK190.out 0
     have hfz14_1 := blk_frozen BK190.out 1
     have hfz14_2 := blk_frozen BK190.out 2
     go_wp2_with (first | ((with_reducible refine gate_callee (f := 66) rfl ?_); refine gl_ (some 12) Try.func66 #[.agg #[.int .i64 a0_0, .int .i64 a0_1, .int .i64 a0_2]] rfl rfl rfl ?_; (with_reducible refine (spec_sbPiece.calls a0_0 a0_1 a0_2 true _ A5.out).mono ?_); rintro e w15 ⟨rfl, hb⟩; refine ⟨_, rfl, ?_⟩; replace BK190 := kb_ BK190 hb; replace HB := hbs_ HB hb; (try clear hb); (try clear hb2); (try clear hk); (try clear hi)) | (go_at_call 70; (with_reducible refine (spec_l1In.calls (l1.length : Int) 1 20 true _ A7.out).mono ?_); rintro e w' ⟨rfl, ⟨nd, rfl⟩⟩) | (go_at_call 71; (with_reducible refine (spec_l1All.calls k _ _ l1 0 100 false _ ?side1 ?side2 A9.out).mono ?_); (case side1 => exact Kd.C_below HR1.out (hb_ HB)); (case side2 => exact HC1.out); rintro e w' ⟨rfl, ⟨nd, rfl⟩⟩))
     go_meet
     case rel => exact ⟨_, (true), (by first | rfl | (simp; done) | (simp [*]; done)), H', ⟨by first | omega | exact Nat.le_refl _⟩, ⟨kp_ BK190⟩, ⟨hb_ HB⟩⟩
   ·replace c8 := Bool.eq_false_iff.mpr c8
    subst c8
    rw [if_neg (show ¬ (false = true) by decide)] at H
    have H' := Aside0.mk H
    clear H
    have hcz16_0 : w4.cell? ⟨gb190, 0, none⟩ = some (.int .i64 a0_0) := (blk_cell BK190.out 0).trans rfl
    have hcz16_1 : w4.cell? ⟨gb190, 1, none⟩ = some (.int .i64 a0_1) := (blk_cell BK190.out 1).trans rfl
    have hcz16_2 : w4.cell? ⟨gb190, 2, none⟩ = some (.int .i64 a0_2) := (blk_cell BK190.out 2).trans rfl
    have hfz16_0 := blk_frozen BK190.out 0
    have hfz16_1 := blk_frozen BK190.out 1
    have hfz16_2 := blk_frozen BK190.out 2
    go_wp2_with (first | ((with_reducible refine gate_callee (f := 66) rfl ?_); refine gl_ (some 12) Try.func66 #[.agg #[.int .i64 a0_0, .int .i64 a0_1, .int .i64 a0_2]] rfl rfl rfl ?_; (with_reducible refine (spec_sbPiece.calls a0_0 a0_1 a0_2 true _ A5.out).mono ?_); rintro e w17 ⟨rfl, hb⟩; refine ⟨_, rfl, ?_⟩; replace BK190 := kb_ BK190 hb; replace HB := hbs_ HB hb; (try clear hb); (try clear hb2); (try clear hk); (try clear hi)) | (go_at_call 70; (with_reducible refine (spec_l1In.calls (l1.length : Int) 1 20 false _ A7.out).mono ?_); rintro e w' ⟨rfl, ⟨nd, rfl⟩⟩))
    go_meet
    case rel => exact ⟨_, (true), (by first | rfl | (simp; done) | (simp [*]; done)), H', ⟨by first | omega | exact Nat.le_refl _⟩, ⟨kp_ BK190⟩, ⟨hb_ HB⟩⟩
  ·replace c6 := Bool.eq_false_iff.mpr c6
   subst c6
   rw [if_neg (show ¬ (false = true) by decide)] at H
   have H' := Aside0.mk H
   clear H
   have hcz18_0 : w4.cell? ⟨gb190, 0, none⟩ = some (.int .i64 a0_0) := (blk_cell BK190.out 0).trans rfl
   have hcz18_1 : w4.cell? ⟨gb190, 1, none⟩ = some (.int .i64 a0_1) := (blk_cell BK190.out 1).trans rfl
   have hcz18_2 : w4.cell? ⟨gb190, 2, none⟩ = some (.int .i64 a0_2) := (blk_cell BK190.out 2).trans rfl
   have hfz18_0 := blk_frozen BK190.out 0
   have hfz18_1 := blk_frozen BK190.out 1
   have hfz18_2 := blk_frozen BK190.out 2
   go_wp2_with (first | ((with_reducible refine gate_callee (f := 66) rfl ?_); refine gl_ (some 12) Try.func66 #[.agg #[.int .i64 a0_0, .int .i64 a0_1, .int .i64 a0_2]] rfl rfl rfl ?_; (with_reducible refine (spec_sbPiece.calls a0_0 a0_1 a0_2 false _ A5.out).mono ?_); rintro e w19 ⟨rfl, hb⟩; refine ⟨_, rfl, ?_⟩; replace BK190 := kb_ BK190 hb; replace HB := hbs_ HB hb; (try clear hb); (try clear hb2); (try clear hk); (try clear hi)))
   go_meet
   case rel => exact ⟨_, (true), (by first | rfl | (simp; done) | (simp [*]; done)), H', ⟨by first | omega | exact Nat.le_refl _⟩, ⟨kp_ BK190⟩, ⟨hb_ HB⟩⟩
 case rest =>
  clear HC3
  (try clear c1); (try clear c2); (try clear p2); (try clear c6); (try clear c8); (try clear c10)
  obtain ⟨kq, x29_2, rfl, HA, HJ2, BK190, HB⟩ := hcut
  cases kq with
  | zero => exact absurd HA.out (by simp [spec_SplitPiece.j0])
  | succ kj2 =>
   have H := HA.out
   clear HA
   simp only [spec_SplitPiece.j0] at H
   by_cases c20 : x29_2 = true
   ·subst c20
    rw [if_pos rfl] at H
    simp only [Option.some.injEq, Prod.mk.injEq] at H
    obtain ⟨rfl, rfl⟩ := H
    go_wp2
    go_ret2
    exact ⟨_, by first | rfl | (simp [errW_none, errW_some] <;> rfl) | (simp [*, errW_none, errW_some] <;> rfl), by first | exact Kd.R_nil _ _ _ _ _ | exact Kd.N_nil _ _ _ _ _ | exact Kd.V_nil _ _ _ _ _ | exact Kd.Q_nil _ _ _ _ _ | exact Kd.S_nil _ _ _ _ _, hb_ HB⟩
   ·replace c20 := Bool.eq_false_iff.mpr c20
    subst c20
    rw [if_neg (show ¬ (false = true) by decide)] at H
    replace H := Option.bind_eq_some_iff.mp H
    obtain ⟨t195, A210, H⟩ := H
    try dsimp only at H
    have A21 := Aside0.mk A210
    clear A210
    by_cases c22 : 0 ≤ (l1.length : Int)
    ·rw [if_pos c22] at H
     have c22b0 := eq_true c22
     have c22b1 : decide (0 ≤ (l1.length : Int)) = true := decide_eq_true c22
     clear c22
     by_cases c23 : ((l1.length : Int) : Int).toNat ≤ 35184372088832
     ·rw [if_pos c23] at H
      have c23b0 := eq_true c23
      have c23b1 : decide (((l1.length : Int) : Int).toNat ≤ 35184372088832) = true := decide_eq_true c23
      clear c23
      obtain ⟨y198, hy198⟩ : ∃ y_ : List Int, y_ = (List.replicate ((l1.length : Int) : Int).toNat 0) := ⟨_, rfl⟩
      replace H : (if a0_0 > 0 then ((spec_sbShares.f kj2 a0_1 t195).bind fun t201 => (spec_SplitPiece.j1 kj2 t195 t201 a0_0 a0_1 a0_2)) else (spec_SplitPiece.j1 kj2 t195 y198 a0_0 a0_1 a0_2)) = some (r1, r2) := by first | (rw [hy198]; with_reducible exact H) | (have H2_ := (Option.bind_some _ _).symm.trans H; rw [hy198]; with_reducible exact H2_) | (have H2_ := (Option.bind_some _ _).symm.trans H; with_reducible exact H2_) | with_reducible exact H | (rw [hy198]; exact H) | exact H
      have Ny198 := Aside0.mk hy198
      clear hy198
      have HC24 := Aside0.mk H
      clear H
      have hcz25_0 : wc.cell? ⟨gb190, 0, none⟩ = some (.int .i64 a0_0) := (blk_cell BK190.out 0).trans rfl
      have hcz25_1 : wc.cell? ⟨gb190, 1, none⟩ = some (.int .i64 a0_1) := (blk_cell BK190.out 1).trans rfl
      have hcz25_2 : wc.cell? ⟨gb190, 2, none⟩ = some (.int .i64 a0_2) := (blk_cell BK190.out 2).trans rfl
      have hfz25_0 := blk_frozen BK190.out 0
      have hfz25_1 := blk_frozen BK190.out 1
      have hfz25_2 := blk_frozen BK190.out 2
      go_upto_if 39 with (first | ((with_reducible refine gate_callee (f := 73) rfl ?_); refine gl_ (some 33) Try.func73 #[.int .i64 a0_0, .slice A1 l1.length c1] rfl rfl rfl ?_; (with_reducible refine (spec_sbShares.calls kj2 a0_0 _ _ l1 t195 _ ?side1 ?side2 A21.out).mono ?_); (case side1 => exact Kd.C_w HR1 HB); (case side2 => exact HC1.out); rintro e w26 ⟨v196, rfl, ho0, hb⟩; refine ⟨_, rfl, ?_⟩; have HO197 := Kd.R_lo ho0 HB; replace BK190 := kb_ BK190 hb; replace HB := hbs_ HB hb; (try clear hb); (try clear hb2); (try clear hk); (try clear hi); (try clear ho0)) | ((with_reducible refine gate_dst (N := 36) rfl ?_); (try (refine gate_guard (by rfl) ?_; dsimp only)); refine Kd.R_make (Kd.int .i64) _ 3 rfl (N := 36) rfl 24 _ _ rfl (l1.length : Int) rfl rfl Try.underlying24 (.int .i64 0) 8 info3 rfl (by decide) (by omega) 0 (ok := fun _ => True) (okp := fun _ => True) rfl (fun _ hk => hk) trivial (of_decide_eq_true (by first | (with_reducible assumption) | assumption)) (Nat.le_trans (Nat.mul_le_mul_right _ (of_decide_eq_true (by first | (with_reducible assumption) | assumption) : (l1.length : Int).toNat ≤ 35184372088832)) (by omega)) (Below.refl _ _) (Nat.le_refl _) ?_; intro v199 w27 ho28 hb hg_ hnew_; clear hg_ hnew_; (first | rw [← Ny198.out] at ho28 | (simp only [Int.reduceToNat] at ho28; rw [← Ny198.out] at ho28)); have HO200 := Kd.R_lo (Kd.R_nw ho28 HO197) HB; replace HO197 := Kd.R_e HO197 ho28 hb; replace BK190 := kb_ BK190 hb; replace HB := hbs_ HB hb; clear hb ho28; obtain ⟨hcz29_0, hcz29_1, hcz29_2, hfz29_0, hfz29_1, hfz29_2⟩ := bx3 BK190))
      (try simp only [Act.put, List.setIfInBounds_toArray, List.set_cons_zero, List.set_cons_succ])
      go_cut [7] (fun v7 wc => ∃ (kq : Nat) (x7_23 : List Int), Aside0 (spec_SplitPiece.j1 kq t195 x7_23 a0_0 a0_1 a0_2 = some (r1, r2)) ∧ Aside0 (kq ≤ kj2) ∧ Aside0 (Kd.R (Kd.int .i64) 3 wc w.heap.size (fun k_ => some k_ ≠ (v7 : Value).ownBlock) v196 t195) ∧ Aside0 (Kd.R (Kd.int .i64) 3 wc w.heap.size (fun k_ => some k_ ≠ (v196 : Value).ownBlock) v7 x7_23) ∧ Aside0 (wc.heap[gb190]? = some (.cells #[.int .i64 a0_0, .int .i64 a0_1, .int .i64 a0_2] 29 (0, 0))) ∧ Aside0 (Below w.heap.size w wc))
      case first =>
       have H := HC24.out
       clear HC24
       by_cases c30 : a0_0 > 0
       ·rw [if_pos c30] at H
        have c30b0 : decide (0 < a0_0) = true := decide_eq_true c30
        clear c30
        (first | rw [c30b0] | (simp only [i64_w, i32_w]; rw [c30b0]) | skip)
        replace H := Option.bind_eq_some_iff.mp H
        obtain ⟨t201, A310, H⟩ := H
        try dsimp only at H
        have A31 := Aside0.mk A310
        clear A310
        have H' := Aside0.mk H
        clear H
        have hcz32_0 : w27.cell? ⟨gb190, 0, none⟩ = some (.int .i64 a0_0) := (blk_cell BK190.out 0).trans rfl
        have hcz32_1 : w27.cell? ⟨gb190, 1, none⟩ = some (.int .i64 a0_1) := (blk_cell BK190.out 1).trans rfl
        have hcz32_2 : w27.cell? ⟨gb190, 2, none⟩ = some (.int .i64 a0_2) := (blk_cell BK190.out 2).trans rfl
        have hfz32_0 := blk_frozen BK190.out 0
        have hfz32_1 := blk_frozen BK190.out 1
        have hfz32_2 := blk_frozen BK190.out 2
        (try clear HO200)
        obtain ⟨Ao33, co33, eo33⟩ := Kd.R_slice HO197.out
        subst eo33
        go_wp2_with (first | ((with_reducible refine gate_callee (f := 73) rfl ?_); refine gl_ (some 43) Try.func73 #[.int .i64 a0_1, .slice Ao33 t195.length co33] rfl rfl rfl ?_; (with_reducible refine (spec_sbShares.calls kj2 a0_1 _ _ t195 t201 _ ?side1 ?side2 A31.out).mono ?_); (case side1 => exact Kd.C_o HO197); (case side2 => exact (Kd.R_reads' HO197.out).2.1); rintro e w34 ⟨v202, rfl, ho0, hb⟩; refine ⟨_, rfl, ?_⟩; have HO203 := Kd.R_lo (Kd.R_nw ho0 HO197) HB; replace HO197 := Kd.R_e HO197 ho0 hb; replace BK190 := kb_ BK190 hb; replace HB := hbs_ HB hb; (try clear hb); (try clear hb2); (try clear hk); (try clear hi); (try clear ho0)))
        go_meet
        case rel => exact ⟨_, (t201), H', ⟨by have := HJ2.out; first | omega | exact Nat.le_refl _⟩, ⟨Kd.R_pp (Kd.R_mono HO197.out (fun _ hk => hk.2))⟩, ⟨Kd.R_pp (Kd.R_mono HO203.out (fun _ hk => hk.2))⟩, ⟨kp_ BK190⟩, ⟨hb_ HB⟩⟩
       ·rw [if_neg c30] at H
        have c30b0 : decide (0 < a0_0) = false := decide_eq_false c30
        clear c30
        (first | rw [c30b0] | (simp only [i64_w, i32_w]; rw [c30b0]) | skip)
        have H' := Aside0.mk H
        clear H
        go_wp2
        go_meet
        case rel => exact ⟨_, (y198), H', ⟨by have := HJ2.out; first | omega | exact Nat.le_refl _⟩, ⟨Kd.R_pp (Kd.R_mono HO197.out (fun _ hk => hk.2))⟩, ⟨Kd.R_pp (Kd.R_mono HO200.out (fun _ hk => hk.2))⟩, ⟨kp_ BK190⟩, ⟨hb_ HB⟩⟩
      case rest =>
       clear HC24
       (try clear c1); (try clear c2); (try clear p2); (try clear c3); (try clear c6); (try clear c7); (try clear c8); (try clear c10); (try clear c20); (try clear c22); (try clear c22b0); (try clear c22b1); (try clear c23); (try clear c23b0); (try clear c23b1); (try clear c30); (try clear c30b0); (try clear hcz25_0); (try clear hcz25_1); (try clear hcz25_2); (try clear hcz29_0); (try clear hcz29_1); (try clear hcz29_2); (try clear hfz25_0); (try clear hfz25_1); (try clear hfz25_2); (try clear hfz29_0); (try clear hfz29_1); (try clear hfz29_2)
       obtain ⟨kq, x7_23, HA, HJ23, HO_6, HO_7, BK190, HB⟩ := hcut
       cases kq with
       | zero => exact absurd HA.out (by simp [spec_SplitPiece.j1])
       | succ kj23 =>
        have H := HA.out
        clear HA
        simp only [spec_SplitPiece.j1] at H
        have H' := Aside0.mk H
        clear H
        obtain ⟨Ao35, co35, eo35⟩ := Kd.R_slice HO_6.out
        subst eo35
        go_wp2
        go_loopg [8, 46] kj23 (fun kq v8 v46 w' => ∃ (x8_3 : List (S29)) (x46_3 : Int), v46 = .int .i64 x46_3 ∧ Aside0 (spec_SplitPiece.l0 kq x7_23 x8_3 t195 (t195.length : Int) x46_3 a0_0 a0_1 a0_2 = some (r1, r2)) ∧ Aside0 (kq ≤ kj23) ∧ Aside0 (Kd.R (Kd.int .i64) 3 w' w.heap.size (fun k_ => some k_ ≠ ((.slice Ao35 t195.length co35) : Value).ownBlock) u7 x7_23) ∧ Aside0 (Kd.R k29 29 w' w.heap.size (fun k_ => k_ ≠ gb190) v8 x8_3) ∧ Aside0 (Kd.R (Kd.int .i64) 3 w' w.heap.size (fun k_ => some k_ ≠ (u7 : Value).ownBlock) (.slice Ao35 t195.length co35) t195) ∧ Aside0 (w'.heap[gb190]? = some (.cells #[.int .i64 a0_0, .int .i64 a0_1, .int .i64 a0_2] 29 (0, 0))) ∧ Aside0 (Below w.heap.size w w'))
        case atStart => exact ⟨(([] : List (S29))), (0), (by first | rfl | (simp; done) | (simp [*]; done)), H', ⟨Nat.le_refl _⟩, ⟨Kd.R_p HO_7⟩, ⟨by first | exact Kd.R_nil _ _ _ _ _ | exact Kd.N_nil _ _ _ _ _ | exact Kd.V_nil _ _ _ _ _ | exact Kd.Q_nil _ _ _ _ _ | exact Kd.S_nil _ _ _ _ _⟩, ⟨Kd.R_p HO_6⟩, ⟨kp_ BK190⟩, ⟨hb_ HB⟩⟩
        case round =>
         clear H'
         (try clear c1); (try clear c2); (try clear p2); (try clear c3); (try clear c6); (try clear c7); (try clear c8); (try clear c10); (try clear c20); (try clear c22); (try clear c22b0); (try clear c22b1); (try clear c23); (try clear c23b0); (try clear c23b1); (try clear c30); (try clear c30b0)
         obtain ⟨x8_3, x46_3, rfl, HA, HK3, HO_7, HO_8, HO_44, BK190, HB⟩ := hrel
         cases gk with
         | zero => exact absurd HA.out (by simp [spec_SplitPiece.l0])
         | succ k3 =>
          have H := HA.out
          clear HA
          simp only [spec_SplitPiece.l0] at H
          by_cases c36 : x46_3 < (t195.length : Int)
          ·rw [if_pos c36] at H
           have c36b0 : decide (x46_3 < (t195.length : Int)) = true := decide_eq_true c36
           clear c36
           by_cases c37 : 0 ≤ x46_3
           ·rw [if_pos c37] at H
            have c37b0 : decide (0 ≤ x46_3) = true := decide_eq_true c37
            clear c37
            by_cases c38 : x46_3 < (t195.length : Int)
            ·rw [if_pos c38] at H
             have c38b0 : decide (x46_3 < (t195.length : Int)) = true := decide_eq_true c38
             clear c38
             by_cases c39 : x46_3 < (x7_23.length : Int)
             ·rw [if_pos c39] at H
              have c39b0 : decide (x46_3 < (x7_23.length : Int)) = true := decide_eq_true c39
              clear c39
              by_cases c40 : x8_3.length < 5864062014805
              ·rw [if_pos c40] at H
               have LMc40 := Aside0.mk c40
               clear c40
               obtain ⟨y206, hy206⟩ : ∃ y_ : List (S29), y_ = (x8_3 ++ [(⟨rd t195 x46_3, rd x7_23 x46_3, a0_2⟩ : S29)]) := ⟨_, rfl⟩
               replace H : (spec_SplitPiece.l0 k3 x7_23 y206 t195 (t195.length : Int) (wrap64 (x46_3 + 1)) a0_0 a0_1 a0_2) = some (r1, r2) := by first | (rw [hy206]; with_reducible exact H) | (have H2_ := (Option.bind_some _ _).symm.trans H; rw [hy206]; with_reducible exact H2_) | (have H2_ := (Option.bind_some _ _).symm.trans H; with_reducible exact H2_) | with_reducible exact H | (rw [hy206]; exact H) | exact H
               have Ny206 := Aside0.mk hy206
               clear hy206
               have H' := Aside0.mk H
               clear H
               have p204 : 0 ≤ (x46_3 : Int) := of_decide_eq_true (by first | (with_reducible assumption) | assumption)
               have q204 : x46_3 < (t195.length : Int) := of_decide_eq_true (by first | (with_reducible assumption) | assumption)
               obtain ⟨ad204, e204, hx204_0⟩ := Kd.at_int (Kd.R_reads' HO_44.out).2.2 x46_3 p204 q204
               cases e204
               replace p204 := eq_true p204
               replace q204 := eq_true q204
               try go_wp2
               have n0_ := Aside0.mk (Kd.R_drew HO_7.out)
               have n1_ := Aside0.mk (Kd.R_drew HO_8.out)
               have n2_ := Aside0.mk (Kd.R_drew HO_44.out)
               have n3_ := Aside0.mk (blk_drew BK190.out)
               have n4_ := Aside0.mk (below_drew1 HB.out)
               clear HO_7
               clear HO_8
               clear HO_44
               clear BK190
               clear HB
               have HO_7 := n0_
               have HO_8 := n1_
               have HO_44 := n2_
               have BK190 := n3_
               have HB := n4_
               clear n0_ n1_ n2_ n3_ n4_
               obtain ⟨Ao42, co42, eo42⟩ := Kd.R_slice HO_7.out
               (first | subst eo42 | (injection eo42 with f1_ f2_ f3_; have f4_ := f1_.symm; have f5_ := f3_.symm; clear f1_ f2_ f3_; subst f4_; subst f5_))
               have p205 : 0 ≤ (x46_3 : Int) := of_decide_eq_true (by first | (with_reducible assumption) | assumption)
               have q205 : x46_3 < (x7_23.length : Int) := of_decide_eq_true (by first | (with_reducible assumption) | assumption)
               obtain ⟨ad205, e205, hx205_0⟩ := Kd.at_int (Kd.R_reads' HO_7.out).2.2 x46_3 p205 q205
               cases e205
               replace p205 := eq_true p205
               replace q205 := eq_true q205
               refine start_ (n := 12) (S := fun w' => w'.cell? ⟨gb190, 0, none⟩ = some (.int .i64 a0_0) ∧ w'.cell? ⟨gb190, 1, none⟩ = some (.int .i64 a0_1) ∧ w'.cell? ⟨gb190, 2, none⟩ = some (.int .i64 a0_2) ∧ w'.cell? (ad205.add (x46_3).toNat) = some (.int .i64 (rd x7_23 x46_3))) (ds := [9, 10]) (bb 12 0) (by kernel_rfl) rfl rfl ⟨(blk_cell BK190.out 0).trans rfl, (blk_cell BK190.out 1).trans rfl, (blk_cell BK190.out 2).trans rfl, hx205_0⟩ (fun hHeld => ?_); refine with_tabW spec_SplitPiece.tab11 spec_SplitPiece.bits11 (fun HT_ HW_ => ?_)
               generalize wr.drew = w41 at HO_7 HO_8 HO_44 BK190 HB hx205_0 hHeld ⊢
               refine pl_ HT_ 0 (some 51) (bb 12 1) (h := ?_)
               refine pl_ HT_ 1 (some 52) (bb 12 3) (h := ?_)
               refine pl_ HT_ 2 (some 53) (bb 12 7) (h := ?_)
               refine pl_ HT_ 3 (some 54) (bb 12 15) (h := ?_)
               refine pl_ HT_ 4 (some 55) (bb 12 31) (h := ?_)
               refine pl_ HT_ 6 (some 57) (bb 12 95) (h := ?_)
               refine take_ (i := 5) (N := some 56) (v := ?_) (a' := ?_) (bb 12 127) rfl rfl (take_ofW HT_.out HW_.out (by kernel_rfl)) (fun _ _ _ h => h) (Or.inl ⟨by rfl, ?_⟩) hHeld ?_ ?_
               rotate_left
               ·rintro w' ⟨s0, s1, s2, s3⟩
                go_simp
                with_reducible rfl
               rotate_left
               ·simp only [Act.put, List.setIfInBounds_toArray, List.set_cons_zero, List.set_cons_succ, i64_w, i32_w]
                rfl
               refine take_ (i := 7) (N := some 58) (v := ?_) (a' := ?_) (bb 12 255) rfl rfl (take_ofW HT_.out HW_.out (by kernel_rfl)) (fun _ _ _ h => h) (Or.inl ⟨by rfl, ?_⟩) hHeld ?_ ?_
               rotate_left
               ·rintro w' ⟨s0, s1, s2, s3⟩
                go_simp
                with_reducible rfl
               rotate_left
               ·simp only [Act.put, List.setIfInBounds_toArray, List.set_cons_zero, List.set_cons_succ, i64_w, i32_w]
                rfl
               refine pl_ HT_ 8 (some 59) (bb 12 511) (h := ?_)
               refine last_ (i := 9) (N := some 60) (bb 12 1023) rfl rfl (one_of HT_.out (by kernel_rfl)) (by decide) (fun K hK => ?_)
               refine value_ (w1 := ?_) (v := ?_) (by rfl) rfl ?_ ?_
               rotate_left 2
               ·go_simp
                constructor
                ·rfl
                ·rfl
               refine hK.out _ _ ?_
               clear hK K
               refine norm_ (a' := ?_) ?_ ?_
               rotate_left
               ·show Act.put _ (some 60) _ = _
                simp only [Act.put, List.setIfInBounds_toArray, List.set_cons_zero, List.set_cons_succ, i64_w, i32_w]
                rfl
               refine last_ (i := 10) (N := some 61) (bb 12 2047) rfl rfl (one_of HT_.out (by kernel_rfl)) (by decide) (fun K hK => ?_)
               refine Kd.R_append_step k29 (w0 := w) w.heap.size (by rfl) (.tmp 51) (.tmp 60) 42 29 (.agg #[(.int .i64 0), (.int .i64 0), (.int .i64 0)]) 24 rfl Try.underlying42 info29 rfl (by decide) (by omega) u8 x8_3 (⟨rd t195 x46_3, rd x7_23 x46_3, a0_2⟩ : S29) [.int .i64 (rd t195 x46_3), .int .i64 (rd x7_23 x46_3), .int .i64 a0_2] (fun k_ => k_ ≠ gb190) (fun _ => False) rfl rfl ?aP (fun _ hk => hk.elim) ?aF ?aO ?aB ?aS ?aL ?_
               (case aP => exact k29_mkM _ _ _ (⟨rd t195 x46_3, rd x7_23 x46_3, a0_2⟩ : S29))
               (case aB => exact (hb_ HB))
               (case aF => exact (fun k_ hk => Kd.freshB (g := gb190) (o := .cells #[.int .i64 a0_0, .int .i64 a0_1, .int .i64 a0_2] 29 (0, 0)) (kp_ BK190) k_ hk))
               (case aO => exact (Kd.R_p HO_8))
               (case aS => exact (below_size (hb_ HB)))
               (case aL => have := LMc40.out; omega)
               intro v207 w43 ho hb hg hat
               rw [← Ny206.out] at ho
               have n0_ := Aside0.mk (Kd.R_over' (Kd.R_p HO_7) (Kd.R_typed (Kd.R_p HO_8)) (by decide) hg)
               have n1_ := Aside0.mk (Kd.R_over' (Kd.R_p HO_44) (Kd.R_typed (Kd.R_p HO_8)) (by decide) hg)
               have n2_ := Aside0.mk (blk_grown (kp_ BK190) hg (Kd.R_away HO_8.out (fun _ hk => hk)))
               have n3_ := Aside0.mk (hb)
               have n4_ := Aside0.mk (ho)
               clear HO_7
               clear HO_44
               clear BK190
               clear HB
               clear HO_8
               have HO_7 := n0_
               have HO_44 := n1_
               have BK190 := n2_
               have HB := n3_
               have HO208 := n4_
               clear n0_ n1_ n2_ n3_ n4_
               clear ho hb hg hat
               refine hK.out _ _ ?_
               clear hK K
               refine norm_ (a' := ?_) ?_ ?_
               rotate_left
               ·show Act.put _ (some 61) _ = _
                simp only [Act.put, List.setIfInBounds_toArray, List.set_cons_zero, List.set_cons_succ, i64_w, i32_w]
                rfl
               refine pl_ HT_ 11 (some 8) (bb 12 4095) (h := ?_)
               refine done_ (done_of HT_.out (by kernel_rfl)) ?_
               try go_wp2
               go_roundg k3
               case measure => have := HJ2.out; have := HJ23.out; have := HK3.out; omega
               case rel => exact ⟨(y206), (wrap64 (x46_3 + 1)), (by first | rfl | (simp; done) | (simp [*]; done)), H', ⟨by have := HJ2.out; have := HJ23.out; have := HK3.out; omega⟩, ⟨Kd.R_p HO_7⟩, ⟨Kd.R_p HO208⟩, ⟨Kd.R_p HO_44⟩, ⟨kp_ BK190⟩, ⟨hb_ HB⟩⟩
              ·rw [if_neg c40] at H
               exact absurd H (by simp)
             ·rw [if_neg c39] at H
              exact absurd H (by simp)
            ·rw [if_neg c38] at H
             exact absurd H (by simp)
           ·rw [if_neg c37] at H
            exact absurd H (by simp)
          ·rw [if_neg c36] at H
           have c36b0 : decide (x46_3 < (t195.length : Int)) = false := decide_eq_false c36
           clear c36
           simp only [Option.some.injEq, Prod.mk.injEq] at H
           obtain ⟨rfl, rfl⟩ := H
           go_wp2
           go_ret2
           exact ⟨_, by first | rfl | (simp [errW_none, errW_some] <;> rfl) | (simp [*, errW_none, errW_some] <;> rfl), Kd.R_pp (Kd.R_mono HO_8.out (fun _ hk => trivial)), hb_ HB⟩
     ·rw [if_neg c23] at H
      exact absurd H (by simp)
    ·rw [if_neg c22] at H
     exact absurd H (by simp)

end Go.Proofs.Ytceajigggcihnaa.PFnPieces
