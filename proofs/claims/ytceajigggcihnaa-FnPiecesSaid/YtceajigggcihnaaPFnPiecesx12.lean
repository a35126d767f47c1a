-- Laid for this claim by wip/tools/print2.sh, a changed copy of the kit's print (wip/tools/patch_print.py): not by print.sh.
import Derived.Test.YtceajigggcihnaaPFnPiecesx0
import Derived.Test.YtceajigggcihnaaPFnPiecesx5
import Derived.Test.YtceajigggcihnaaPFnPiecesx10
import Derived.Test.YtceajigggcihnaaPFnPiecesx11
import Derived.Test.YtceajigggcihnaaVFnPieces
namespace Go.Proofs.Ytceajigggcihnaa.PFnPieces
open Go.RowKit Go.Proofs.YtceajigggcihnaaW.PrintWords Go.Proofs.YtceajigggcihnaaW.PrintLast Go.Proofs.YtceajigggcihnaaW.PrintMore
attribute [local go_sem] max2_int min2_int max_two min_two max_three min_three max_four min_four   -- for this text's walks alone
set_option linter.unusedVariables false
set_option linter.unusedSimpArgs false

/-! ### spec_PieceGrade: function 44 -/
def spec_PieceGrade.f (k : Nat) (a0_0 : Int) (a0_1 : Int) (a0_2 : Int) : Option (Int × Int × Bool) := (spec_sbPiece.f a0_0 a0_1 a0_2).bind fun t368 => (if t368 = true then (if a0_0 = 0 then (some (0, 0, false)) else ((spec_moPart.f k a0_1 a0_0).bind fun bt369 => (some (bt369.1, bt369.2, true)))) else (some (0, 0, false)))
set_option maxHeartbeats 8000000 in
set_option maxRecDepth 100000 in
theorem spec_PieceGrade.calls (k : Nat) (a0_0 : Int) (a0_1 : Int) (a0_2 : Int) (r1 : Int) (r2 : Int) (r3 : Bool) (w : World) (h : spec_PieceGrade.f k a0_0 a0_1 a0_2 = some (r1, r2, r3)) :
  Calls Try.prog 44 #[.agg #[.int .i64 a0_0, .int .i64 a0_1, .int .i64 a0_2]] w fun e w' => e = .returned (.tuple #[.int .i64 r1, .int .i64 r2, .bool r3]) ∧ Below w.heap.size w w' := by
 have hu29 := Try.underlying29
 have HB := Aside0.mk (Below.refl w.heap.size w)
 have H : ((spec_sbPiece.f a0_0 a0_1 a0_2).bind fun t368 => (if t368 = true then (if a0_0 = 0 then (some (0, 0, false)) else ((spec_moPart.f k a0_1 a0_0).bind fun bt369 => (some (bt369.1, bt369.2, true)))) else (some (0, 0, false)))) = some (r1, r2, r3) := h
 clear h
 replace H := Option.bind_eq_some_iff.mp H
 obtain ⟨t368, A20, H⟩ := H
 try dsimp only at H
 have A2 := Aside0.mk A20
 clear A20
 by_cases c3 : t368 = true
 ·subst c3
  rw [if_pos rfl] at H
  by_cases c4 : a0_0 = 0
  ·rw [if_pos c4] at H
   have c4b0 : (a0_0 == 0) = true := beq_iff_eq.mpr c4
   have c4b1 : (a0_0 != 0) = false := bne_eq_false_iff_eq.mpr c4
   clear c4
   simp only [Option.some.injEq, Prod.mk.injEq] at H
   obtain ⟨rfl, rfl, rfl⟩ := H
   go_enter Try.func44, Try.ntmps44
   go_wp2_with (first | ((with_reducible refine gate_dst (N := 1) rfl ?_); refine box_event ?hg (N := 1) ?hd (cs := #[.int .i64 a0_0, .int .i64 a0_1, .int .i64 a0_2]) (t := 29) ?hr ?_; (case hd => rfl); (case hg => rfl); (case hr => first | (go_simp; done) | (go_simp; rfl)); intro gb367 hg w5 hbox hb; have BK367 := Aside0.mk (hbox); have GW367 := gs_ hg HB; have GE367 := gs_ hg HB; replace HB := hbs_ HB hb; clear hb hbox hg; obtain ⟨hcz6_0, hcz6_1, hcz6_2, hfz6_0, hfz6_1, hfz6_2⟩ := bx3 BK367) | ((with_reducible refine gate_callee (f := 66) rfl ?_); refine gl_ (some 8) Try.func66 #[.agg #[.int .i64 a0_0, .int .i64 a0_1, .int .i64 a0_2]] rfl rfl rfl ?_; (with_reducible refine (spec_sbPiece.calls a0_0 a0_1 a0_2 true _ A2.out).mono ?_); rintro e w7 ⟨rfl, hb⟩; refine ⟨_, rfl, ?_⟩; replace BK367 := kb_ BK367 hb; replace HB := hbs_ HB hb; (try clear hb); (try clear hb2); (try clear hk); (try clear hi); obtain ⟨hcz8_0, hcz8_1, hcz8_2, hfz8_0, hfz8_1, hfz8_2⟩ := bx3 BK367))
   go_ret3
   exact ⟨by first | rfl | (simp [errW_none, errW_some] <;> rfl) | (simp [*, errW_none, errW_some] <;> rfl), hb_ HB⟩
  ·rw [if_neg c4] at H
   have c4b0 : (a0_0 == 0) = false := beq_eq_false_iff_ne.mpr c4
   have c4b1 : (a0_0 != 0) = true := bne_iff_ne.mpr c4
   replace H := Option.bind_eq_some_iff.mp H
   obtain ⟨⟨t369, t370⟩, A90, H⟩ := H
   try dsimp only at H
   have A9 := Aside0.mk A90
   clear A90
   simp only [Option.some.injEq, Prod.mk.injEq] at H
   obtain ⟨rfl, rfl, rfl⟩ := H
   go_enter Try.func44, Try.ntmps44
   go_wp2_with (first | ((with_reducible refine gate_dst (N := 1) rfl ?_); refine box_event ?hg (N := 1) ?hd (cs := #[.int .i64 a0_0, .int .i64 a0_1, .int .i64 a0_2]) (t := 29) ?hr ?_; (case hd => rfl); (case hg => rfl); (case hr => first | (go_simp; done) | (go_simp; rfl)); intro gb367 hg w10 hbox hb; have BK367 := Aside0.mk (hbox); have GW367 := gs_ hg HB; have GE367 := gs_ hg HB; replace HB := hbs_ HB hb; clear hb hbox hg; obtain ⟨hcz11_0, hcz11_1, hcz11_2, hfz11_0, hfz11_1, hfz11_2⟩ := bx3 BK367) | ((with_reducible refine gate_callee (f := 66) rfl ?_); refine gl_ (some 8) Try.func66 #[.agg #[.int .i64 a0_0, .int .i64 a0_1, .int .i64 a0_2]] rfl rfl rfl ?_; (with_reducible refine (spec_sbPiece.calls a0_0 a0_1 a0_2 true _ A2.out).mono ?_); rintro e w12 ⟨rfl, hb⟩; refine ⟨_, rfl, ?_⟩; replace BK367 := kb_ BK367 hb; replace HB := hbs_ HB hb; (try clear hb); (try clear hb2); (try clear hk); (try clear hi); obtain ⟨hcz13_0, hcz13_1, hcz13_2, hfz13_0, hfz13_1, hfz13_2⟩ := bx3 BK367) | ((with_reducible refine gate_callee (f := 93) rfl ?_); refine gl_ (some 20) Try.func93 #[.int .i64 a0_1, .int .i64 a0_0] rfl rfl rfl ?_; (with_reducible refine (spec_moPart.calls k a0_1 a0_0 t369 t370 _ A9.out).mono ?_); rintro e w' ⟨rfl, ⟨nd, rfl⟩⟩; refine ⟨_, rfl, ?_⟩))
   go_ret3
   exact ⟨by first | rfl | (simp [errW_none, errW_some] <;> rfl) | (simp [*, errW_none, errW_some] <;> rfl), hb_ HB⟩
 ·replace c3 := Bool.eq_false_iff.mpr c3
  subst c3
  rw [if_neg (show ¬ (false = true) by decide)] at H
  simp only [Option.some.injEq, Prod.mk.injEq] at H
  obtain ⟨rfl, rfl, rfl⟩ := H
  go_enter Try.func44, Try.ntmps44
  go_wp2_with (first | ((with_reducible refine gate_dst (N := 1) rfl ?_); refine box_event ?hg (N := 1) ?hd (cs := #[.int .i64 a0_0, .int .i64 a0_1, .int .i64 a0_2]) (t := 29) ?hr ?_; (case hd => rfl); (case hg => rfl); (case hr => first | (go_simp; done) | (go_simp; rfl)); intro gb367 hg w14 hbox hb; have BK367 := Aside0.mk (hbox); have GW367 := gs_ hg HB; have GE367 := gs_ hg HB; replace HB := hbs_ HB hb; clear hb hbox hg; obtain ⟨hcz15_0, hcz15_1, hcz15_2, hfz15_0, hfz15_1, hfz15_2⟩ := bx3 BK367) | ((with_reducible refine gate_callee (f := 66) rfl ?_); refine gl_ (some 8) Try.func66 #[.agg #[.int .i64 a0_0, .int .i64 a0_1, .int .i64 a0_2]] rfl rfl rfl ?_; (with_reducible refine (spec_sbPiece.calls a0_0 a0_1 a0_2 false _ A2.out).mono ?_); rintro e w16 ⟨rfl, hb⟩; refine ⟨_, rfl, ?_⟩; replace BK367 := kb_ BK367 hb; replace HB := hbs_ HB hb; (try clear hb); (try clear hb2); (try clear hk); (try clear hi)))
  go_ret3
  exact ⟨by first | rfl | (simp [errW_none, errW_some] <;> rfl) | (simp [*, errW_none, errW_some] <;> rfl), hb_ HB⟩

/-! ### spec_l1Cur_grid: function 121 -/
def spec_l1Cur_grid.f (s0_0 : List Int) (s0_1 : Int) (s0_2 : Int) : Option (Int × Int × Int × Int × Int) := (spec_l1Cur_one.f s0_0 s0_1 s0_2 24).bind fun bt372 => (if bt372.1 = true then ((some (([(⟨8, 5, 3⟩ : S32), (⟨8, 3, 5⟩ : S32), (⟨4, 6, 5⟩ : S32), (⟨1, 1, 1⟩ : S32)] : List (S32)) : List (S32))).bind fun y375 => ((spec_l1Cur_pick.f s0_0 bt372.2.1 bt372.2.2 4).bind fun bt378 => (if 0 ≤ bt378.1 then (if bt378.1 < (y375.length : Int) then (some ((rd_T32 y375 bt378.1).f0, (rd_T32 y375 bt378.1).f1, (rd_T32 y375 bt378.1).f2, bt378.2.1, bt378.2.2)) else (none)) else (none)))) else ((spec_l1Cur_pick.f s0_0 bt372.2.1 bt372.2.2 4).bind fun bt382 => ((spec_l1Cur_pick.f s0_0 bt382.2.1 bt382.2.2 3).bind fun bt385 => ((spec_l1Cur_pick.f s0_0 bt385.2.1 bt385.2.2 3).bind fun bt388 => (some (wrap64 (1 + bt382.1), wrap64 (1 + bt385.1), wrap64 (1 + bt388.1), bt388.2.1, bt388.2.2))))))
set_option maxHeartbeats 8000000 in
set_option maxRecDepth 100000 in
theorem spec_l1Cur_grid.calls (g : Nat) (s0_0 : List Int) (s0_1 : Int) (s0_2 : Int) (r1 : Int) (r2 : Int) (r3 : Int) (r4 : Int) (r5 : Int) (w0 w : World) (hI : IsS106 w0 w g s0_0 s0_1 s0_2) (hB : Below w0.heap.size w0 w) (h : spec_l1Cur_grid.f s0_0 s0_1 s0_2 = some (r1, r2, r3, r4, r5)) :
  Calls Try.prog 121 #[.pointer (some ⟨g, 0, none⟩)] w fun e w' => e = .returned (.agg #[.int .i64 r1, .int .i64 r2, .int .i64 r3]) ∧ IsS106 w0 w' g s0_0 r4 r5 ∧ Below w0.heap.size w0 w' ∧ KeepBut w w' g none := by
 have hu32 := Try.underlying32
 have HI0 := Aside0.mk hI
 have HK := Aside0.mk (KeepBut.refl w g none)
 have HL := Aside0.mk hB.size
 clear hI
 have HW0 := Aside0.mk hB.size
 have HB := Aside0.mk hB
 clear hB
 have H : ((spec_l1Cur_one.f s0_0 s0_1 s0_2 24).bind fun bt372 => (if bt372.1 = true then ((some (([(⟨8, 5, 3⟩ : S32), (⟨8, 3, 5⟩ : S32), (⟨4, 6, 5⟩ : S32), (⟨1, 1, 1⟩ : S32)] : List (S32)) : List (S32))).bind fun y375 => ((spec_l1Cur_pick.f s0_0 bt372.2.1 bt372.2.2 4).bind fun bt378 => (if 0 ≤ bt378.1 then (if bt378.1 < (y375.length : Int) then (some ((rd_T32 y375 bt378.1).f0, (rd_T32 y375 bt378.1).f1, (rd_T32 y375 bt378.1).f2, bt378.2.1, bt378.2.2)) else (none)) else (none)))) else ((spec_l1Cur_pick.f s0_0 bt372.2.1 bt372.2.2 4).bind fun bt382 => ((spec_l1Cur_pick.f s0_0 bt382.2.1 bt382.2.2 3).bind fun bt385 => ((spec_l1Cur_pick.f s0_0 bt385.2.1 bt385.2.2 3).bind fun bt388 => (some (wrap64 (1 + bt382.1), wrap64 (1 + bt385.1), wrap64 (1 + bt388.1), bt388.2.1, bt388.2.2))))))) = some (r1, r2, r3, r4, r5) := h
 clear h
 replace H := Option.bind_eq_some_iff.mp H
 obtain ⟨⟨t372, t373, t374⟩, A20, H⟩ := H
 try dsimp only at H
 have A2 := Aside0.mk A20
 clear A20
 by_cases c3 : t372 = true
 ·subst c3
  rw [if_pos rfl] at H
  obtain ⟨y375, hy375⟩ : ∃ y_ : List (S32), y_ = (([(⟨8, 5, 3⟩ : S32), (⟨8, 3, 5⟩ : S32), (⟨4, 6, 5⟩ : S32), (⟨1, 1, 1⟩ : S32)] : List (S32))) := ⟨_, rfl⟩
  replace H : ((spec_l1Cur_pick.f s0_0 t373 t374 4).bind fun bt378 => (if 0 ≤ bt378.1 then (if bt378.1 < (y375.length : Int) then (some ((rd_T32 y375 bt378.1).f0, (rd_T32 y375 bt378.1).f1, (rd_T32 y375 bt378.1).f2, bt378.2.1, bt378.2.2)) else (none)) else (none))) = some (r1, r2, r3, r4, r5) := by first | (rw [hy375]; with_reducible exact H) | (have H2_ := (Option.bind_some _ _).symm.trans H; rw [hy375]; with_reducible exact H2_) | (have H2_ := (Option.bind_some _ _).symm.trans H; with_reducible exact H2_) | with_reducible exact H | (rw [hy375]; exact H) | exact H
  have Ny375 := Aside0.mk hy375
  clear hy375
  replace H := Option.bind_eq_some_iff.mp H
  obtain ⟨⟨t378, t379, t380⟩, A40, H⟩ := H
  try dsimp only at H
  have A4 := Aside0.mk A40
  clear A40
  by_cases c5 : 0 ≤ t378
  ·rw [if_pos c5] at H
   have c5b0 : decide (0 ≤ t378) = true := decide_eq_true c5
   clear c5
   by_cases c6 : t378 < (y375.length : Int)
   ·rw [if_pos c6] at H
    have c6b0 : decide (t378 < (y375.length : Int)) = true := decide_eq_true c6
    clear c6
    simp only [Option.some.injEq, Prod.mk.injEq] at H
    obtain ⟨rfl, rfl, rfl, rfl, rfl⟩ := H
    go_enter Try.func121, Try.ntmps121
    go_wp2_with (first | ((with_reducible refine gate_dst (N := 2) rfl ?_); refine box_event ?hg (N := 2) ?hd (cs := #[.int .i64 0, .int .i64 0, .int .i64 0]) (t := 32) ?hr ?_; (case hd => rfl); (case hg => rfl); (case hr => first | (go_simp; done) | (go_simp; rfl)); intro gb371 hg w7 hbox hb; have BK371 := Aside0.mk (hbox); have GW371 := Aside0.mk ((by rw [hg]; exact (keep_size (hk_ HK)) : w.heap.size ≤ gb371)); have GE371 := Aside0.mk ((Nat.le_trans HW0.out (by rw [hg]; exact (keep_size (hk_ HK)) : w.heap.size ≤ gb371) : w0.heap.size ≤ gb371)); have NB0_371 := Aside0.mk ((by rw [hg]; exact Nat.ne_of_lt (IsS106.lt (show IsS106 w0 _ g s0_0 s0_1 s0_2 from IsS106.q HI0)) : g ≠ gb371)); have NB371_0 := Aside0.mk ((by rw [hg]; exact Nat.ne_of_gt (IsS106.lt (show IsS106 w0 _ g s0_0 s0_1 s0_2 from IsS106.q HI0)) : gb371 ≠ g)); replace HK := hkb_ HK hb; replace HB := Aside0.mk (below_step (hbI_ HB (IsS106.ge HI0.out)) hb); replace HI0 := IsS106.b HI0 hb; clear hb hbox hg) | ((with_reducible refine gate_callee (f := 88) rfl ?_); refine gl_ (some 4) Try.func88 #[.pointer (some ⟨g, 0, none⟩), .int .i64 24] rfl rfl rfl ?_; (with_reducible refine (spec_l1Cur_one.calls g s0_0 s0_1 s0_2 24 true t373 t374 w0 _ ?side1 ?side2 A2.out).mono ?_); (case side1 => exact IsS106.q HI0); (case side2 => exact hbI_ HB (IsS106.ge HI0.out)); rintro e w8 ⟨rfl, hi, hb, hk⟩; refine ⟨_, rfl, ?_⟩; replace BK371 := kk_ BK371 hk NB371_0; replace HK := Aside0.mk (KeepBut.trans (hk_ HK) hk (.inl rfl)); replace HB := Aside0.mk (hb); replace HI0 := Aside0.mk (hi); (try clear hb); (try clear hb2); (try clear hk); (try clear hi)) | ((with_reducible refine gate_dst (N := 9) rfl ?_); refine Kd.R_lit k32 _ 32 ?hg (N := 9) ?hd (xs := ([(⟨8, 5, 3⟩ : S32), (⟨8, 3, 5⟩ : S32), (⟨4, 6, 5⟩ : S32), (⟨1, 1, 1⟩ : S32)] : List (S32))) (inner := [.int .i64 8, .int .i64 5, .int .i64 3, .int .i64 8, .int .i64 3, .int .i64 5, .int .i64 4, .int .i64 6, .int .i64 5, .int .i64 1, .int .i64 1, .int .i64 1]) (ok := fun _ => True) (okp := fun _ => True) ?hr ?hp (fun _ hk => hk) trivial (Below.refl _ _) (Nat.le_refl _) (by simp) ?_; (case hd => rfl); (case hg => rfl); (case hr => first | (go_simp; done) | (go_simp; rfl)); (case hp => exact (Reps.c3 (show Kd.M k32 _ _ _ (⟨8, 5, 3⟩ : S32) [.int .i64 8, .int .i64 5, .int .i64 3] from (k32_mkM _ _ _ (⟨8, 5, 3⟩ : S32) )) (Reps.c3 (show Kd.M k32 _ _ _ (⟨8, 3, 5⟩ : S32) [.int .i64 8, .int .i64 3, .int .i64 5] from (k32_mkM _ _ _ (⟨8, 3, 5⟩ : S32) )) (Reps.c3 (show Kd.M k32 _ _ _ (⟨4, 6, 5⟩ : S32) [.int .i64 4, .int .i64 6, .int .i64 5] from (k32_mkM _ _ _ (⟨4, 6, 5⟩ : S32) )) (Reps.c3 (show Kd.M k32 _ _ _ (⟨1, 1, 1⟩ : S32) [.int .i64 1, .int .i64 1, .int .i64 1] from (k32_mkM _ _ _ (⟨1, 1, 1⟩ : S32) )) (Reps.none _ _)))))); intro v376 w9 ho10 hb hg_ hnew_; clear hg_ hnew_; (first | rw [← Ny375.out] at ho10 | (simp only [Int.reduceToNat] at ho10; rw [← Ny375.out] at ho10)); have HO377 := Aside0.mk (Kd.R_lower (Kd.R_newB ho10 (g := gb371) (o := .cells #[.int .i64 0, .int .i64 0, .int .i64 0] 32 (0, 0)) (kp_ BK371)) (keep_size (hk_ HK))); replace BK371 := kb_ BK371 hb; replace HK := hkb_ HK hb; replace HB := Aside0.mk (below_step (hbI_ HB (IsS106.ge HI0.out)) hb); replace HI0 := IsS106.b HI0 hb; clear hb ho10) | ((with_reducible refine gate_callee (f := 87) rfl ?_); refine gl_ (some 11) Try.func87 #[.pointer (some ⟨g, 0, none⟩), .int .i64 4] rfl rfl rfl ?_; (with_reducible refine (spec_l1Cur_pick.calls g s0_0 t373 t374 4 t378 t379 t380 w0 _ ?side1 ?side2 A4.out).mono ?_); (case side1 => exact IsS106.q HI0); (case side2 => exact hbI_ HB (IsS106.ge HI0.out)); rintro e w11 ⟨rfl, hi, hb, hk⟩; refine ⟨_, rfl, ?_⟩; have n0_ := Aside0.mk (KeepBut.blk hk (kp_ BK371) NB371_0.out (by simp)); have n1_ := IsS106.rk HI0 HO377 hk; have n2_ := Aside0.mk (KeepBut.trans (hk_ HK) hk (.inl rfl)); have n3_ := Aside0.mk (hb); have n4_ := Aside0.mk (hi); clear BK371 HO377 HK HB HI0; have BK371 := n0_; have HO377 := n1_; have HK := n2_; have HB := n3_; have HI0 := n4_; clear n0_ n1_ n2_ n3_ n4_; (try clear hb); (try clear hb2); (try clear hk); (try clear hi); obtain ⟨Ao12, co12, eo12⟩ := Kd.R_slice HO377.out; subst eo12; have p381 : 0 ≤ (t378 : Int) := of_decide_eq_true (by first | (with_reducible assumption) | assumption); have q381 : t378 < (y375.length : Int) := of_decide_eq_true (by first | (with_reducible assumption) | assumption); obtain ⟨ad381, e381, hx381_0, hx381_1, hx381_2⟩ := at_T32 (Kd.R_reads' HO377.out).2.2 t378 p381 q381; cases e381; replace p381 := eq_true p381; replace q381 := eq_true q381; have hnb13 := NB371_0.out; have hnc13 := NB0_371.out; obtain ⟨hcz14_0, hcz14_1, hcz14_2, hfz14_0, hfz14_1, hfz14_2⟩ := bx3 BK371))
    refine bodyPost_ret (results_cell_row rfl _ _ gb371 32 #[.int .i64 ((rd_T32 y375 t378).f0), .int .i64 ((rd_T32 y375 t378).f1), .int .i64 ((rd_T32 y375 t378).f2)] (0, 0) _ rfl (kpq_ (kputs BK371 [(0, _), (1, _), (2, _)])) Try.underlying32 rfl (by kernel_rfl)) rfl ?_
    exact ⟨by first | rfl | (simp [errW_none, errW_some] <;> rfl) | (simp [*, errW_none, errW_some] <;> rfl), IsS106.q HI0, hbI_ HB (IsS106.ge HI0.out), hk_ HK⟩
   ·rw [if_neg c6] at H
    exact absurd H (by simp)
  ·rw [if_neg c5] at H
   exact absurd H (by simp)
 ·replace c3 := Bool.eq_false_iff.mpr c3
  subst c3
  rw [if_neg (show ¬ (false = true) by decide)] at H
  replace H := Option.bind_eq_some_iff.mp H
  obtain ⟨⟨t382, t383, t384⟩, A150, H⟩ := H
  try dsimp only at H
  have A15 := Aside0.mk A150
  clear A150
  replace H := Option.bind_eq_some_iff.mp H
  obtain ⟨⟨t385, t386, t387⟩, A160, H⟩ := H
  try dsimp only at H
  have A16 := Aside0.mk A160
  clear A160
  replace H := Option.bind_eq_some_iff.mp H
  obtain ⟨⟨t388, t389, t390⟩, A170, H⟩ := H
  try dsimp only at H
  have A17 := Aside0.mk A170
  clear A170
  simp only [Option.some.injEq, Prod.mk.injEq] at H
  obtain ⟨rfl, rfl, rfl, rfl, rfl⟩ := H
  go_enter Try.func121, Try.ntmps121
  go_wp2_with (first | ((with_reducible refine gate_dst (N := 2) rfl ?_); refine box_event ?hg (N := 2) ?hd (cs := #[.int .i64 0, .int .i64 0, .int .i64 0]) (t := 32) ?hr ?_; (case hd => rfl); (case hg => rfl); (case hr => first | (go_simp; done) | (go_simp; rfl)); intro gb371 hg w18 hbox hb; have BK371 := Aside0.mk (hbox); have GW371 := Aside0.mk ((by rw [hg]; exact (keep_size (hk_ HK)) : w.heap.size ≤ gb371)); have GE371 := Aside0.mk ((Nat.le_trans HW0.out (by rw [hg]; exact (keep_size (hk_ HK)) : w.heap.size ≤ gb371) : w0.heap.size ≤ gb371)); have NB0_371 := Aside0.mk ((by rw [hg]; exact Nat.ne_of_lt (IsS106.lt (show IsS106 w0 _ g s0_0 s0_1 s0_2 from IsS106.q HI0)) : g ≠ gb371)); have NB371_0 := Aside0.mk ((by rw [hg]; exact Nat.ne_of_gt (IsS106.lt (show IsS106 w0 _ g s0_0 s0_1 s0_2 from IsS106.q HI0)) : gb371 ≠ g)); replace HK := hkb_ HK hb; replace HB := Aside0.mk (below_step (hbI_ HB (IsS106.ge HI0.out)) hb); replace HI0 := IsS106.b HI0 hb; clear hb hbox hg) | ((with_reducible refine gate_callee (f := 88) rfl ?_); refine gl_ (some 4) Try.func88 #[.pointer (some ⟨g, 0, none⟩), .int .i64 24] rfl rfl rfl ?_; (with_reducible refine (spec_l1Cur_one.calls g s0_0 s0_1 s0_2 24 false t373 t374 w0 _ ?side1 ?side2 A2.out).mono ?_); (case side1 => exact IsS106.q HI0); (case side2 => exact hbI_ HB (IsS106.ge HI0.out)); rintro e w19 ⟨rfl, hi, hb, hk⟩; refine ⟨_, rfl, ?_⟩; replace BK371 := kk_ BK371 hk NB371_0; replace HK := Aside0.mk (KeepBut.trans (hk_ HK) hk (.inl rfl)); replace HB := Aside0.mk (hb); replace HI0 := Aside0.mk (hi); (try clear hb); (try clear hb2); (try clear hk); (try clear hi)) | ((with_reducible refine gate_callee (f := 87) rfl ?_); refine gl_ (some 15) Try.func87 #[.pointer (some ⟨g, 0, none⟩), .int .i64 4] rfl rfl rfl ?_; (with_reducible refine (spec_l1Cur_pick.calls g s0_0 t373 t374 4 t382 t383 t384 w0 _ ?side1 ?side2 A15.out).mono ?_); (case side1 => exact IsS106.q HI0); (case side2 => exact hbI_ HB (IsS106.ge HI0.out)); rintro e w20 ⟨rfl, hi, hb, hk⟩; refine ⟨_, rfl, ?_⟩; replace BK371 := kk_ BK371 hk NB371_0; replace HK := Aside0.mk (KeepBut.trans (hk_ HK) hk (.inl rfl)); replace HB := Aside0.mk (hb); replace HI0 := Aside0.mk (hi); (try clear hb); (try clear hb2); (try clear hk); (try clear hi)) | ((with_reducible refine gate_callee (f := 87) rfl ?_); refine gl_ (some 18) Try.func87 #[.pointer (some ⟨g, 0, none⟩), .int .i64 3] rfl rfl rfl ?_; (with_reducible refine (spec_l1Cur_pick.calls g s0_0 t383 t384 3 t385 t386 t387 w0 _ ?side1 ?side2 A16.out).mono ?_); (case side1 => exact IsS106.q HI0); (case side2 => exact hbI_ HB (IsS106.ge HI0.out)); rintro e w21 ⟨rfl, hi, hb, hk⟩; refine ⟨_, rfl, ?_⟩; replace BK371 := kk_ BK371 hk NB371_0; replace HK := Aside0.mk (KeepBut.trans (hk_ HK) hk (.inl rfl)); replace HB := Aside0.mk (hb); replace HI0 := Aside0.mk (hi); (try clear hb); (try clear hb2); (try clear hk); (try clear hi)) | ((with_reducible refine gate_callee (f := 87) rfl ?_); refine gl_ (some 21) Try.func87 #[.pointer (some ⟨g, 0, none⟩), .int .i64 3] rfl rfl rfl ?_; (with_reducible refine (spec_l1Cur_pick.calls g s0_0 t386 t387 3 t388 t389 t390 w0 _ ?side1 ?side2 A17.out).mono ?_); (case side1 => exact IsS106.q HI0); (case side2 => exact hbI_ HB (IsS106.ge HI0.out)); rintro e w22 ⟨rfl, hi, hb, hk⟩; refine ⟨_, rfl, ?_⟩; replace BK371 := kk_ BK371 hk NB371_0; replace HK := Aside0.mk (KeepBut.trans (hk_ HK) hk (.inl rfl)); replace HB := Aside0.mk (hb); replace HI0 := Aside0.mk (hi); (try clear hb); (try clear hb2); (try clear hk); (try clear hi); have hnb23 := NB371_0.out; have hnc23 := NB0_371.out; obtain ⟨hcz24_0, hcz24_1, hcz24_2, hfz24_0, hfz24_1, hfz24_2⟩ := bx3 BK371))
  refine bodyPost_ret (results_cell_row rfl _ _ gb371 32 #[.int .i64 (wrap64 (1 + t382)), .int .i64 (wrap64 (1 + t385)), .int .i64 (wrap64 (1 + t388))] (0, 0) _ rfl (kpq_ (kputs BK371 [(0, _), (1, _), (2, _)])) Try.underlying32 rfl (by kernel_rfl)) rfl ?_
  exact ⟨by first | rfl | (simp [errW_none, errW_some] <;> rfl) | (simp [*, errW_none, errW_some] <;> rfl), IsS106.q HI0, hbI_ HB (IsS106.ge HI0.out), hk_ HK⟩

/-! ### spec_l1Cur_anyGrid: function 97 -/
def spec_l1Cur_anyGrid.j0 : Nat → List Int → Int → Int → Int → Int → Int → Option (Int × Int × Int × Int × Int)
 | 0, _, _, _, _, _, _ => none
 | k + 1, x1000, x1001, x1002, x398000, x398001, x398002 => some (x398000, x398001, x398002, x1001, x1002)
def spec_l1Cur_anyGrid.f (k : Nat) (s0_0 : List Int) (s0_1 : Int) (s0_2 : Int) : Option (Int × Int × Int × Int × Int) := (spec_l1Cur_grid.f s0_0 s0_1 s0_2).bind fun bt392 => ((spec_l1Cur_pick.f s0_0 bt392.2.2.2.1 bt392.2.2.2.2 30).bind fun bt398 => (if bt398.1 = 0 then ((spec_l1Cur_among.f s0_0 bt398.2.1 bt398.2.2 (([0, 8, 9, (-1)] : List Int))).bind fun bt404 => (spec_l1Cur_anyGrid.j0 k s0_0 bt404.2.1 bt404.2.2 bt404.1 bt392.2.1 bt392.2.2.1)) else (if bt398.1 = 1 then ((spec_l1Cur_among.f s0_0 bt398.2.1 bt398.2.2 (([0, 6, 7, (-1)] : List Int))).bind fun bt410 => (spec_l1Cur_anyGrid.j0 k s0_0 bt410.2.1 bt410.2.2 bt392.1 bt410.1 bt392.2.2.1)) else (if bt398.1 = 2 then ((spec_l1Cur_among.f s0_0 bt398.2.1 bt398.2.2 (([0, 5, 6, (-1)] : List Int))).bind fun bt416 => (spec_l1Cur_anyGrid.j0 k s0_0 bt416.2.1 bt416.2.2 bt392.1 bt392.2.1 bt416.1)) else (if bt398.1 = 3 then ((spec_l1Cur_among.f s0_0 bt398.2.1 bt398.2.2 (([2, 3] : List Int))).bind fun bt422 => (spec_l1Cur_anyGrid.j0 k s0_0 bt422.2.1 bt422.2.2 8 6 bt422.1)) else (if bt398.1 = 4 then (spec_l1Cur_anyGrid.j0 k s0_0 bt398.2.1 bt398.2.2 1 1 4611686018427387904) else (spec_l1Cur_anyGrid.j0 k s0_0 bt398.2.1 bt398.2.2 bt392.1 bt392.2.1 bt392.2.2.1)))))))
set_option maxHeartbeats 8000000 in
set_option maxRecDepth 100000 in
theorem spec_l1Cur_anyGrid.calls (k : Nat) (g : Nat) (s0_0 : List Int) (s0_1 : Int) (s0_2 : Int) (r1 : Int) (r2 : Int) (r3 : Int) (r4 : Int) (r5 : Int) (w0 w : World) (hI : IsS106 w0 w g s0_0 s0_1 s0_2) (hB : Below w0.heap.size w0 w) (h : spec_l1Cur_anyGrid.f k s0_0 s0_1 s0_2 = some (r1, r2, r3, r4, r5)) :
  Calls Try.prog 97 #[.pointer (some ⟨g, 0, none⟩)] w fun e w' => e = .returned (.agg #[.int .i64 r1, .int .i64 r2, .int .i64 r3]) ∧ IsS106 w0 w' g s0_0 r4 r5 ∧ Below w0.heap.size w0 w' ∧ KeepBut w w' g none := by
 have hu32 := Try.underlying32
 have HI0 := Aside0.mk hI
 have HK := Aside0.mk (KeepBut.refl w g none)
 have HL := Aside0.mk hB.size
 clear hI
 have HW0 := Aside0.mk hB.size
 have HB := Aside0.mk hB
 clear hB
 have H : ((spec_l1Cur_grid.f s0_0 s0_1 s0_2).bind fun bt392 => ((spec_l1Cur_pick.f s0_0 bt392.2.2.2.1 bt392.2.2.2.2 30).bind fun bt398 => (if bt398.1 = 0 then ((spec_l1Cur_among.f s0_0 bt398.2.1 bt398.2.2 (([0, 8, 9, (-1)] : List Int))).bind fun bt404 => (spec_l1Cur_anyGrid.j0 k s0_0 bt404.2.1 bt404.2.2 bt404.1 bt392.2.1 bt392.2.2.1)) else (if bt398.1 = 1 then ((spec_l1Cur_among.f s0_0 bt398.2.1 bt398.2.2 (([0, 6, 7, (-1)] : List Int))).bind fun bt410 => (spec_l1Cur_anyGrid.j0 k s0_0 bt410.2.1 bt410.2.2 bt392.1 bt410.1 bt392.2.2.1)) else (if bt398.1 = 2 then ((spec_l1Cur_among.f s0_0 bt398.2.1 bt398.2.2 (([0, 5, 6, (-1)] : List Int))).bind fun bt416 => (spec_l1Cur_anyGrid.j0 k s0_0 bt416.2.1 bt416.2.2 bt392.1 bt392.2.1 bt416.1)) else (if bt398.1 = 3 then ((spec_l1Cur_among.f s0_0 bt398.2.1 bt398.2.2 (([2, 3] : List Int))).bind fun bt422 => (spec_l1Cur_anyGrid.j0 k s0_0 bt422.2.1 bt422.2.2 8 6 bt422.1)) else (if bt398.1 = 4 then (spec_l1Cur_anyGrid.j0 k s0_0 bt398.2.1 bt398.2.2 1 1 4611686018427387904) else (spec_l1Cur_anyGrid.j0 k s0_0 bt398.2.1 bt398.2.2 bt392.1 bt392.2.1 bt392.2.2.1)))))))) = some (r1, r2, r3, r4, r5) := h
 clear h
 replace H := Option.bind_eq_some_iff.mp H
 obtain ⟨⟨t392, t393, t394, t395, t396⟩, A20, H⟩ := H
 try dsimp only at H
 have A2 := Aside0.mk A20
 clear A20
 replace H := Option.bind_eq_some_iff.mp H
 obtain ⟨⟨t398, t399, t400⟩, A30, H⟩ := H
 try dsimp only at H
 have A3 := Aside0.mk A30
 clear A30
 have HC4 := Aside0.mk H
 clear H
 go_enter Try.func97, Try.ntmps97
 go_upto_block 0 with (first | ((with_reducible refine gate_dst (N := 2) rfl ?_); refine box_event ?hg (N := 2) ?hd (cs := #[.int .i64 0, .int .i64 0, .int .i64 0]) (t := 32) ?hr ?_; (case hd => rfl); (case hg => rfl); (case hr => first | (go_simp; done) | (go_simp; rfl)); intro gb391 hg w5 hbox hb; have BK391 := Aside0.mk (hbox); have GW391 := Aside0.mk ((by rw [hg]; exact (keep_size (hk_ HK)) : w.heap.size ≤ gb391)); have GE391 := Aside0.mk ((Nat.le_trans HW0.out (by rw [hg]; exact (keep_size (hk_ HK)) : w.heap.size ≤ gb391) : w0.heap.size ≤ gb391)); have NB0_391 := Aside0.mk ((by rw [hg]; exact Nat.ne_of_lt (IsS106.lt (show IsS106 w0 _ g s0_0 s0_1 s0_2 from IsS106.q HI0)) : g ≠ gb391)); have NB391_0 := Aside0.mk ((by rw [hg]; exact Nat.ne_of_gt (IsS106.lt (show IsS106 w0 _ g s0_0 s0_1 s0_2 from IsS106.q HI0)) : gb391 ≠ g)); replace HK := hkb_ HK hb; replace HB := Aside0.mk (below_step (hbI_ HB (IsS106.ge HI0.out)) hb); replace HI0 := IsS106.b HI0 hb; clear hb hbox hg) | ((with_reducible refine gate_callee (f := 121) rfl ?_); refine gl_ (some 5) Try.func121 #[.pointer (some ⟨g, 0, none⟩)] rfl rfl rfl ?_; (with_reducible refine (spec_l1Cur_grid.calls g s0_0 s0_1 s0_2 t392 t393 t394 t395 t396 w0 _ ?side1 ?side2 A2.out).mono ?_); (case side1 => exact IsS106.q HI0); (case side2 => exact hbI_ HB (IsS106.ge HI0.out)); rintro e w6 ⟨rfl, hi, hb, hk⟩; refine ⟨_, rfl, ?_⟩; replace BK391 := kk_ BK391 hk NB391_0; replace HK := Aside0.mk (KeepBut.trans (hk_ HK) hk (.inl rfl)); replace HB := Aside0.mk (hb); replace HI0 := Aside0.mk (hi); (try clear hb); (try clear hb2); (try clear hk); (try clear hi)) | ((with_reducible refine gate_dst (N := 3) rfl ?_); refine box_event ?hg (N := 3) ?hd (cs := #[.int .i64 0, .int .i64 0, .int .i64 0]) (t := 32) ?hr ?_; (case hd => rfl); (case hg => rfl); (case hr => first | (go_simp; done) | (go_simp; rfl)); intro gb397 hg w7 hbox hb; have BK397 := Aside0.mk (hbox); have GW397 := Aside0.mk ((by rw [hg]; exact (keep_size (hk_ HK)) : w.heap.size ≤ gb397)); have GE397 := Aside0.mk ((Nat.le_trans HW0.out (by rw [hg]; exact (keep_size (hk_ HK)) : w.heap.size ≤ gb397) : w0.heap.size ≤ gb397)); have NB391_397 := nl_ hg BK391; have NB397_391 := ng_ hg BK391; have NB0_397 := Aside0.mk ((by rw [hg]; exact Nat.ne_of_lt (IsS106.lt (show IsS106 w0 _ g s0_0 t395 t396 from IsS106.q HI0)) : g ≠ gb397)); have NB397_0 := Aside0.mk ((by rw [hg]; exact Nat.ne_of_gt (IsS106.lt (show IsS106 w0 _ g s0_0 t395 t396 from IsS106.q HI0)) : gb397 ≠ g)); replace BK391 := kb_ BK391 hb; replace HK := hkb_ HK hb; replace HB := Aside0.mk (below_step (hbI_ HB (IsS106.ge HI0.out)) hb); replace HI0 := IsS106.b HI0 hb; clear hb hbox hg; have hnb8 := NB397_391.out; have hnc8 := NB391_397.out; have hnb9 := NB397_0.out; have hnc9 := NB0_397.out; obtain ⟨hcz10_0, hcz10_1, hcz10_2, hfz10_0, hfz10_1, hfz10_2⟩ := bx3 BK397) | ((with_reducible refine gate_callee (f := 87) rfl ?_); refine gl_ (some 7) Try.func87 #[.pointer (some ⟨g, 0, none⟩), .int .i64 30] rfl rfl rfl ?_; (with_reducible refine (spec_l1Cur_pick.calls g s0_0 t395 t396 30 t398 t399 t400 w0 _ ?side1 ?side2 A3.out).mono ?_); (case side1 => exact IsS106.q HI0); (case side2 => exact hbI_ HB (IsS106.ge HI0.out)); rintro e w11 ⟨rfl, hi, hb, hk⟩; refine ⟨_, rfl, ?_⟩; replace BK391 := Aside0.mk (KeepBut.blk hk (g' := gb391) (o := .cells #[.int .i64 0, .int .i64 0, .int .i64 0] 32 (0, 0)) (kf_ BK391 NB391_397) NB391_0.out (by simp)); replace BK397 := Aside0.mk (KeepBut.blk hk (g' := gb397) (o := .cells #[.int .i64 t392, .int .i64 t393, .int .i64 t394] 32 (0, 0)) (kpq_ (kputs BK397 [(0, _), (1, _), (2, _)])) NB397_0.out (by simp)); replace HK := Aside0.mk (KeepBut.trans (hk_ HK) hk (.inl rfl)); replace HB := Aside0.mk (hb); replace HI0 := Aside0.mk (hi); (try clear hb); (try clear hb2); (try clear hk); (try clear hi)))
 (try simp only [Act.put, List.setIfInBounds_toArray, List.set_cons_zero, List.set_cons_succ])
 go_cut [] (fun wc => ∃ (kq : Nat) (x1001_3 : Int) (x1002_3 : Int) (x398000_3 : Int) (x398001_3 : Int) (x398002_3 : Int), Aside0 (spec_l1Cur_anyGrid.j0 kq s0_0 x1001_3 x1002_3 x398000_3 x398001_3 x398002_3 = some (r1, r2, r3, r4, r5)) ∧ Aside0 (kq ≤ k) ∧ Aside0 (wc.heap[gb391]? = some (.cells #[.int .i64 0, .int .i64 0, .int .i64 0] 32 (0, 0))) ∧ Aside0 (wc.heap[gb397]? = some (.cells #[.int .i64 x398000_3, .int .i64 x398001_3, .int .i64 x398002_3] 32 (0, 0))) ∧ Aside0 (IsS106 w0 wc g s0_0 x1001_3 x1002_3) ∧ Aside0 (KeepBut w wc g none) ∧ Aside0 (Below w0.heap.size w0 wc))
 case first =>
  have H := HC4.out
  clear HC4
  by_cases c12 : t398 = 0
  ·rw [if_pos c12] at H
   have c12b0 : (t398 == 0) = true := beq_iff_eq.mpr c12
   have c12b1 : (t398 != 0) = false := bne_eq_false_iff_eq.mpr c12
   clear c12
   (first | rw [c12b0] | (simp only [i64_w, i32_w]; rw [c12b0]) | skip)
   obtain ⟨y401, hy401⟩ : ∃ y_ : List Int, y_ = (([0, 8, 9, (-1)] : List Int)) := ⟨_, rfl⟩
   replace H : ((spec_l1Cur_among.f s0_0 t399 t400 y401).bind fun bt404 => (spec_l1Cur_anyGrid.j0 k s0_0 bt404.2.1 bt404.2.2 bt404.1 t393 t394)) = some (r1, r2, r3, r4, r5) := by first | (rw [hy401]; with_reducible exact H) | (have H2_ := (Option.bind_some _ _).symm.trans H; rw [hy401]; with_reducible exact H2_) | (have H2_ := (Option.bind_some _ _).symm.trans H; with_reducible exact H2_) | with_reducible exact H | (rw [hy401]; exact H) | exact H
   have Ny401 := Aside0.mk hy401
   clear hy401
   replace H := Option.bind_eq_some_iff.mp H
   obtain ⟨⟨t404, t405, t406⟩, A130, H⟩ := H
   try dsimp only at H
   have A13 := Aside0.mk A130
   clear A130
   have H' := Aside0.mk H
   clear H
   go_wp2_with (first | ((with_reducible refine gate_dst (N := 11) rfl ?_); refine Kd.R_lit (Kd.int .i64) _ 3 ?hg (N := 11) ?hd (xs := ([0, 8, 9, (-1)] : List Int)) (inner := [.int .i64 0, .int .i64 8, .int .i64 9, .int .i64 (-1)]) (ok := fun _ => True) (okp := fun _ => True) ?hr ?hp (fun _ hk => hk) trivial (Below.refl _ _) (Nat.le_refl _) (by simp) ?_; (case hd => rfl); (case hg => rfl); (case hr => first | (go_simp; done) | (go_simp; rfl)); (case hp => exact (Reps.one (show Kd.M (Kd.int .i64) _ _ _ 0 [.int .i64 0] from rfl) (Reps.one (show Kd.M (Kd.int .i64) _ _ _ 8 [.int .i64 8] from rfl) (Reps.one (show Kd.M (Kd.int .i64) _ _ _ 9 [.int .i64 9] from rfl) (Reps.one (show Kd.M (Kd.int .i64) _ _ _ (-1) [.int .i64 (-1)] from rfl) (Reps.none _ _)))))); intro v402 w14 ho15 hb hg_ hnew_; clear hg_ hnew_; (first | rw [← Ny401.out] at ho15 | (simp only [Int.reduceToNat] at ho15; rw [← Ny401.out] at ho15)); have HO403 := Aside0.mk (Kd.R_lower ho15 (keep_size (hk_ HK))); replace BK391 := kb_ BK391 hb; replace BK397 := kb_ BK397 hb; replace HK := hkb_ HK hb; replace HB := Aside0.mk (below_step (hbI_ HB (IsS106.ge HI0.out)) hb); replace HI0 := IsS106.b HI0 hb; clear hb ho15; obtain ⟨Ao16, co16, eo16⟩ := Kd.R_slice HO403.out; subst eo16) | ((with_reducible refine gate_callee (f := 89) rfl ?_); refine gl_ (some 12) Try.func89 #[.pointer (some ⟨g, 0, none⟩), .slice Ao16 y401.length co16] rfl rfl rfl ?_; (with_reducible refine (spec_l1Cur_among.calls g s0_0 t399 t400 _ _ y401 t404 t405 t406 w0 _ ?side1 ?side2 ?side3 ?side4 ?side5 A13.out).mono ?_); (case side1 => exact IsS106.q HI0); (case side2 => exact hbI_ HB (IsS106.ge HI0.out)); (case side3 => exact Kd.C_o HO403); (case side4 => exact (Kd.R_reads' HO403.out).2.1); (case side5 => exact far_slice (IsS106.own_ne HI0.out HO403.out (by decide))); rintro e w17 ⟨rfl, hi, hb, hk⟩; refine ⟨_, rfl, ?_⟩; have n0_ := Aside0.mk (KeepBut.blk hk (kp_ BK391) NB391_0.out (by simp)); have n1_ := Aside0.mk (KeepBut.blk hk (kp_ BK397) NB397_0.out (by simp)); have n2_ := IsS106.rk HI0 HO403 hk; have n3_ := Aside0.mk (KeepBut.trans (hk_ HK) hk (.inl rfl)); have n4_ := Aside0.mk (hb); have n5_ := Aside0.mk (hi); clear BK391 BK397 HO403 HK HB HI0; have BK391 := n0_; have BK397 := n1_; have HO403 := n2_; have HK := n3_; have HB := n4_; have HI0 := n5_; clear n0_ n1_ n2_ n3_ n4_ n5_; (try clear hb); (try clear hb2); (try clear hk); (try clear hi); have hnb18 := NB397_391.out; have hnc18 := NB391_397.out; have hnb19 := NB397_0.out; have hnc19 := NB0_397.out; obtain ⟨hcz20_0, hcz20_1, hcz20_2, hfz20_0, hfz20_1, hfz20_2⟩ := bx3 BK397))
   go_meet
   case rel => exact ⟨_, (t405), (t406), (t404), (t393), (t394), H', ⟨by first | omega | exact Nat.le_refl _⟩, ⟨kf_ BK391 NB391_397⟩, ⟨kpq_ (kputs BK397 [(0, _)])⟩, ⟨IsS106.q HI0⟩, ⟨hk_ HK⟩, ⟨hbI_ HB (IsS106.ge HI0.out)⟩⟩
  ·rw [if_neg c12] at H
   have c12b0 : (t398 == 0) = false := beq_eq_false_iff_ne.mpr c12
   have c12b1 : (t398 != 0) = true := bne_iff_ne.mpr c12
   (first | rw [c12b0] | (simp only [i64_w, i32_w]; rw [c12b0]) | skip)
   by_cases c21 : t398 = 1
   ·rw [if_pos c21] at H
    have c21b0 : (t398 == 1) = true := beq_iff_eq.mpr c21
    have c21b1 : (t398 != 1) = false := bne_eq_false_iff_eq.mpr c21
    clear c21
    obtain ⟨y407, hy407⟩ : ∃ y_ : List Int, y_ = (([0, 6, 7, (-1)] : List Int)) := ⟨_, rfl⟩
    replace H : ((spec_l1Cur_among.f s0_0 t399 t400 y407).bind fun bt410 => (spec_l1Cur_anyGrid.j0 k s0_0 bt410.2.1 bt410.2.2 t392 bt410.1 t394)) = some (r1, r2, r3, r4, r5) := by first | (rw [hy407]; with_reducible exact H) | (have H2_ := (Option.bind_some _ _).symm.trans H; rw [hy407]; with_reducible exact H2_) | (have H2_ := (Option.bind_some _ _).symm.trans H; with_reducible exact H2_) | with_reducible exact H | (rw [hy407]; exact H) | exact H
    have Ny407 := Aside0.mk hy407
    clear hy407
    replace H := Option.bind_eq_some_iff.mp H
    obtain ⟨⟨t410, t411, t412⟩, A220, H⟩ := H
    try dsimp only at H
    have A22 := Aside0.mk A220
    clear A220
    have H' := Aside0.mk H
    clear H
    go_wp2_with (first | ((with_reducible refine gate_dst (N := 17) rfl ?_); refine Kd.R_lit (Kd.int .i64) _ 3 ?hg (N := 17) ?hd (xs := ([0, 6, 7, (-1)] : List Int)) (inner := [.int .i64 0, .int .i64 6, .int .i64 7, .int .i64 (-1)]) (ok := fun _ => True) (okp := fun _ => True) ?hr ?hp (fun _ hk => hk) trivial (Below.refl _ _) (Nat.le_refl _) (by simp) ?_; (case hd => rfl); (case hg => rfl); (case hr => first | (go_simp; done) | (go_simp; rfl)); (case hp => exact (Reps.one (show Kd.M (Kd.int .i64) _ _ _ 0 [.int .i64 0] from rfl) (Reps.one (show Kd.M (Kd.int .i64) _ _ _ 6 [.int .i64 6] from rfl) (Reps.one (show Kd.M (Kd.int .i64) _ _ _ 7 [.int .i64 7] from rfl) (Reps.one (show Kd.M (Kd.int .i64) _ _ _ (-1) [.int .i64 (-1)] from rfl) (Reps.none _ _)))))); intro v408 w23 ho24 hb hg_ hnew_; clear hg_ hnew_; (first | rw [← Ny407.out] at ho24 | (simp only [Int.reduceToNat] at ho24; rw [← Ny407.out] at ho24)); have HO409 := Aside0.mk (Kd.R_lower ho24 (keep_size (hk_ HK))); replace BK391 := kb_ BK391 hb; replace BK397 := kb_ BK397 hb; replace HK := hkb_ HK hb; replace HB := Aside0.mk (below_step (hbI_ HB (IsS106.ge HI0.out)) hb); replace HI0 := IsS106.b HI0 hb; clear hb ho24; obtain ⟨Ao25, co25, eo25⟩ := Kd.R_slice HO409.out; subst eo25) | ((with_reducible refine gate_callee (f := 89) rfl ?_); refine gl_ (some 18) Try.func89 #[.pointer (some ⟨g, 0, none⟩), .slice Ao25 y407.length co25] rfl rfl rfl ?_; (with_reducible refine (spec_l1Cur_among.calls g s0_0 t399 t400 _ _ y407 t410 t411 t412 w0 _ ?side1 ?side2 ?side3 ?side4 ?side5 A22.out).mono ?_); (case side1 => exact IsS106.q HI0); (case side2 => exact hbI_ HB (IsS106.ge HI0.out)); (case side3 => exact Kd.C_o HO409); (case side4 => exact (Kd.R_reads' HO409.out).2.1); (case side5 => exact far_slice (IsS106.own_ne HI0.out HO409.out (by decide))); rintro e w26 ⟨rfl, hi, hb, hk⟩; refine ⟨_, rfl, ?_⟩; have n0_ := Aside0.mk (KeepBut.blk hk (kp_ BK391) NB391_0.out (by simp)); have n1_ := Aside0.mk (KeepBut.blk hk (kp_ BK397) NB397_0.out (by simp)); have n2_ := IsS106.rk HI0 HO409 hk; have n3_ := Aside0.mk (KeepBut.trans (hk_ HK) hk (.inl rfl)); have n4_ := Aside0.mk (hb); have n5_ := Aside0.mk (hi); clear BK391 BK397 HO409 HK HB HI0; have BK391 := n0_; have BK397 := n1_; have HO409 := n2_; have HK := n3_; have HB := n4_; have HI0 := n5_; clear n0_ n1_ n2_ n3_ n4_ n5_; (try clear hb); (try clear hb2); (try clear hk); (try clear hi); have hnb27 := NB397_391.out; have hnc27 := NB391_397.out; have hnb28 := NB397_0.out; have hnc28 := NB0_397.out; obtain ⟨hcz29_0, hcz29_1, hcz29_2, hfz29_0, hfz29_1, hfz29_2⟩ := bx3 BK397))
    go_meet
    case rel => exact ⟨_, (t411), (t412), (t392), (t410), (t394), H', ⟨by first | omega | exact Nat.le_refl _⟩, ⟨kf_ BK391 NB391_397⟩, ⟨kpq_ (kputs BK397 [(1, _)])⟩, ⟨IsS106.q HI0⟩, ⟨hk_ HK⟩, ⟨hbI_ HB (IsS106.ge HI0.out)⟩⟩
   ·rw [if_neg c21] at H
    have c21b0 : (t398 == 1) = false := beq_eq_false_iff_ne.mpr c21
    have c21b1 : (t398 != 1) = true := bne_iff_ne.mpr c21
    by_cases c30 : t398 = 2
    ·rw [if_pos c30] at H
     have c30b0 : (t398 == 2) = true := beq_iff_eq.mpr c30
     have c30b1 : (t398 != 2) = false := bne_eq_false_iff_eq.mpr c30
     clear c30
     obtain ⟨y413, hy413⟩ : ∃ y_ : List Int, y_ = (([0, 5, 6, (-1)] : List Int)) := ⟨_, rfl⟩
     replace H : ((spec_l1Cur_among.f s0_0 t399 t400 y413).bind fun bt416 => (spec_l1Cur_anyGrid.j0 k s0_0 bt416.2.1 bt416.2.2 t392 t393 bt416.1)) = some (r1, r2, r3, r4, r5) := by first | (rw [hy413]; with_reducible exact H) | (have H2_ := (Option.bind_some _ _).symm.trans H; rw [hy413]; with_reducible exact H2_) | (have H2_ := (Option.bind_some _ _).symm.trans H; with_reducible exact H2_) | with_reducible exact H | (rw [hy413]; exact H) | exact H
     have Ny413 := Aside0.mk hy413
     clear hy413
     replace H := Option.bind_eq_some_iff.mp H
     obtain ⟨⟨t416, t417, t418⟩, A310, H⟩ := H
     try dsimp only at H
     have A31 := Aside0.mk A310
     clear A310
     have H' := Aside0.mk H
     clear H
     go_wp2_with (first | ((with_reducible refine gate_dst (N := 23) rfl ?_); refine Kd.R_lit (Kd.int .i64) _ 3 ?hg (N := 23) ?hd (xs := ([0, 5, 6, (-1)] : List Int)) (inner := [.int .i64 0, .int .i64 5, .int .i64 6, .int .i64 (-1)]) (ok := fun _ => True) (okp := fun _ => True) ?hr ?hp (fun _ hk => hk) trivial (Below.refl _ _) (Nat.le_refl _) (by simp) ?_; (case hd => rfl); (case hg => rfl); (case hr => first | (go_simp; done) | (go_simp; rfl)); (case hp => exact (Reps.one (show Kd.M (Kd.int .i64) _ _ _ 0 [.int .i64 0] from rfl) (Reps.one (show Kd.M (Kd.int .i64) _ _ _ 5 [.int .i64 5] from rfl) (Reps.one (show Kd.M (Kd.int .i64) _ _ _ 6 [.int .i64 6] from rfl) (Reps.one (show Kd.M (Kd.int .i64) _ _ _ (-1) [.int .i64 (-1)] from rfl) (Reps.none _ _)))))); intro v414 w32 ho33 hb hg_ hnew_; clear hg_ hnew_; (first | rw [← Ny413.out] at ho33 | (simp only [Int.reduceToNat] at ho33; rw [← Ny413.out] at ho33)); have HO415 := Aside0.mk (Kd.R_lower ho33 (keep_size (hk_ HK))); replace BK391 := kb_ BK391 hb; replace BK397 := kb_ BK397 hb; replace HK := hkb_ HK hb; replace HB := Aside0.mk (below_step (hbI_ HB (IsS106.ge HI0.out)) hb); replace HI0 := IsS106.b HI0 hb; clear hb ho33; obtain ⟨Ao34, co34, eo34⟩ := Kd.R_slice HO415.out; subst eo34) | ((with_reducible refine gate_callee (f := 89) rfl ?_); refine gl_ (some 24) Try.func89 #[.pointer (some ⟨g, 0, none⟩), .slice Ao34 y413.length co34] rfl rfl rfl ?_; (with_reducible refine (spec_l1Cur_among.calls g s0_0 t399 t400 _ _ y413 t416 t417 t418 w0 _ ?side1 ?side2 ?side3 ?side4 ?side5 A31.out).mono ?_); (case side1 => exact IsS106.q HI0); (case side2 => exact hbI_ HB (IsS106.ge HI0.out)); (case side3 => exact Kd.C_o HO415); (case side4 => exact (Kd.R_reads' HO415.out).2.1); (case side5 => exact far_slice (IsS106.own_ne HI0.out HO415.out (by decide))); rintro e w35 ⟨rfl, hi, hb, hk⟩; refine ⟨_, rfl, ?_⟩; have n0_ := Aside0.mk (KeepBut.blk hk (kp_ BK391) NB391_0.out (by simp)); have n1_ := Aside0.mk (KeepBut.blk hk (kp_ BK397) NB397_0.out (by simp)); have n2_ := IsS106.rk HI0 HO415 hk; have n3_ := Aside0.mk (KeepBut.trans (hk_ HK) hk (.inl rfl)); have n4_ := Aside0.mk (hb); have n5_ := Aside0.mk (hi); clear BK391 BK397 HO415 HK HB HI0; have BK391 := n0_; have BK397 := n1_; have HO415 := n2_; have HK := n3_; have HB := n4_; have HI0 := n5_; clear n0_ n1_ n2_ n3_ n4_ n5_; (try clear hb); (try clear hb2); (try clear hk); (try clear hi); have hnb36 := NB397_391.out; have hnc36 := NB391_397.out; have hnb37 := NB397_0.out; have hnc37 := NB0_397.out; obtain ⟨hcz38_0, hcz38_1, hcz38_2, hfz38_0, hfz38_1, hfz38_2⟩ := bx3 BK397))
     go_meet
     case rel => exact ⟨_, (t417), (t418), (t392), (t393), (t416), H', ⟨by first | omega | exact Nat.le_refl _⟩, ⟨kf_ BK391 NB391_397⟩, ⟨kpq_ (kputs BK397 [(2, _)])⟩, ⟨IsS106.q HI0⟩, ⟨hk_ HK⟩, ⟨hbI_ HB (IsS106.ge HI0.out)⟩⟩
    ·rw [if_neg c30] at H
     have c30b0 : (t398 == 2) = false := beq_eq_false_iff_ne.mpr c30
     have c30b1 : (t398 != 2) = true := bne_iff_ne.mpr c30
     by_cases c39 : t398 = 3
     ·rw [if_pos c39] at H
      have c39b0 : (t398 == 3) = true := beq_iff_eq.mpr c39
      have c39b1 : (t398 != 3) = false := bne_eq_false_iff_eq.mpr c39
      clear c39
      obtain ⟨y419, hy419⟩ : ∃ y_ : List Int, y_ = (([2, 3] : List Int)) := ⟨_, rfl⟩
      replace H : ((spec_l1Cur_among.f s0_0 t399 t400 y419).bind fun bt422 => (spec_l1Cur_anyGrid.j0 k s0_0 bt422.2.1 bt422.2.2 8 6 bt422.1)) = some (r1, r2, r3, r4, r5) := by first | (rw [hy419]; with_reducible exact H) | (have H2_ := (Option.bind_some _ _).symm.trans H; rw [hy419]; with_reducible exact H2_) | (have H2_ := (Option.bind_some _ _).symm.trans H; with_reducible exact H2_) | with_reducible exact H | (rw [hy419]; exact H) | exact H
      have Ny419 := Aside0.mk hy419
      clear hy419
      replace H := Option.bind_eq_some_iff.mp H
      obtain ⟨⟨t422, t423, t424⟩, A400, H⟩ := H
      try dsimp only at H
      have A40 := Aside0.mk A400
      clear A400
      have H' := Aside0.mk H
      clear H
      go_wp2_with (first | ((with_reducible refine gate_dst (N := 29) rfl ?_); refine Kd.R_lit (Kd.int .i64) _ 3 ?hg (N := 29) ?hd (xs := ([2, 3] : List Int)) (inner := [.int .i64 2, .int .i64 3]) (ok := fun _ => True) (okp := fun _ => True) ?hr ?hp (fun _ hk => hk) trivial (Below.refl _ _) (Nat.le_refl _) (by simp) ?_; (case hd => rfl); (case hg => rfl); (case hr => first | (go_simp; done) | (go_simp; rfl)); (case hp => exact (Reps.one (show Kd.M (Kd.int .i64) _ _ _ 2 [.int .i64 2] from rfl) (Reps.one (show Kd.M (Kd.int .i64) _ _ _ 3 [.int .i64 3] from rfl) (Reps.none _ _)))); intro v420 w41 ho42 hb hg_ hnew_; clear hg_ hnew_; (first | rw [← Ny419.out] at ho42 | (simp only [Int.reduceToNat] at ho42; rw [← Ny419.out] at ho42)); have HO421 := Aside0.mk (Kd.R_lower ho42 (keep_size (hk_ HK))); replace BK391 := kb_ BK391 hb; replace BK397 := kb_ BK397 hb; replace HK := hkb_ HK hb; replace HB := Aside0.mk (below_step (hbI_ HB (IsS106.ge HI0.out)) hb); replace HI0 := IsS106.b HI0 hb; clear hb ho42; obtain ⟨Ao43, co43, eo43⟩ := Kd.R_slice HO421.out; subst eo43) | ((with_reducible refine gate_callee (f := 89) rfl ?_); refine gl_ (some 30) Try.func89 #[.pointer (some ⟨g, 0, none⟩), .slice Ao43 y419.length co43] rfl rfl rfl ?_; (with_reducible refine (spec_l1Cur_among.calls g s0_0 t399 t400 _ _ y419 t422 t423 t424 w0 _ ?side1 ?side2 ?side3 ?side4 ?side5 A40.out).mono ?_); (case side1 => exact IsS106.q HI0); (case side2 => exact hbI_ HB (IsS106.ge HI0.out)); (case side3 => exact Kd.C_o HO421); (case side4 => exact (Kd.R_reads' HO421.out).2.1); (case side5 => exact far_slice (IsS106.own_ne HI0.out HO421.out (by decide))); rintro e w44 ⟨rfl, hi, hb, hk⟩; refine ⟨_, rfl, ?_⟩; have n0_ := Aside0.mk (KeepBut.blk hk (kp_ BK391) NB391_0.out (by simp)); have n1_ := Aside0.mk (KeepBut.blk hk (kp_ BK397) NB397_0.out (by simp)); have n2_ := IsS106.rk HI0 HO421 hk; have n3_ := Aside0.mk (KeepBut.trans (hk_ HK) hk (.inl rfl)); have n4_ := Aside0.mk (hb); have n5_ := Aside0.mk (hi); clear BK391 BK397 HO421 HK HB HI0; have BK391 := n0_; have BK397 := n1_; have HO421 := n2_; have HK := n3_; have HB := n4_; have HI0 := n5_; clear n0_ n1_ n2_ n3_ n4_ n5_; (try clear hb); (try clear hb2); (try clear hk); (try clear hi); have hnb45 := NB397_391.out; have hnc45 := NB391_397.out; have hnb46 := NB397_0.out; have hnc46 := NB0_397.out; obtain ⟨hcz47_0, hcz47_1, hcz47_2, hfz47_0, hfz47_1, hfz47_2⟩ := bx3 BK397))
      go_meet
      case rel => exact ⟨_, (t423), (t424), (8), (6), (t422), H', ⟨by first | omega | exact Nat.le_refl _⟩, ⟨kf_ BK391 NB391_397⟩, ⟨kpq_ (kputs BK397 [(0, _), (1, _), (2, _)])⟩, ⟨IsS106.q HI0⟩, ⟨hk_ HK⟩, ⟨hbI_ HB (IsS106.ge HI0.out)⟩⟩
     ·rw [if_neg c39] at H
      have c39b0 : (t398 == 3) = false := beq_eq_false_iff_ne.mpr c39
      have c39b1 : (t398 != 3) = true := bne_iff_ne.mpr c39
      by_cases c48 : t398 = 4
      ·rw [if_pos c48] at H
       have c48b0 : (t398 == 4) = true := beq_iff_eq.mpr c48
       have c48b1 : (t398 != 4) = false := bne_eq_false_iff_eq.mpr c48
       clear c48
       have H' := Aside0.mk H
       clear H
       have hnb49 := NB397_391.out
       have hnc49 := NB391_397.out
       have hnb50 := NB397_0.out
       have hnc50 := NB0_397.out
       have hcz51_0 : w11.cell? ⟨gb397, 0, none⟩ = some (.int .i64 t392) := (blk_cell BK397.out 0).trans rfl
       have hcz51_1 : w11.cell? ⟨gb397, 1, none⟩ = some (.int .i64 t393) := (blk_cell BK397.out 1).trans rfl
       have hcz51_2 : w11.cell? ⟨gb397, 2, none⟩ = some (.int .i64 t394) := (blk_cell BK397.out 2).trans rfl
       have hfz51_0 := blk_frozen BK397.out 0
       have hfz51_1 := blk_frozen BK397.out 1
       have hfz51_2 := blk_frozen BK397.out 2
       go_wp2
       go_meet
       case rel => exact ⟨_, (t399), (t400), (1), (1), (4611686018427387904), H', ⟨by first | omega | exact Nat.le_refl _⟩, ⟨kf_ BK391 NB391_397⟩, ⟨kpq_ (kputs BK397 [(0, _), (1, _), (2, _)])⟩, ⟨IsS106.q HI0⟩, ⟨hk_ HK⟩, ⟨hbI_ HB (IsS106.ge HI0.out)⟩⟩
      ·rw [if_neg c48] at H
       have c48b0 : (t398 == 4) = false := beq_eq_false_iff_ne.mpr c48
       have c48b1 : (t398 != 4) = true := bne_iff_ne.mpr c48
       have H' := Aside0.mk H
       clear H
       go_wp2
       go_meet
       case rel => exact ⟨_, (t399), (t400), (t392), (t393), (t394), H', ⟨by first | omega | exact Nat.le_refl _⟩, ⟨kp_ BK391⟩, ⟨kp_ BK397⟩, ⟨IsS106.q HI0⟩, ⟨hk_ HK⟩, ⟨hbI_ HB (IsS106.ge HI0.out)⟩⟩
 case rest =>
  clear HC4
  (try clear c1); (try clear c2); (try clear p2); (try clear c3); (try clear c4); (try clear c5); (try clear c8); (try clear c9); (try clear c12); (try clear c12b0); (try clear c12b1); (try clear c18); (try clear c19); (try clear c21); (try clear c21b0); (try clear c21b1); (try clear c27); (try clear c28); (try clear c30); (try clear c30b0); (try clear c30b1); (try clear c36); (try clear c37); (try clear c39); (try clear c39b0); (try clear c39b1); (try clear c45); (try clear c46); (try clear c48); (try clear c48b0); (try clear c48b1); (try clear c49); (try clear c50); (try clear hcz10_0); (try clear hcz10_1); (try clear hcz10_2); (try clear hfz10_0); (try clear hfz10_1); (try clear hfz10_2)
  obtain ⟨kq, x1001_3, x1002_3, x398000_3, x398001_3, x398002_3, HA, HJ3, BK391, BK397, HI0, HK, HB⟩ := hcut
  cases kq with
  | zero => exact absurd HA.out (by simp [spec_l1Cur_anyGrid.j0])
  | succ kj3 =>
   have H := HA.out
   clear HA
   simp only [spec_l1Cur_anyGrid.j0] at H
   simp only [Option.some.injEq, Prod.mk.injEq] at H
   obtain ⟨rfl, rfl, rfl, rfl, rfl⟩ := H
   have hnb52 := NB397_391.out
   have hnc52 := NB391_397.out
   have hnb53 := NB397_0.out
   have hnc53 := NB0_397.out
   have hcz54_0 : wc.cell? ⟨gb397, 0, none⟩ = some (.int .i64 x398000_3) := (blk_cell BK397.out 0).trans rfl
   have hcz54_1 : wc.cell? ⟨gb397, 1, none⟩ = some (.int .i64 x398001_3) := (blk_cell BK397.out 1).trans rfl
   have hcz54_2 : wc.cell? ⟨gb397, 2, none⟩ = some (.int .i64 x398002_3) := (blk_cell BK397.out 2).trans rfl
   have hfz54_0 := blk_frozen BK397.out 0
   have hfz54_1 := blk_frozen BK397.out 1
   have hfz54_2 := blk_frozen BK397.out 2
   have hnb55 := NB391_0.out
   have hnc55 := NB0_391.out
   have hcz56_0 : wc.cell? ⟨gb391, 0, none⟩ = some (.int .i64 0) := (blk_cell BK391.out 0).trans rfl
   have hcz56_1 : wc.cell? ⟨gb391, 1, none⟩ = some (.int .i64 0) := (blk_cell BK391.out 1).trans rfl
   have hcz56_2 : wc.cell? ⟨gb391, 2, none⟩ = some (.int .i64 0) := (blk_cell BK391.out 2).trans rfl
   have hfz56_0 := blk_frozen BK391.out 0
   have hfz56_1 := blk_frozen BK391.out 1
   have hfz56_2 := blk_frozen BK391.out 2
   go_wp2
   refine bodyPost_ret (results_cell_row rfl _ _ gb391 32 #[.int .i64 x398000_3, .int .i64 x398001_3, .int .i64 x398002_3] (0, 0) _ rfl (kpq_ (kputs BK391 [(0, _), (1, _), (2, _)])) Try.underlying32 rfl (by kernel_rfl)) rfl ?_
   exact ⟨by first | rfl | (simp [errW_none, errW_some] <;> rfl) | (simp [*, errW_none, errW_some] <;> rfl), IsS106.q HI0, hbI_ HB (IsS106.ge HI0.out), hk_ HK⟩

end Go.Proofs.Ytceajigggcihnaa.PFnPieces
