-- Laid for this claim by wip/tools/print2.sh, a changed copy of the kit's print (wip/tools/patch_print.py): not by print.sh.
import Derived.Test.YtdfjlelbkkaloaaPFnGradesx0
import Derived.Test.YtdfjlelbkkaloaaPFnGradesx5
import Derived.Test.YtdfjlelbkkaloaaPFnGradesx8
namespace Go.Proofs.Ytdfjlelbkkaloaa.PFnGrades
open Go.RowKit Go.Proofs.YtdfjlelbkkaloaaW.PrintWords Go.Proofs.YtdfjlelbkkaloaaW.PrintLast Go.Proofs.YtdfjlelbkkaloaaW.PrintMore
attribute [local go_sem] max2_int min2_int max_two min_two max_three min_three max_four min_four   -- for this text's walks alone
set_option linter.unusedVariables false
set_option linter.unusedSimpArgs false

/-! ### spec_l1Cur_some: function 69 -/
mutual
def spec_l1Cur_some.l0 : Nat → Int → List Int → Int → List Int → Int → Int → Option (List Int × Int × Int)
 | 0, _, _, _, _, _, _ => none
 | k + 1, x1, x5, x6, x1000, x1001, x1002 => if x6 < x1 then ((spec_l1Cur_one.f x1000 x1001 x1002 3).bind fun bt370 => (if bt370.1 = true then (if x5.length < 17592186044416 then (spec_l1Cur_some.l0 k x1 (x5 ++ [x6]) (wrap64 (x6 + 1)) x1000 bt370.2.1 bt370.2.2) else (none)) else (spec_l1Cur_some.l0 k x1 x5 (wrap64 (x6 + 1)) x1000 bt370.2.1 bt370.2.2))) else ((spec_l1Cur_pick.f x1000 x1001 x1002 24).bind fun bt376 => (if bt376.1 = 0 then ((spec_l1Cur_among.f x1000 bt376.2.1 bt376.2.2 (([(-1), x1, 0] : List Int))).bind fun bt382 => (if x5.length < 17592186044416 then (some ((x5 ++ [bt382.1]), bt382.2.1, bt382.2.2)) else (none))) else (if bt376.1 = 1 then (spec_l1Cur_some.l1 k x1 ([] : List Int) 0 x1000 bt376.2.1 bt376.2.2) else (some (x5, bt376.2.1, bt376.2.2)))))
def spec_l1Cur_some.l1 : Nat → Int → List Int → Int → List Int → Int → Int → Option (List Int × Int × Int)
 | 0, _, _, _, _, _, _ => none
 | k + 1, x1, x5, x7, x1000, x1001, x1002 => if x7 < x1 then (if x5.length < 17592186044416 then (spec_l1Cur_some.l1 k x1 (x5 ++ [x7]) (wrap64 (x7 + 1)) x1000 x1001 x1002) else (none)) else (some (x5, x1001, x1002))
end
def spec_l1Cur_some.f (k : Nat) (s0_0 : List Int) (s0_1 : Int) (s0_2 : Int) (a1 : Int) : Option (List Int × Int × Int) := spec_l1Cur_some.l0 k a1 ([] : List Int) 0 s0_0 s0_1 s0_2
set_option maxHeartbeats 8000000 in
set_option maxRecDepth 100000 in
theorem spec_l1Cur_some.calls (k : Nat) (g : Nat) (s0_0 : List Int) (s0_1 : Int) (s0_2 : Int) (a1 : Int) (r1 : List Int) (r2 : Int) (r3 : Int) (w0 w : World) (hI : IsS76 w0 w g s0_0 s0_1 s0_2) (hB : Below w0.heap.size w0 w) (h : spec_l1Cur_some.f k s0_0 s0_1 s0_2 a1 = some (r1, r2, r3)) :
  Calls Try.prog 69 #[.pointer (some ⟨g, 0, none⟩), .int .i64 a1] w fun e w' => ∃ v0_ : Value, e = .returned (v0_) ∧ Kd.R (Kd.int .i64) 3 w' w.heap.size (fun _ => True) v0_ r1 ∧ IsS76 w0 w' g s0_0 r2 r3 ∧ Below w0.heap.size w0 w' ∧ KeepBut w w' g none := by
 have HI0 := Aside0.mk hI
 have HK := Aside0.mk (KeepBut.refl w g none)
 have HL := Aside0.mk hB.size
 clear hI
 have HW0 := Aside0.mk hB.size
 have HB := Aside0.mk hB
 clear hB
 have H : (spec_l1Cur_some.l0 k a1 ([] : List Int) 0 s0_0 s0_1 s0_2) = some (r1, r2, r3) := h
 clear h
 have H' := Aside0.mk H
 clear H
 go_enter Try.func69, Try.ntmps69
 go_wp2
 go_loopg [5, 6] k (fun kq v5 v6 w' => ∃ (x5_1 : List Int) (x6_1 : Int) (x1001_1 : Int) (x1002_1 : Int), v6 = .int .i64 x6_1 ∧ Aside0 (spec_l1Cur_some.l0 kq a1 x5_1 x6_1 s0_0 x1001_1 x1002_1 = some (r1, r2, r3)) ∧ Aside0 (kq ≤ k) ∧ Aside0 (Kd.R (Kd.int .i64) 3 w' w.heap.size (fun _ => True) v5 x5_1) ∧ Aside0 (IsS76 w0 w' g s0_0 x1001_1 x1002_1) ∧ Aside0 (KeepBut w w' g none) ∧ Aside0 (Below w0.heap.size w0 w'))
 case atStart => exact ⟨(([] : List Int)), (0), (s0_1), (s0_2), (by first | rfl | (simp; done) | (simp [*]; done)), H', ⟨Nat.le_refl _⟩, ⟨by first | exact Kd.R_nil _ _ _ _ _ | exact Kd.N_nil _ _ _ _ _ | exact Kd.V_nil _ _ _ _ _ | exact Kd.Q_nil _ _ _ _ _ | exact Kd.S_nil _ _ _ _ _⟩, ⟨IsS76.q HI0⟩, ⟨hk_ HK⟩, ⟨hbI_ HB (IsS76.ge HI0.out)⟩⟩
 case round =>
  clear H'
  (try clear p2)
  obtain ⟨x5_1, x6_1, x1001_1, x1002_1, rfl, HA, HK1, HO_5, HI0, HK, HB⟩ := hrel
  cases gk with
  | zero => exact absurd HA.out (by simp [spec_l1Cur_some.l0])
  | succ k1 =>
   have H := HA.out
   clear HA
   simp only [spec_l1Cur_some.l0] at H
   by_cases c3 : x6_1 < a1
   ·rw [if_pos c3] at H
    have c3b0 : decide (x6_1 < a1) = true := decide_eq_true c3
    clear c3
    replace H := Option.bind_eq_some_iff.mp H
    obtain ⟨⟨t370, t371, t372⟩, A40, H⟩ := H
    replace H : (if t370 = true then (if x5_1.length < 17592186044416 then (spec_l1Cur_some.l0 k1 a1 (x5_1 ++ [x6_1]) (wrap64 (x6_1 + 1)) s0_0 t371 t372) else (none)) else (spec_l1Cur_some.l0 k1 a1 x5_1 (wrap64 (x6_1 + 1)) s0_0 t371 t372)) = some (r1, r2, r3) := H
    have A4 := Aside0.mk A40
    clear A40
    by_cases c5 : t370 = true
    ·subst c5
     have H1 : (if x5_1.length < 17592186044416 then (spec_l1Cur_some.l0 k1 a1 (x5_1 ++ [x6_1]) (wrap64 (x6_1 + 1)) s0_0 t371 t372) else (none)) = some (r1, r2, r3) := by rw [if_pos rfl] at H; exact H
     clear H
     have H := H1
     clear H1
     by_cases c6 : x5_1.length < 17592186044416
     ·rw [if_pos c6] at H
      have LMc6 := Aside0.mk c6
      clear c6
      obtain ⟨y373, hy373⟩ : ∃ y_ : List Int, y_ = (x5_1 ++ [x6_1]) := ⟨_, rfl⟩
      replace H : (spec_l1Cur_some.l0 k1 a1 y373 (wrap64 (x6_1 + 1)) s0_0 t371 t372) = some (r1, r2, r3) := by first | (rw [hy373]; with_reducible exact H) | (have H2_ := (Option.bind_some _ _).symm.trans H; rw [hy373]; with_reducible exact H2_) | (have H2_ := (Option.bind_some _ _).symm.trans H; with_reducible exact H2_) | with_reducible exact H | (rw [hy373]; exact H) | exact H
      have Ny373 := Aside0.mk hy373
      clear hy373
      have H' := Aside0.mk H
      clear H
      go_wp2_with (first | ((with_reducible refine gate_callee (f := 73) rfl ?_); refine gl_ (some 14) Try.func73 #[.pointer (some ⟨g, 0, none⟩), .int .i64 3] rfl rfl rfl ?_; (with_reducible refine (spec_l1Cur_one.calls g s0_0 x1001_1 x1002_1 3 true t371 t372 w0 _ ?side1 ?side2 A4.out).mono ?_); (case side1 => exact IsS76.q HI0); (case side2 => exact hbI_ HB (IsS76.ge HI0.out)); rintro e w7 ⟨rfl, hi, hb, hk⟩; refine ⟨_, rfl, ?_⟩; have n0_ := IsS76.rk HI0 HO_5 hk; have n1_ := Aside0.mk (KeepBut.trans (hk_ HK) hk (.inl rfl)); have n2_ := Aside0.mk (hb); have n3_ := Aside0.mk (hi); clear HO_5 HK HB HI0; have HO_5 := n0_; have HK := n1_; have HB := n2_; have HI0 := n3_; clear n0_ n1_ n2_ n3_; (try clear hb); (try clear hb2); (try clear hk); (try clear hi)) | ((with_reducible refine gate_builtin (b := .append) (xs := #[.tmp 15, .tmp 17]) rfl ?_); at_builtin; refine Kd.R_append (Kd.int .i64) w.heap.size rfl (.tmp 15) (.tmp 17) 24 3 (.int .i64 0) 8 rfl Try.underlying24 info3 rfl (by decide) (by omega) u5 x5_1 x6_1 [.int .i64 x6_1] (fun _ => True) (fun _ => False) rfl rfl ?aP (fun _ hk => hk.elim) ?aF ?aO (Below.refl _ _) ?aS ?aL ?_; (case aP => exact rfl); (case aF => exact (fun _ _ => trivial)); (case aO => exact (Kd.R_p HO_5)); (case aS => exact (keep_size (hk_ HK))); (case aL => have := LMc6.out; omega); intro v374 w8 ho hb hg hat; rw [← Ny373.out] at ho; have HO375 := Aside0.mk (ho); replace HB := Aside0.mk (below_weaken (hbI_ HB (IsS76.ge HI0.out)) HL.out hb); replace HK := Aside0.mk (KeepBut.trans (hk_ HK) (KeepBut.of_grown hg g) (Kd.R_base2 HO_5.out)); replace HI0 := Aside0.mk (IsS76.grown (IsS76.q HI0) hg (IsS76.own_ne HI0.out HO_5.out (by decide))); clear HO_5; clear ho hb hg hat))
      go_roundg k1
      case measure => have := HK1.out; omega
      case rel => exact ⟨(y373), (wrap64 (x6_1 + 1)), (t371), (t372), (by first | rfl | (simp; done) | (simp [*]; done)), H', ⟨by have := HK1.out; omega⟩, ⟨Kd.R_p HO375⟩, ⟨IsS76.q HI0⟩, ⟨hk_ HK⟩, ⟨hbI_ HB (IsS76.ge HI0.out)⟩⟩
     ·rw [if_neg c6] at H
      exact absurd H (by simp)
    ·replace c5 := Bool.eq_false_iff.mpr c5
     subst c5
     have H1 : (spec_l1Cur_some.l0 k1 a1 x5_1 (wrap64 (x6_1 + 1)) s0_0 t371 t372) = some (r1, r2, r3) := by rw [if_neg (show ¬ (false = true) by decide)] at H; exact H
     clear H
     have H := H1
     clear H1
     have H' := Aside0.mk H
     clear H
     go_wp2_with (first | ((with_reducible refine gate_callee (f := 73) rfl ?_); refine gl_ (some 14) Try.func73 #[.pointer (some ⟨g, 0, none⟩), .int .i64 3] rfl rfl rfl ?_; (with_reducible refine (spec_l1Cur_one.calls g s0_0 x1001_1 x1002_1 3 false t371 t372 w0 _ ?side1 ?side2 A4.out).mono ?_); (case side1 => exact IsS76.q HI0); (case side2 => exact hbI_ HB (IsS76.ge HI0.out)); rintro e w9 ⟨rfl, hi, hb, hk⟩; refine ⟨_, rfl, ?_⟩; have n0_ := IsS76.rk HI0 HO_5 hk; have n1_ := Aside0.mk (KeepBut.trans (hk_ HK) hk (.inl rfl)); have n2_ := Aside0.mk (hb); have n3_ := Aside0.mk (hi); clear HO_5 HK HB HI0; have HO_5 := n0_; have HK := n1_; have HB := n2_; have HI0 := n3_; clear n0_ n1_ n2_ n3_; (try clear hb); (try clear hb2); (try clear hk); (try clear hi)))
     go_roundg k1
     case measure => have := HK1.out; omega
     case rel => exact ⟨(x5_1), (wrap64 (x6_1 + 1)), (t371), (t372), (by first | rfl | (simp; done) | (simp [*]; done)), H', ⟨by have := HK1.out; omega⟩, ⟨Kd.R_p HO_5⟩, ⟨IsS76.q HI0⟩, ⟨hk_ HK⟩, ⟨hbI_ HB (IsS76.ge HI0.out)⟩⟩
   ·rw [if_neg c3] at H
    have c3b0 : decide (x6_1 < a1) = false := decide_eq_false c3
    clear c3
    replace H := Option.bind_eq_some_iff.mp H
    obtain ⟨⟨t376, t377, t378⟩, A100, H⟩ := H
    replace H : (if t376 = 0 then ((spec_l1Cur_among.f s0_0 t377 t378 (([(-1), a1, 0] : List Int))).bind fun bt382 => (if x5_1.length < 17592186044416 then (some ((x5_1 ++ [bt382.1]), bt382.2.1, bt382.2.2)) else (none))) else (if t376 = 1 then (spec_l1Cur_some.l1 k1 a1 ([] : List Int) 0 s0_0 t377 t378) else (some (x5_1, t377, t378)))) = some (r1, r2, r3) := H
    have A10 := Aside0.mk A100
    clear A100
    by_cases c11 : t376 = 0
    ·rw [if_pos c11] at H
     have c11b0 : (t376 == 0) = true := beq_iff_eq.mpr c11
     have c11b1 : (t376 != 0) = false := bne_eq_false_iff_eq.mpr c11
     clear c11
     obtain ⟨y379, hy379⟩ : ∃ y_ : List Int, y_ = (([(-1), a1, 0] : List Int)) := ⟨_, rfl⟩
     replace H : ((spec_l1Cur_among.f s0_0 t377 t378 y379).bind fun bt382 => (if x5_1.length < 17592186044416 then (some ((x5_1 ++ [bt382.1]), bt382.2.1, bt382.2.2)) else (none))) = some (r1, r2, r3) := by first | (rw [hy379]; with_reducible exact H) | (have H2_ := (Option.bind_some _ _).symm.trans H; rw [hy379]; with_reducible exact H2_) | (have H2_ := (Option.bind_some _ _).symm.trans H; with_reducible exact H2_) | with_reducible exact H | (rw [hy379]; exact H) | exact H
     have Ny379 := Aside0.mk hy379
     clear hy379
     replace H := Option.bind_eq_some_iff.mp H
     obtain ⟨⟨t382, t383, t384⟩, A120, H⟩ := H
     replace H : (if x5_1.length < 17592186044416 then (some ((x5_1 ++ [t382]), t383, t384)) else (none)) = some (r1, r2, r3) := H
     have A12 := Aside0.mk A120
     clear A120
     by_cases c13 : x5_1.length < 17592186044416
     ·rw [if_pos c13] at H
      have LMc13 := Aside0.mk c13
      clear c13
      obtain ⟨y385, hy385⟩ : ∃ y_ : List Int, y_ = (x5_1 ++ [t382]) := ⟨_, rfl⟩
      replace H : (some (y385, t383, t384)) = some (r1, r2, r3) := by first | (rw [hy385]; with_reducible exact H) | (have H2_ := (Option.bind_some _ _).symm.trans H; rw [hy385]; with_reducible exact H2_) | (have H2_ := (Option.bind_some _ _).symm.trans H; with_reducible exact H2_) | with_reducible exact H | (rw [hy385]; exact H) | exact H
      have Ny385 := Aside0.mk hy385
      clear hy385
      simp only [Option.some.injEq, Prod.mk.injEq] at H
      obtain ⟨rfl, rfl, rfl⟩ := H
      go_wp2_with (first | ((with_reducible refine gate_callee (f := 60) rfl ?_); refine gl_ (some 20) Try.func60 #[.pointer (some ⟨g, 0, none⟩), .int .i64 24] rfl rfl rfl ?_; (with_reducible refine (spec_l1Cur_pick.calls g s0_0 x1001_1 x1002_1 24 t376 t377 t378 w0 _ ?side1 ?side2 A10.out).mono ?_); (case side1 => exact IsS76.q HI0); (case side2 => exact hbI_ HB (IsS76.ge HI0.out)); rintro e w14 ⟨rfl, hi, hb, hk⟩; refine ⟨_, rfl, ?_⟩; have n0_ := IsS76.rk HI0 HO_5 hk; have n1_ := Aside0.mk (KeepBut.trans (hk_ HK) hk (.inl rfl)); have n2_ := Aside0.mk (hb); have n3_ := Aside0.mk (hi); clear HO_5 HK HB HI0; have HO_5 := n0_; have HK := n1_; have HB := n2_; have HI0 := n3_; clear n0_ n1_ n2_ n3_; (try clear hb); (try clear hb2); (try clear hk); (try clear hi)) | ((with_reducible refine gate_dst (N := 26) rfl ?_); refine Kd.R_lit (Kd.int .i64) _ 3 ?hg (N := 26) ?hd (xs := ([(-1), a1, 0] : List Int)) (inner := [.int .i64 (-1), .int .i64 a1, .int .i64 0]) (ok := fun _ => True) (okp := fun _ => True) ?hr ?hp (fun _ hk => hk) trivial (Below.refl _ _) (Nat.le_refl _) (by simp) ?_; (case hd => rfl); (case hg => rfl); (case hr => first | (go_simp; done) | (go_simp; rfl)); (case hp => exact (Reps.one (show Kd.M (Kd.int .i64) _ _ _ (-1) [.int .i64 (-1)] from rfl) (Reps.one (show Kd.M (Kd.int .i64) _ _ _ a1 [.int .i64 a1] from rfl) (Reps.one (show Kd.M (Kd.int .i64) _ _ _ 0 [.int .i64 0] from rfl) (Reps.none _ _))))); intro v380 w15 ho16 hb hg_ hnew_; clear hg_ hnew_; (first | rw [← Ny379.out] at ho16 | (simp only [Int.reduceToNat] at ho16; rw [← Ny379.out] at ho16)); have HO381 := Aside0.mk (Kd.R_lower (Kd.R_nw ho16 HO_5) (keep_size (hk_ HK))); replace HO_5 := Kd.R_e HO_5 ho16 hb; replace HK := hkb_ HK hb; replace HB := Aside0.mk (below_step (hbI_ HB (IsS76.ge HI0.out)) hb); replace HI0 := IsS76.b HI0 hb; clear hb ho16; obtain ⟨Ao17, co17, eo17⟩ := Kd.R_slice HO381.out; subst eo17) | ((with_reducible refine gate_callee (f := 57) rfl ?_); refine gl_ (some 27) Try.func57 #[.pointer (some ⟨g, 0, none⟩), .slice Ao17 y379.length co17] rfl rfl rfl ?_; (with_reducible refine (spec_l1Cur_among.calls g s0_0 t377 t378 _ _ y379 t382 t383 t384 w0 _ ?side1 ?side2 ?side3 ?side4 ?side5 A12.out).mono ?_); (case side1 => exact IsS76.q HI0); (case side2 => exact hbI_ HB (IsS76.ge HI0.out)); (case side3 => exact Kd.C_o HO381); (case side4 => exact (Kd.R_reads' HO381.out).2.1); (case side5 => exact far_slice (IsS76.own_ne HI0.out HO381.out (by decide))); rintro e w18 ⟨rfl, hi, hb, hk⟩; refine ⟨_, rfl, ?_⟩; have n0_ := IsS76.rk HI0 HO_5 hk; have n1_ := IsS76.rk HI0 HO381 hk; have n2_ := Aside0.mk (KeepBut.trans (hk_ HK) hk (.inl rfl)); have n3_ := Aside0.mk (hb); have n4_ := Aside0.mk (hi); clear HO_5 HO381 HK HB HI0; have HO_5 := n0_; have HO381 := n1_; have HK := n2_; have HB := n3_; have HI0 := n4_; clear n0_ n1_ n2_ n3_ n4_; (try clear hb); (try clear hb2); (try clear hk); (try clear hi); try clear HO381) | ((with_reducible refine gate_builtin (b := .append) (xs := #[.tmp 23, .tmp 28]) rfl ?_); at_builtin; refine Kd.R_append (Kd.int .i64) w.heap.size rfl (.tmp 23) (.tmp 28) 24 3 (.int .i64 0) 8 rfl Try.underlying24 info3 rfl (by decide) (by omega) u5 x5_1 t382 [.int .i64 t382] (fun _ => True) (fun _ => False) rfl rfl ?aP (fun _ hk => hk.elim) ?aF ?aO (Below.refl _ _) ?aS ?aL ?_; (case aP => exact rfl); (case aF => exact (fun _ _ => trivial)); (case aO => exact (Kd.R_pp (Kd.R_mono HO_5.out (fun _ hk => trivial)))); (case aS => exact (keep_size (hk_ HK))); (case aL => have := LMc13.out; omega); intro v386 w19 ho hb hg hat; rw [← Ny385.out] at ho; have HO387 := Aside0.mk (ho); replace HB := Aside0.mk (below_weaken (hbI_ HB (IsS76.ge HI0.out)) HL.out hb); replace HK := Aside0.mk (KeepBut.trans (hk_ HK) (KeepBut.of_grown hg g) (Kd.R_base2 HO_5.out)); replace HI0 := Aside0.mk (IsS76.grown (IsS76.q HI0) hg (IsS76.own_ne HI0.out HO_5.out (by decide))); clear HO_5; clear ho hb hg hat))
      go_ret
      exact ⟨_, by first | rfl | (simp [errW_none, errW_some] <;> rfl) | (simp [*, errW_none, errW_some] <;> rfl), Kd.R_p HO387, IsS76.q HI0, hbI_ HB (IsS76.ge HI0.out), hk_ HK⟩
     ·rw [if_neg c13] at H
      exact absurd H (by simp)
    ·rw [if_neg c11] at H
     have c11b0 : (t376 == 0) = false := beq_eq_false_iff_ne.mpr c11
     have c11b1 : (t376 != 0) = true := bne_iff_ne.mpr c11
     by_cases c20 : t376 = 1
     ·rw [if_pos c20] at H
      have c20b0 : (t376 == 1) = true := beq_iff_eq.mpr c20
      have c20b1 : (t376 != 1) = false := bne_eq_false_iff_eq.mpr c20
      clear c20
      have H' := Aside0.mk H
      clear H
      go_wp2_with (first | ((with_reducible refine gate_callee (f := 60) rfl ?_); refine gl_ (some 20) Try.func60 #[.pointer (some ⟨g, 0, none⟩), .int .i64 24] rfl rfl rfl ?_; (with_reducible refine (spec_l1Cur_pick.calls g s0_0 x1001_1 x1002_1 24 t376 t377 t378 w0 _ ?side1 ?side2 A10.out).mono ?_); (case side1 => exact IsS76.q HI0); (case side2 => exact hbI_ HB (IsS76.ge HI0.out)); rintro e w21 ⟨rfl, hi, hb, hk⟩; refine ⟨_, rfl, ?_⟩; have n0_ := IsS76.rk HI0 HO_5 hk; have n1_ := Aside0.mk (KeepBut.trans (hk_ HK) hk (.inl rfl)); have n2_ := Aside0.mk (hb); have n3_ := Aside0.mk (hi); clear HO_5 HK HB HI0; have HO_5 := n0_; have HK := n1_; have HB := n2_; have HI0 := n3_; clear n0_ n1_ n2_ n3_; (try clear hb); (try clear hb2); (try clear hk); (try clear hi)))
      go_loopg [5, 7] k1 (fun kq v5 v7 w' => ∃ (x5_2 : List Int) (x7_2 : Int), v7 = .int .i64 x7_2 ∧ Aside0 (spec_l1Cur_some.l1 kq a1 x5_2 x7_2 s0_0 t377 t378 = some (r1, r2, r3)) ∧ Aside0 (kq ≤ k1) ∧ Aside0 (Kd.R (Kd.int .i64) 3 w' w.heap.size (fun _ => True) v5 x5_2) ∧ Aside0 (IsS76 w0 w' g s0_0 t377 t378) ∧ Aside0 (KeepBut w w' g none) ∧ Aside0 (Below w0.heap.size w0 w'))
      case atStart => exact ⟨(([] : List Int)), (0), (by first | rfl | (simp; done) | (simp [*]; done)), H', ⟨Nat.le_refl _⟩, ⟨by first | exact Kd.R_nil _ _ _ _ _ | exact Kd.N_nil _ _ _ _ _ | exact Kd.V_nil _ _ _ _ _ | exact Kd.Q_nil _ _ _ _ _ | exact Kd.S_nil _ _ _ _ _⟩, ⟨IsS76.q HI0⟩, ⟨hk_ HK⟩, ⟨hbI_ HB (IsS76.ge HI0.out)⟩⟩
      case round =>
       clear H'
       (try clear c1); (try clear c2); (try clear p2); (try clear c3); (try clear c3b0); (try clear c5); (try clear c6); (try clear p6); (try clear c7); (try clear c11); (try clear c11b0); (try clear c11b1); (try clear c13); (try clear c20); (try clear c20b0); (try clear c20b1)
       obtain ⟨x5_2, x7_2, rfl, HA, HK2, HO_5, HI0, HK, HB⟩ := hrel
       cases gk with
       | zero => exact absurd HA.out (by simp [spec_l1Cur_some.l1])
       | succ k2 =>
        have H := HA.out
        clear HA
        simp only [spec_l1Cur_some.l1] at H
        by_cases c22 : x7_2 < a1
        ·rw [if_pos c22] at H
         have c22b0 : decide (x7_2 < a1) = true := decide_eq_true c22
         clear c22
         by_cases c23 : x5_2.length < 17592186044416
         ·rw [if_pos c23] at H
          have LMc23 := Aside0.mk c23
          clear c23
          obtain ⟨y388, hy388⟩ : ∃ y_ : List Int, y_ = (x5_2 ++ [x7_2]) := ⟨_, rfl⟩
          replace H : (spec_l1Cur_some.l1 k2 a1 y388 (wrap64 (x7_2 + 1)) s0_0 t377 t378) = some (r1, r2, r3) := by first | (rw [hy388]; with_reducible exact H) | (have H2_ := (Option.bind_some _ _).symm.trans H; rw [hy388]; with_reducible exact H2_) | (have H2_ := (Option.bind_some _ _).symm.trans H; with_reducible exact H2_) | with_reducible exact H | (rw [hy388]; exact H) | exact H
          have Ny388 := Aside0.mk hy388
          clear hy388
          have H' := Aside0.mk H
          clear H
          go_wp2_with (first | ((with_reducible refine gate_builtin (b := .append) (xs := #[.tmp 37, .tmp 39]) rfl ?_); at_builtin; refine Kd.R_append (Kd.int .i64) w.heap.size rfl (.tmp 37) (.tmp 39) 24 3 (.int .i64 0) 8 rfl Try.underlying24 info3 rfl (by decide) (by omega) u5 x5_2 x7_2 [.int .i64 x7_2] (fun _ => True) (fun _ => False) rfl rfl ?aP (fun _ hk => hk.elim) ?aF ?aO (Below.refl _ _) ?aS ?aL ?_; (case aP => exact rfl); (case aF => exact (fun _ _ => trivial)); (case aO => exact (Kd.R_p HO_5)); (case aS => exact (keep_size (hk_ HK))); (case aL => have := LMc23.out; omega); intro v389 w24 ho hb hg hat; rw [← Ny388.out] at ho; have HO390 := Aside0.mk (ho); replace HB := Aside0.mk (below_weaken (hbI_ HB (IsS76.ge HI0.out)) HL.out hb); replace HK := Aside0.mk (KeepBut.trans (hk_ HK) (KeepBut.of_grown hg g) (Kd.R_base2 HO_5.out)); replace HI0 := Aside0.mk (IsS76.grown (IsS76.q HI0) hg (IsS76.own_ne HI0.out HO_5.out (by decide))); clear HO_5; clear ho hb hg hat))
          go_roundg k2
          case measure => have := HK1.out; have := HK2.out; omega
          case rel => exact ⟨(y388), (wrap64 (x7_2 + 1)), (by first | rfl | (simp; done) | (simp [*]; done)), H', ⟨by have := HK1.out; have := HK2.out; omega⟩, ⟨Kd.R_p HO390⟩, ⟨IsS76.q HI0⟩, ⟨hk_ HK⟩, ⟨hbI_ HB (IsS76.ge HI0.out)⟩⟩
         ·rw [if_neg c23] at H
          exact absurd H (by simp)
        ·rw [if_neg c22] at H
         have c22b0 : decide (x7_2 < a1) = false := decide_eq_false c22
         clear c22
         simp only [Option.some.injEq, Prod.mk.injEq] at H
         obtain ⟨rfl, rfl, rfl⟩ := H
         go_wp2
         go_ret
         exact ⟨_, by first | rfl | (simp [errW_none, errW_some] <;> rfl) | (simp [*, errW_none, errW_some] <;> rfl), Kd.R_p HO_5, IsS76.q HI0, hbI_ HB (IsS76.ge HI0.out), hk_ HK⟩
     ·rw [if_neg c20] at H
      have c20b0 : (t376 == 1) = false := beq_eq_false_iff_ne.mpr c20
      have c20b1 : (t376 != 1) = true := bne_iff_ne.mpr c20
      simp only [Option.some.injEq, Prod.mk.injEq] at H
      obtain ⟨rfl, rfl, rfl⟩ := H
      go_wp2_with (first | ((with_reducible refine gate_callee (f := 60) rfl ?_); refine gl_ (some 20) Try.func60 #[.pointer (some ⟨g, 0, none⟩), .int .i64 24] rfl rfl rfl ?_; (with_reducible refine (spec_l1Cur_pick.calls g s0_0 x1001_1 x1002_1 24 t376 t377 t378 w0 _ ?side1 ?side2 A10.out).mono ?_); (case side1 => exact IsS76.q HI0); (case side2 => exact hbI_ HB (IsS76.ge HI0.out)); rintro e w25 ⟨rfl, hi, hb, hk⟩; refine ⟨_, rfl, ?_⟩; have n0_ := IsS76.rk HI0 HO_5 hk; have n1_ := Aside0.mk (KeepBut.trans (hk_ HK) hk (.inl rfl)); have n2_ := Aside0.mk (hb); have n3_ := Aside0.mk (hi); clear HO_5 HK HB HI0; have HO_5 := n0_; have HK := n1_; have HB := n2_; have HI0 := n3_; clear n0_ n1_ n2_ n3_; (try clear hb); (try clear hb2); (try clear hk); (try clear hi)))
      go_ret
      exact ⟨_, by first | rfl | (simp [errW_none, errW_some] <;> rfl) | (simp [*, errW_none, errW_some] <;> rfl), Kd.R_p HO_5, IsS76.q HI0, hbI_ HB (IsS76.ge HI0.out), hk_ HK⟩

/-! ### spec_DrawSumsOf: function 53 -/
def spec_DrawSumsOf.f (k : Nat) (l0 : List Int) : Option (Int × Int × Int × List Int × List Int × List Int × List Int) := (spec_l1Cur_anyModel.f k l0 0 0).bind fun bt393 => ((spec_l1Cur_some.f k l0 bt393.2.2.2.2.2.2.1 bt393.2.2.2.2.2.2.2 (bt393.2.2.2.1.length : Int)).bind fun bt408 => (some (bt393.1, bt393.2.1, bt393.2.2.1, bt393.2.2.2.1, bt393.2.2.2.2.1, bt393.2.2.2.2.2.1, bt408.1)))
def spec_DrawSumsOf.T3 : Bool × List (List Nat × List Nat) := (true, [([], []), ([], []), ([], []), ([2], [2]), ([3], [3]), ([1, 4], [1, 4]), ([0, 5, 0], [0]), ([5, 6, 0, 1, 2, 3, 4, 5, 6], [5])])
def spec_DrawSumsOf.B3 : List Nat := [0, 0, 0, 4, 12, 30, 63, 127]
theorem spec_DrawSumsOf.tab3 : rtab .any (opsOf Try.f53 3) = spec_DrawSumsOf.T3 := by kernel_rfl
theorem spec_DrawSumsOf.bits3 : waitsOk spec_DrawSumsOf.T3.2 spec_DrawSumsOf.B3 = true := by kernel_rfl
set_option maxHeartbeats 8000000 in
set_option maxRecDepth 100000 in
theorem spec_DrawSumsOf.calls (k : Nat) (A0 : Option Addr) (c0 : Nat) (l0 : List Int) (r1 : Int) (r2 : Int) (r3 : Int) (r4 : List Int) (r5 : List Int) (r6 : List Int) (r7 : List Int) (w : World) (hr0 : Kd.C (Kd.int .u8) w A0 l0.length l0) (hc0 : l0.length ≤ c0) (h : spec_DrawSumsOf.f k l0 = some (r1, r2, r3, r4, r5, r6, r7)) :
  Calls Try.prog 53 #[.slice A0 l0.length c0] w fun e w' => ∃ v3_ v4_ v5_ v6_ : Value, e = .returned (.tuple #[.agg #[.int .i64 r1, .int .i64 r2, .int .i64 r3, v3_, v4_, v5_], v6_]) ∧ Kd.R (Kd.int .i64) 3 w' w.heap.size (fun k_ => some k_ ≠ (v4_ : Value).ownBlock ∧ some k_ ≠ (v5_ : Value).ownBlock ∧ some k_ ≠ (v6_ : Value).ownBlock) v3_ r4 ∧ Kd.R (Kd.int .i64) 3 w' w.heap.size (fun k_ => some k_ ≠ (v3_ : Value).ownBlock ∧ some k_ ≠ (v5_ : Value).ownBlock ∧ some k_ ≠ (v6_ : Value).ownBlock) v4_ r5 ∧ Kd.R (Kd.int .i64) 3 w' w.heap.size (fun k_ => some k_ ≠ (v3_ : Value).ownBlock ∧ some k_ ≠ (v4_ : Value).ownBlock ∧ some k_ ≠ (v6_ : Value).ownBlock) v5_ r6 ∧ Kd.R (Kd.int .i64) 3 w' w.heap.size (fun k_ => some k_ ≠ (v3_ : Value).ownBlock ∧ some k_ ≠ (v4_ : Value).ownBlock ∧ some k_ ≠ (v5_ : Value).ownBlock) v6_ r7 ∧ Below w.heap.size w w' := by
 have hu30 := Try.underlying30
 have hu76 := Try.underlying76
 have HR0 := Aside0.mk hr0
 have HC0 := Aside0.mk hc0
 clear hr0 hc0
 have HB := Aside0.mk (Below.refl w.heap.size w)
 have H : ((spec_l1Cur_anyModel.f k l0 0 0).bind fun bt393 => ((spec_l1Cur_some.f k l0 bt393.2.2.2.2.2.2.1 bt393.2.2.2.2.2.2.2 (bt393.2.2.2.1.length : Int)).bind fun bt408 => (some (bt393.1, bt393.2.1, bt393.2.2.1, bt393.2.2.2.1, bt393.2.2.2.2.1, bt393.2.2.2.2.2.1, bt408.1)))) = some (r1, r2, r3, r4, r5, r6, r7) := h
 clear h
 replace H := Option.bind_eq_some_iff.mp H
 obtain ⟨⟨t393, t394, t395, t396, t399, t402, t405, t406⟩, A20, H⟩ := H
 replace H : ((spec_l1Cur_some.f k l0 t405 t406 (t396.length : Int)).bind fun bt408 => (some (t393, t394, t395, t396, t399, t402, bt408.1))) = some (r1, r2, r3, r4, r5, r6, r7) := H
 have A2 := Aside0.mk A20
 clear A20
 replace H := Option.bind_eq_some_iff.mp H
 obtain ⟨⟨t408, t411, t412⟩, A30, H⟩ := H
 replace H : (some (t393, t394, t395, t396, t399, t402, t408)) = some (r1, r2, r3, r4, r5, r6, r7) := H
 have A3 := Aside0.mk A30
 clear A30
 simp only [Option.some.injEq, Prod.mk.injEq] at H
 obtain ⟨rfl, rfl, rfl, rfl, rfl, rfl, rfl⟩ := H
 go_enter Try.func53, Try.ntmps53
 try go_wp2_with (first | ((with_reducible refine gate_dst (N := 2) rfl ?_); refine box_event ?hg (N := 2) ?hd (cs := #[.int .i64 0, .int .i64 0, .int .i64 0, .slice none 0 0, .slice none 0 0, .slice none 0 0]) (t := 30) ?hr ?_; (case hd => rfl); (case hg => rfl); (case hr => first | (go_simp; done) | (go_simp; rfl)); intro gb391 hg w4 hbox hb; have BK391 := Aside0.mk (hbox); have GW391 := gs_ hg HB; have GE391 := gs_ hg HB; replace HB := hbs_ HB hb; clear hb hbox hg) | ((with_reducible refine gate_dst (N := 8) rfl ?_); refine box_event ?hg (N := 8) ?hd (cs := #[.slice A0 l0.length c0, .int .i64 0, .int .u64 0]) (t := 76) ?hr ?_; (case hd => rfl); (case hg => rfl); (case hr => first | (go_simp; done) | (go_simp; rfl)); intro gb392 hg w5 hbox hb; have HI392 := Aside0.mk ((show IsS76 w w5 gb392 l0 0 0 from ⟨A0, c0, hbox, (by rw [hg]; exact (below_size (hb_ HB))), HR0.out⟩)); have GW392 := gs_ hg HB; have GE392 := gs_ hg HB; have NB391_392 := nl_ hg BK391; have NB392_391 := ng_ hg BK391; replace BK391 := kb_ BK391 hb; replace HB := hbs_ HB hb; clear hb hbox hg) | ((with_reducible refine gate_callee (f := 56) rfl ?_); refine gl_ (some 10) Try.func56 #[.pointer (some ⟨gb392, 0, none⟩)] rfl rfl rfl ?_; (with_reducible refine (spec_l1Cur_anyModel.calls k gb392 l0 0 0 t393 t394 t395 t396 t399 t402 t405 t406 w _ ?side1 ?side2 A2.out).mono ?_); (case side1 => exact IsS76.q HI392); (case side2 => exact hbI_ HB (IsS76.ge HI392.out)); rintro e w6 ⟨v397, v400, v403, rfl, ho0, ho1, ho2, hi, hb, hk⟩; refine ⟨_, rfl, ?_⟩; have HO398 := Aside0.mk (Kd.R_lower ho0 (below_size (hbI_ HB (IsS76.ge HI392.out)))); have HO401 := Aside0.mk (Kd.R_lower ho1 (below_size (hbI_ HB (IsS76.ge HI392.out)))); have HO404 := Aside0.mk (Kd.R_lower ho2 (below_size (hbI_ HB (IsS76.ge HI392.out)))); replace BK391 := kk_ BK391 hk NB391_392; replace HB := Aside0.mk (hb); replace HI392 := Aside0.mk (hi); (try clear hb); (try clear hb2); (try clear hk); (try clear hi); (try clear ho0); (try clear ho1); (try clear ho2)) | ((with_reducible refine gate_dst (N := 5) rfl ?_); refine box_event ?hg (N := 5) ?hd (cs := #[.int .i64 0, .int .i64 0, .int .i64 0, .slice none 0 0, .slice none 0 0, .slice none 0 0]) (t := 30) ?hr ?_; (case hd => rfl); (case hg => rfl); (case hr => first | (go_simp; done) | (go_simp; rfl)); intro gb407 hg w7 hbox hb; have BK407 := Aside0.mk (hbox); have GW407 := Aside0.mk ((by rw [hg]; exact (below_size (hbI_ HB (IsS76.ge HI392.out))) : w.heap.size ≤ gb407)); have GE407 := Aside0.mk ((by rw [hg]; exact (below_size (hbI_ HB (IsS76.ge HI392.out))) : w.heap.size ≤ gb407)); have NB391_407 := nl_ hg BK391; have NB407_391 := ng_ hg BK391; have NB392_407 := Aside0.mk ((by rw [hg]; exact Nat.ne_of_lt (IsS76.lt (show IsS76 w _ gb392 l0 t405 t406 from IsS76.q HI392)) : gb392 ≠ gb407)); have NB407_392 := Aside0.mk ((by rw [hg]; exact Nat.ne_of_gt (IsS76.lt (show IsS76 w _ gb392 l0 t405 t406 from IsS76.q HI392)) : gb407 ≠ gb392)); replace HO398 := Kd.R_b HO398 hb; replace HO401 := Kd.R_b HO401 hb; replace HO404 := Kd.R_b HO404 hb; replace BK391 := kb_ BK391 hb; replace HB := Aside0.mk (below_step (hbI_ HB (IsS76.ge HI392.out)) hb); replace HI392 := IsS76.b HI392 hb; clear hb hbox hg; have hnb8 := NB407_391.out; have hnc8 := NB391_407.out; have hnb9 := NB407_392.out; have hnc9 := NB392_407.out; obtain ⟨hcz10_0, hcz10_1, hcz10_2, hcz10_3, hcz10_4, hcz10_5, hfz10_0, hfz10_1, hfz10_2, hfz10_3, hfz10_4, hfz10_5⟩ := bx6 BK407; obtain ⟨Ao11, co11, eo11⟩ := Kd.R_slice HO398.out; subst eo11; obtain ⟨Ao12, co12, eo12⟩ := Kd.R_slice HO401.out; subst eo12; obtain ⟨Ao13, co13, eo13⟩ := Kd.R_slice HO404.out; subst eo13))
 have n0_ : Aside0 (Kd.R (Kd.int .i64) 3 ((((((w7.setCell ⟨gb407, 0, none⟩ (.int .i64 t393)).setCell ⟨gb407, 1, none⟩ (.int .i64 t394)).setCell ⟨gb407, 2, none⟩ (.int .i64 t395)).setCell ⟨gb407, 3, none⟩ (.slice Ao11 t396.length co11)).setCell ⟨gb407, 4, none⟩ (.slice Ao12 t399.length co12)).setCell ⟨gb407, 5, none⟩ (.slice Ao13 t402.length co13)) w.heap.size (fun k_ => some k_ ≠ (.slice Ao12 t399.length co12 : Value).ownBlock ∧ some k_ ≠ (.slice Ao13 t402.length co13 : Value).ownBlock) (.slice Ao11 t396.length co11) t396) := ⟨Kd.R_mono (Kd.R_s HO398 BK407) (fun _ hk => ⟨hk.1, hk.2⟩)⟩
 have n1_ : Aside0 (Kd.R (Kd.int .i64) 3 ((((((w7.setCell ⟨gb407, 0, none⟩ (.int .i64 t393)).setCell ⟨gb407, 1, none⟩ (.int .i64 t394)).setCell ⟨gb407, 2, none⟩ (.int .i64 t395)).setCell ⟨gb407, 3, none⟩ (.slice Ao11 t396.length co11)).setCell ⟨gb407, 4, none⟩ (.slice Ao12 t399.length co12)).setCell ⟨gb407, 5, none⟩ (.slice Ao13 t402.length co13)) w.heap.size (fun k_ => some k_ ≠ (.slice Ao11 t396.length co11 : Value).ownBlock ∧ some k_ ≠ (.slice Ao13 t402.length co13 : Value).ownBlock) (.slice Ao12 t399.length co12) t399) := ⟨Kd.R_mono (Kd.R_s HO401 BK407) (fun _ hk => ⟨hk.1, hk.2⟩)⟩
 have n2_ : Aside0 (Kd.R (Kd.int .i64) 3 ((((((w7.setCell ⟨gb407, 0, none⟩ (.int .i64 t393)).setCell ⟨gb407, 1, none⟩ (.int .i64 t394)).setCell ⟨gb407, 2, none⟩ (.int .i64 t395)).setCell ⟨gb407, 3, none⟩ (.slice Ao11 t396.length co11)).setCell ⟨gb407, 4, none⟩ (.slice Ao12 t399.length co12)).setCell ⟨gb407, 5, none⟩ (.slice Ao13 t402.length co13)) w.heap.size (fun k_ => some k_ ≠ (.slice Ao11 t396.length co11 : Value).ownBlock ∧ some k_ ≠ (.slice Ao12 t399.length co12 : Value).ownBlock) (.slice Ao13 t402.length co13) t402) := ⟨Kd.R_mono (Kd.R_s HO404 BK407) (fun _ hk => ⟨hk.1, hk.2⟩)⟩
 have n3_ : Aside0 (((((((w7.setCell ⟨gb407, 0, none⟩ (.int .i64 t393)).setCell ⟨gb407, 1, none⟩ (.int .i64 t394)).setCell ⟨gb407, 2, none⟩ (.int .i64 t395)).setCell ⟨gb407, 3, none⟩ (.slice Ao11 t396.length co11)).setCell ⟨gb407, 4, none⟩ (.slice Ao12 t399.length co12)).setCell ⟨gb407, 5, none⟩ (.slice Ao13 t402.length co13)).heap[gb391]? = some (.cells #[.int .i64 0, .int .i64 0, .int .i64 0, .slice none 0 0, .slice none 0 0, .slice none 0 0] 30 (0, 0))) := ⟨kf_ BK391 NB391_407⟩
 have n4_ : Aside0 (((((((w7.setCell ⟨gb407, 0, none⟩ (.int .i64 t393)).setCell ⟨gb407, 1, none⟩ (.int .i64 t394)).setCell ⟨gb407, 2, none⟩ (.int .i64 t395)).setCell ⟨gb407, 3, none⟩ (.slice Ao11 t396.length co11)).setCell ⟨gb407, 4, none⟩ (.slice Ao12 t399.length co12)).setCell ⟨gb407, 5, none⟩ (.slice Ao13 t402.length co13)).heap[gb407]? = some (.cells #[.int .i64 t393, .int .i64 t394, .int .i64 t395, .slice Ao11 t396.length co11, .slice Ao12 t399.length co12, .slice Ao13 t402.length co13] 30 (0, 0))) := ⟨kpq_ (kputs BK407 [(0, _), (1, _), (2, _), (3, _), (4, _), (5, _)])⟩
 have n5_ : Aside0 (IsS76 w ((((((w7.setCell ⟨gb407, 0, none⟩ (.int .i64 t393)).setCell ⟨gb407, 1, none⟩ (.int .i64 t394)).setCell ⟨gb407, 2, none⟩ (.int .i64 t395)).setCell ⟨gb407, 3, none⟩ (.slice Ao11 t396.length co11)).setCell ⟨gb407, 4, none⟩ (.slice Ao12 t399.length co12)).setCell ⟨gb407, 5, none⟩ (.slice Ao13 t402.length co13)) gb392 l0 t405 t406) := ⟨IsS76.q HI392⟩
 have n6_ : Aside0 (Below w.heap.size w ((((((w7.setCell ⟨gb407, 0, none⟩ (.int .i64 t393)).setCell ⟨gb407, 1, none⟩ (.int .i64 t394)).setCell ⟨gb407, 2, none⟩ (.int .i64 t395)).setCell ⟨gb407, 3, none⟩ (.slice Ao11 t396.length co11)).setCell ⟨gb407, 4, none⟩ (.slice Ao12 t399.length co12)).setCell ⟨gb407, 5, none⟩ (.slice Ao13 t402.length co13))) := ⟨hbI_ HB (IsS76.ge HI392.out)⟩
 (try clear HO398)
 (try clear HO401)
 (try clear HO404)
 (try clear BK391)
 (try clear BK407)
 (try clear HI392)
 (try clear HB)
 generalize ((((((w7.setCell ⟨gb407, 0, none⟩ (.int .i64 t393)).setCell ⟨gb407, 1, none⟩ (.int .i64 t394)).setCell ⟨gb407, 2, none⟩ (.int .i64 t395)).setCell ⟨gb407, 3, none⟩ (.slice Ao11 t396.length co11)).setCell ⟨gb407, 4, none⟩ (.slice Ao12 t399.length co12)).setCell ⟨gb407, 5, none⟩ (.slice Ao13 t402.length co13)) = w14 at n0_ n1_ n2_ n3_ n4_ n5_ n6_ ⊢
 have HO398 := n0_
 have HO401 := n1_
 have HO404 := n2_
 have BK391 := n3_
 have BK407 := n4_
 have HI392 := n5_
 have HB := n6_
 clear n0_ n1_ n2_ n3_ n4_ n5_ n6_
 have n0_ := Aside0.mk (Kd.R_drew HO398.out)
 have n1_ := Aside0.mk (Kd.R_drew HO401.out)
 have n2_ := Aside0.mk (Kd.R_drew HO404.out)
 have n3_ := Aside0.mk (blk_drew BK391.out)
 have n4_ := Aside0.mk (blk_drew BK407.out)
 have n5_ := Aside0.mk (IsS76.drew HI392.out)
 have n6_ := Aside0.mk (below_drew1 HB.out)
 clear HO398
 clear HO401
 clear HO404
 clear BK391
 clear BK407
 clear HI392
 clear HB
 have HO398 := n0_
 have HO401 := n1_
 have HO404 := n2_
 have BK391 := n3_
 have BK407 := n4_
 have HI392 := n5_
 have HB := n6_
 clear n0_ n1_ n2_ n3_ n4_ n5_ n6_
 refine start_ (n := 8) (S := fun w' => w'.cell? ⟨gb407, 0, none⟩ = some (.int .i64 t393) ∧ w'.cell? ⟨gb407, 1, none⟩ = some (.int .i64 t394) ∧ w'.cell? ⟨gb407, 2, none⟩ = some (.int .i64 t395) ∧ w'.cell? ⟨gb407, 3, none⟩ = some (.slice Ao11 t396.length co11) ∧ w'.cell? ⟨gb407, 4, none⟩ = some (.slice Ao12 t399.length co12) ∧ w'.cell? ⟨gb407, 5, none⟩ = some (.slice Ao13 t402.length co13)) (ds := []) #[false, false, false, false, false, false, false, false] (by kernel_rfl) rfl rfl ⟨(blk_cell BK407.out 0).trans rfl, (blk_cell BK407.out 1).trans rfl, (blk_cell BK407.out 2).trans rfl, (blk_cell BK407.out 3).trans rfl, (blk_cell BK407.out 4).trans rfl, (blk_cell BK407.out 5).trans rfl⟩ (fun hHeld => ?_); refine with_tabW spec_DrawSumsOf.tab3 spec_DrawSumsOf.bits3 (fun HT_ HW_ => ?_)
 generalize w14.drew = w15 at HO398 HO401 HO404 BK391 BK407 HI392 HB hHeld ⊢
 refine pure_ (i := 1) (N := some 12) (v := ?_) (a' := ?_) #[false, true, false, false, false, false, false, false] rfl rfl (any_of HT_.out (by kernel_rfl)) (fun _ _ _ h => h) (Or.inl ⟨by rfl, ?_⟩) ?_ ?_
 rotate_left
 ·intro w'
  go_simp
  with_reducible rfl
 rotate_left
 ·simp only [Act.put, List.setIfInBounds_toArray, List.set_cons_zero, List.set_cons_succ, i64_w, i32_w]
  rfl
 refine pure_ (i := 2) (N := some 13) (v := ?_) (a' := ?_) #[false, true, true, false, false, false, false, false] rfl rfl (any_of HT_.out (by kernel_rfl)) (fun _ _ _ h => h) (Or.inl ⟨by rfl, ?_⟩) ?_ ?_
 rotate_left
 ·intro w'
  go_simp
  with_reducible rfl
 rotate_left
 ·simp only [Act.put, List.setIfInBounds_toArray, List.set_cons_zero, List.set_cons_succ, i64_w, i32_w]
  rfl
 refine take_ (i := 0) (N := some 11) (v := ?_) (a' := ?_) #[true, true, true, false, false, false, false, false] rfl rfl (take_ofW HT_.out HW_.out (by kernel_rfl)) (fun _ _ _ h => h) (Or.inl ⟨by rfl, ?_⟩) hHeld ?_ ?_
 rotate_left
 ·rintro w' ⟨s0, s1, s2, s3, s4, s5⟩
  go_simp
  with_reducible rfl
 rotate_left
 ·simp only [Act.put, List.setIfInBounds_toArray, List.set_cons_zero, List.set_cons_succ, i64_w, i32_w]
  rfl
 refine take_ (i := 3) (N := some 14) (v := ?_) (a' := ?_) #[true, true, true, true, false, false, false, false] rfl rfl (take_ofW HT_.out HW_.out (by kernel_rfl)) (fun _ _ _ h => h) (Or.inl ⟨by rfl, ?_⟩) hHeld ?_ ?_
 rotate_left
 ·rintro w' ⟨s0, s1, s2, s3, s4, s5⟩
  go_simp
  with_reducible rfl
 rotate_left
 ·simp only [Act.put, List.setIfInBounds_toArray, List.set_cons_zero, List.set_cons_succ, i64_w, i32_w]
  rfl
 refine pure_ (i := 4) (N := some 15) (v := ?_) (a' := ?_) #[true, true, true, true, true, false, false, false] rfl rfl (any_of HT_.out (by kernel_rfl)) (fun _ _ _ h => h) (Or.inl ⟨by rfl, ?_⟩) ?_ ?_
 rotate_left
 ·intro w'
  go_simp
  with_reducible rfl
 rotate_left
 ·simp only [Act.put, List.setIfInBounds_toArray, List.set_cons_zero, List.set_cons_succ, i64_w, i32_w]
  rfl
 refine one_ (i := 5) (N := some 16) #[true, true, true, true, true, true, false, false] rfl rfl (one_of HT_.out (by kernel_rfl)) (by decide) (fun K hK => ?_)
 refine goes_ Try.func69 (by kernel_rfl) rfl #[.pointer (some ⟨gb392, 0, none⟩), .int .i64 (t396.length : Int)] (by rfl) rfl rfl (by (try simp only [List.map_toArray, List.map_cons, List.map_nil]); first | done | rfl | (simp only [List.length_drop, List.length_take]; rfl)) ?_
 with_reducible refine (spec_l1Cur_some.calls k gb392 l0 t405 t406 (t396.length : Int) t408 t411 t412 w _ ?side1 ?side2 A3.out).mono ?_
 (case side1 => exact IsS76.q HI392)
 (case side2 => exact hbI_ HB (IsS76.ge HI392.out))
 rintro e w16 ⟨v409, rfl, ho0, hi, hb, hk⟩
 refine ⟨_, rfl, ?_⟩
 have n0_ := Aside0.mk (KeepBut.blk hk (kp_ BK391) NB391_392.out (by simp))
 have n1_ := Aside0.mk (Kd.R_mono (Kd.R_told (Kd.R_oldK (IsS76.apart (show IsS76 w _ gb392 l0 t405 t406 from IsS76.q HI392) (Kd.R_p HO398) (by decide)) hk) (Kd.R_base ho0)) (fun _ h_ => h_.1))
 have n2_ := Aside0.mk (Kd.R_mono (Kd.R_told (Kd.R_oldK (IsS76.apart (show IsS76 w _ gb392 l0 t405 t406 from IsS76.q HI392) (Kd.R_p HO401) (by decide)) hk) (Kd.R_base ho0)) (fun _ h_ => h_.1))
 have n3_ := Aside0.mk (Kd.R_mono (Kd.R_told (Kd.R_oldK (IsS76.apart (show IsS76 w _ gb392 l0 t405 t406 from IsS76.q HI392) (Kd.R_p HO404) (by decide)) hk) (Kd.R_base ho0)) (fun _ h_ => h_.1))
 have n4_ := Aside0.mk (KeepBut.blk hk (kp_ BK407) NB407_392.out (by simp))
 have n5_ := Aside0.mk (Kd.R_lower (Kd.R_nw (Kd.R_nw (Kd.R_nw ho0 HO398) HO401) HO404) (below_size (hbI_ HB (IsS76.ge HI392.out))))
 have n6_ := Aside0.mk (hb)
 have n7_ := Aside0.mk (hi)
 clear BK391
 clear HO398
 clear HO401
 clear HO404
 clear BK407
 clear HB
 clear HI392
 have BK391 := n0_
 have HO398 := n1_
 have HO401 := n2_
 have HO404 := n3_
 have BK407 := n4_
 have HO410 := n5_
 have HB := n6_
 have HI392 := n7_
 clear n0_ n1_ n2_ n3_ n4_ n5_ n6_ n7_
 (try clear hb)
 (try clear hb2)
 (try clear hk)
 (try clear hi)
 (try clear ho0)
 refine hK.out _ _ ⟨(blk_cell BK407.out 0).trans rfl, (blk_cell BK407.out 1).trans rfl, (blk_cell BK407.out 2).trans rfl, (blk_cell BK407.out 3).trans rfl, (blk_cell BK407.out 4).trans rfl, (blk_cell BK407.out 5).trans rfl⟩ (fun hHeld => ?_)
 clear hK K
 refine norm_ (a' := ?_) ?_ ?_
 rotate_left
 ·show Act.put _ (some 16) _ = _
  simp only [Act.put, List.setIfInBounds_toArray, List.set_cons_zero, List.set_cons_succ, i64_w, i32_w]
  rfl
 refine one_ (i := 6) (N := none) #[true, true, true, true, true, true, true, false] rfl rfl (one_of HT_.out (by kernel_rfl)) (by decide) (fun K hK => ?_)
 have hs17 : w16.cell? ⟨gb391, 0, none⟩ = some (.int .i64 0) := (blk_cell BK391.out 0).trans rfl
 have hfs17 := blk_frozen BK391.out 0
 have hns17_1 := NB407_391.out
 have hms17_1 := NB391_407.out
 have hs18 : w16.cell? ⟨gb391, 1, none⟩ = some (.int .i64 0) := (blk_cell BK391.out 1).trans rfl
 have hfs18 := blk_frozen BK391.out 1
 have hns18_1 := NB407_391.out
 have hms18_1 := NB391_407.out
 have hs19 : w16.cell? ⟨gb391, 2, none⟩ = some (.int .i64 0) := (blk_cell BK391.out 2).trans rfl
 have hfs19 := blk_frozen BK391.out 2
 have hns19_1 := NB407_391.out
 have hms19_1 := NB391_407.out
 have hs20 : w16.cell? ⟨gb391, 3, none⟩ = some (.slice none 0 0) := (blk_cell BK391.out 3).trans rfl
 have hfs20 := blk_frozen BK391.out 3
 have hns20_1 := NB407_391.out
 have hms20_1 := NB391_407.out
 have hs21 : w16.cell? ⟨gb391, 4, none⟩ = some (.slice none 0 0) := (blk_cell BK391.out 4).trans rfl
 have hfs21 := blk_frozen BK391.out 4
 have hns21_1 := NB407_391.out
 have hms21_1 := NB391_407.out
 have hs22 : w16.cell? ⟨gb391, 5, none⟩ = some (.slice none 0 0) := (blk_cell BK391.out 5).trans rfl
 have hfs22 := blk_frozen BK391.out 5
 have hns22_1 := NB407_391.out
 have hms22_1 := NB391_407.out
 refine skip_ (w1 := ?_) (by rfl) rfl ?_ ?_
 rotate_left
 ·go_simp
  rfl
 refine hK.out _ _ ⟨((cell_far (p := ⟨gb391, _, none⟩) NB407_391.out _).trans (((cell_far (p := ⟨gb391, _, none⟩) NB407_391.out _).trans (((cell_far (p := ⟨gb391, _, none⟩) NB407_391.out _).trans (((cell_far (p := ⟨gb391, _, none⟩) NB407_391.out _).trans (((cell_far (p := ⟨gb391, _, none⟩) NB407_391.out _).trans (((cell_far (p := ⟨gb391, _, none⟩) NB407_391.out _).trans (hHeld.1)))))))))))), ((cell_far (p := ⟨gb391, _, none⟩) NB407_391.out _).trans (((cell_far (p := ⟨gb391, _, none⟩) NB407_391.out _).trans (((cell_far (p := ⟨gb391, _, none⟩) NB407_391.out _).trans (((cell_far (p := ⟨gb391, _, none⟩) NB407_391.out _).trans (((cell_far (p := ⟨gb391, _, none⟩) NB407_391.out _).trans (((cell_far (p := ⟨gb391, _, none⟩) NB407_391.out _).trans (hHeld.2.1)))))))))))), ((cell_far (p := ⟨gb391, _, none⟩) NB407_391.out _).trans (((cell_far (p := ⟨gb391, _, none⟩) NB407_391.out _).trans (((cell_far (p := ⟨gb391, _, none⟩) NB407_391.out _).trans (((cell_far (p := ⟨gb391, _, none⟩) NB407_391.out _).trans (((cell_far (p := ⟨gb391, _, none⟩) NB407_391.out _).trans (((cell_far (p := ⟨gb391, _, none⟩) NB407_391.out _).trans (hHeld.2.2.1)))))))))))), ((cell_far (p := ⟨gb391, _, none⟩) NB407_391.out _).trans (((cell_far (p := ⟨gb391, _, none⟩) NB407_391.out _).trans (((cell_far (p := ⟨gb391, _, none⟩) NB407_391.out _).trans (((cell_far (p := ⟨gb391, _, none⟩) NB407_391.out _).trans (((cell_far (p := ⟨gb391, _, none⟩) NB407_391.out _).trans (((cell_far (p := ⟨gb391, _, none⟩) NB407_391.out _).trans (hHeld.2.2.2.1)))))))))))), ((cell_far (p := ⟨gb391, _, none⟩) NB407_391.out _).trans (((cell_far (p := ⟨gb391, _, none⟩) NB407_391.out _).trans (((cell_far (p := ⟨gb391, _, none⟩) NB407_391.out _).trans (((cell_far (p := ⟨gb391, _, none⟩) NB407_391.out _).trans (((cell_far (p := ⟨gb391, _, none⟩) NB407_391.out _).trans (((cell_far (p := ⟨gb391, _, none⟩) NB407_391.out _).trans (hHeld.2.2.2.2.1)))))))))))), ((cell_far (p := ⟨gb391, _, none⟩) NB407_391.out _).trans (((cell_far (p := ⟨gb391, _, none⟩) NB407_391.out _).trans (((cell_far (p := ⟨gb391, _, none⟩) NB407_391.out _).trans (((cell_far (p := ⟨gb391, _, none⟩) NB407_391.out _).trans (((cell_far (p := ⟨gb391, _, none⟩) NB407_391.out _).trans (((cell_far (p := ⟨gb391, _, none⟩) NB407_391.out _).trans (hHeld.2.2.2.2.2))))))))))))⟩ (fun hHeld => ?_)
 clear hK K
 refine pure_ (i := 7) (N := some 3) (v := ?_) (a' := ?_) #[true, true, true, true, true, true, true, true] rfl rfl (any_of HT_.out (by kernel_rfl)) (fun _ _ _ h => h) (Or.inl ⟨by rfl, ?_⟩) ?_ ?_
 rotate_left
 ·intro w'
  go_simp
  with_reducible rfl
 rotate_left
 ·simp only [Act.put, List.setIfInBounds_toArray, List.set_cons_zero, List.set_cons_succ, i64_w, i32_w]
  rfl
 refine done_ (done_of HT_.out (by kernel_rfl)) ?_
 try go_wp2
 refine bodyPost_ret (results_ct rfl _ _ gb391 30 #[.int .i64 t393, .int .i64 t394, .int .i64 t395, .slice Ao11 t396.length co11, .slice Ao12 t399.length co12, .slice Ao13 t402.length co13] (0, 0) _ rfl (kpq_ (kputs BK391 [(0, _), (1, _), (2, _), (3, _), (4, _), (5, _)])) Try.underlying30 rfl (by kernel_rfl)) rfl ?_
 exact ⟨_, _, _, _, by first | rfl | (simp [errW_none, errW_some] <;> rfl) | (simp [*, errW_none, errW_some] <;> rfl), Kd.R_mono (Kd.R_s HO398 BK391) (fun _ hk => ⟨hk.1.1, ⟨hk.1.2, hk.2⟩⟩), Kd.R_mono (Kd.R_s HO401 BK391) (fun _ hk => ⟨hk.1.1, ⟨hk.1.2, hk.2⟩⟩), Kd.R_mono (Kd.R_s HO404 BK391) (fun _ hk => ⟨hk.1.1, ⟨hk.1.2, hk.2⟩⟩), Kd.R_mono (Kd.R_s HO410 BK391) (fun _ hk => ⟨hk.1.1.2, ⟨hk.1.2, hk.2⟩⟩), hbI_ HB (IsS76.ge HI392.out)⟩

/-! ### spec_DrawMeanGrade: function 25 -/
def spec_DrawMeanGrade.f (k : Nat) (l0 : List Int) : Option (Int × Int × Int × List Int × List Int × List Int × List Int) := (spec_DrawSumsOf.f k l0).bind fun bt414 => (some (bt414.1, bt414.2.1, bt414.2.2.1, bt414.2.2.2.1, bt414.2.2.2.2.1, bt414.2.2.2.2.2.1, bt414.2.2.2.2.2.2))
set_option maxHeartbeats 8000000 in
set_option maxRecDepth 100000 in
theorem spec_DrawMeanGrade.calls (k : Nat) (A0 : Option Addr) (c0 : Nat) (l0 : List Int) (r1 : Int) (r2 : Int) (r3 : Int) (r4 : List Int) (r5 : List Int) (r6 : List Int) (r7 : List Int) (w : World) (hr0 : Kd.C (Kd.int .u8) w A0 l0.length l0) (hc0 : l0.length ≤ c0) (h : spec_DrawMeanGrade.f k l0 = some (r1, r2, r3, r4, r5, r6, r7)) :
  Calls Try.prog 25 #[.slice A0 l0.length c0] w fun e w' => ∃ v3_ v4_ v5_ v6_ : Value, e = .returned (.tuple #[.agg #[.int .i64 r1, .int .i64 r2, .int .i64 r3, v3_, v4_, v5_], v6_]) ∧ Kd.R (Kd.int .i64) 3 w' w.heap.size (fun k_ => some k_ ≠ (v4_ : Value).ownBlock ∧ some k_ ≠ (v5_ : Value).ownBlock ∧ some k_ ≠ (v6_ : Value).ownBlock) v3_ r4 ∧ Kd.R (Kd.int .i64) 3 w' w.heap.size (fun k_ => some k_ ≠ (v3_ : Value).ownBlock ∧ some k_ ≠ (v5_ : Value).ownBlock ∧ some k_ ≠ (v6_ : Value).ownBlock) v4_ r5 ∧ Kd.R (Kd.int .i64) 3 w' w.heap.size (fun k_ => some k_ ≠ (v3_ : Value).ownBlock ∧ some k_ ≠ (v4_ : Value).ownBlock ∧ some k_ ≠ (v6_ : Value).ownBlock) v5_ r6 ∧ Kd.R (Kd.int .i64) 3 w' w.heap.size (fun k_ => some k_ ≠ (v3_ : Value).ownBlock ∧ some k_ ≠ (v4_ : Value).ownBlock ∧ some k_ ≠ (v5_ : Value).ownBlock) v6_ r7 ∧ Below w.heap.size w w' := by
 have hu30 := Try.underlying30
 have HR0 := Aside0.mk hr0
 have HC0 := Aside0.mk hc0
 clear hr0 hc0
 have HB := Aside0.mk (Below.refl w.heap.size w)
 have H : ((spec_DrawSumsOf.f k l0).bind fun bt414 => (some (bt414.1, bt414.2.1, bt414.2.2.1, bt414.2.2.2.1, bt414.2.2.2.2.1, bt414.2.2.2.2.2.1, bt414.2.2.2.2.2.2))) = some (r1, r2, r3, r4, r5, r6, r7) := h
 clear h
 replace H := Option.bind_eq_some_iff.mp H
 obtain ⟨⟨t414, t415, t416, t417, t420, t423, t426⟩, A20, H⟩ := H
 replace H : (some (t414, t415, t416, t417, t420, t423, t426)) = some (r1, r2, r3, r4, r5, r6, r7) := H
 have A2 := Aside0.mk A20
 clear A20
 simp only [Option.some.injEq, Prod.mk.injEq] at H
 obtain ⟨rfl, rfl, rfl, rfl, rfl, rfl, rfl⟩ := H
 go_enter Try.func25, Try.ntmps25
 go_wp2_with (first | ((with_reducible refine gate_dst (N := 2) rfl ?_); refine box_event ?hg (N := 2) ?hd (cs := #[.int .i64 0, .int .i64 0, .int .i64 0, .slice none 0 0, .slice none 0 0, .slice none 0 0]) (t := 30) ?hr ?_; (case hd => rfl); (case hg => rfl); (case hr => first | (go_simp; done) | (go_simp; rfl)); intro gb413 hg w3 hbox hb; have BK413 := Aside0.mk (hbox); have GW413 := gs_ hg HB; have GE413 := gs_ hg HB; replace HB := hbs_ HB hb; clear hb hbox hg) | ((with_reducible refine gate_callee (f := 53) rfl ?_); refine gl_ (some 5) Try.func53 #[.slice A0 l0.length c0] rfl rfl rfl ?_; (with_reducible refine (spec_DrawSumsOf.calls k _ _ l0 t414 t415 t416 t417 t420 t423 t426 _ ?side1 ?side2 A2.out).mono ?_); (case side1 => exact Kd.C_w HR0 HB); (case side2 => exact HC0.out); rintro e w4 ⟨v418, v421, v424, v427, rfl, ho0, ho1, ho2, ho3, hb⟩; refine ⟨_, rfl, ?_⟩; have HO419 := Kd.R_lo ho0 HB; have HO422 := Kd.R_lo ho1 HB; have HO425 := Kd.R_lo ho2 HB; have HO428 := Kd.R_lo ho3 HB; replace BK413 := kb_ BK413 hb; replace HB := hbs_ HB hb; (try clear hb); (try clear hb2); (try clear hk); (try clear hi); (try clear ho0); (try clear ho1); (try clear ho2); (try clear ho3); obtain ⟨hcz5_0, hcz5_1, hcz5_2, hcz5_3, hcz5_4, hcz5_5, hfz5_0, hfz5_1, hfz5_2, hfz5_3, hfz5_4, hfz5_5⟩ := bx6 BK413; obtain ⟨Ao6, co6, eo6⟩ := Kd.R_slice HO419.out; subst eo6; obtain ⟨Ao7, co7, eo7⟩ := Kd.R_slice HO422.out; subst eo7; obtain ⟨Ao8, co8, eo8⟩ := Kd.R_slice HO425.out; subst eo8))
 refine bodyPost_ret (results_ct rfl _ _ gb413 30 #[.int .i64 t414, .int .i64 t415, .int .i64 t416, .slice Ao6 t417.length co6, .slice Ao7 t420.length co7, .slice Ao8 t423.length co8] (0, 0) _ rfl (kpq_ (kputs BK413 [(0, _), (1, _), (2, _), (3, _), (4, _), (5, _)])) Try.underlying30 rfl (by kernel_rfl)) rfl ?_
 exact ⟨_, _, _, _, by first | rfl | (simp [errW_none, errW_some] <;> rfl) | (simp [*, errW_none, errW_some] <;> rfl), Kd.R_mono (Kd.R_s HO419 BK413) (fun _ hk => ⟨hk.1, ⟨hk.2.1, hk.2.2⟩⟩), Kd.R_mono (Kd.R_s HO422 BK413) (fun _ hk => ⟨hk.1, ⟨hk.2.1, hk.2.2⟩⟩), Kd.R_mono (Kd.R_s HO425 BK413) (fun _ hk => ⟨hk.1, ⟨hk.2.1, hk.2.2⟩⟩), Kd.R_mono (Kd.R_s HO428 BK413) (fun _ hk => ⟨hk.1, ⟨hk.2.1, hk.2.2⟩⟩), hb_ HB⟩

/-! ### impl_areBlocks: function 48 -/
def impl_areBlocks.l0 : Nat → List Int → Int → List Int → Int → Int → Option (Bool)
 | 0, _, _, _, _, _ => none
 | k + 1, x0, x1, x7, x8, x9 => if x9 < x8 then (if 0 ≤ x9 then (if x9 < (x7.length : Int) then (if (rd x7 x9) < 0 then (some false) else (if (rd x7 x9) ≥ x1 then (some false) else (if x9 > 0 then (if 0 ≤ (wrap64 (x9 - 1)) then (if (wrap64 (x9 - 1)) < (x0.length : Int) then (if (rd x7 x9) ≤ (rd x0 (wrap64 (x9 - 1))) then (some false) else (impl_areBlocks.l0 k x0 x1 x7 x8 (wrap64 (x9 + 1)))) else (none)) else (none)) else (impl_areBlocks.l0 k x0 x1 x7 x8 (wrap64 (x9 + 1)))))) else (none)) else (none)) else (some true)
def impl_areBlocks.f (k : Nat) (l0 : List Int) (a1 : Int) : Option (Bool) := impl_areBlocks.l0 k l0 a1 l0 (l0.length : Int) 0
set_option maxHeartbeats 8000000 in
set_option maxRecDepth 100000 in
theorem impl_areBlocks.calls (k : Nat) (A0 : Option Addr) (c0 : Nat) (l0 : List Int) (a1 : Int) (r : Bool) (w : World) (hr0 : Kd.C (Kd.int .i64) w A0 l0.length l0) (hc0 : l0.length ≤ c0) (h : impl_areBlocks.f k l0 a1 = some r) :
  Calls Try.prog 48 #[.slice A0 l0.length c0, .int .i64 a1] w fun e w' => e = .returned (.bool r) ∧ Drawn0 w w' := by
 have HR0 := Aside0.mk hr0
 have HC0 := Aside0.mk hc0
 clear hr0 hc0
 have H : (impl_areBlocks.l0 k l0 a1 l0 (l0.length : Int) 0) = some r := h
 clear h
 have H' := Aside0.mk H
 clear H
 go_enter Try.func48, Try.ntmps48
 go_wp2
 go_loopg [9] k (fun kq v9 w' => ∃ (x9_1 : Int), v9 = .int .i64 x9_1 ∧ Aside0 (impl_areBlocks.l0 kq l0 a1 l0 (l0.length : Int) x9_1 = some r) ∧ Aside0 (kq ≤ k) ∧ Drawn0 w w')
 case atStart => exact ⟨(0), (by first | rfl | (simp; done) | (simp [*]; done)), H', ⟨Nat.le_refl _⟩, by repeat (first | exact Drawn0.refl _ | apply Drawn0.step)⟩
 case round =>
  clear H'
  (try clear p2)
  obtain ⟨x9_1, rfl, HA, HK1, ⟨m1, rfl⟩⟩ := hrel
  cases gk with
  | zero => exact absurd HA.out (by simp [impl_areBlocks.l0])
  | succ k1 =>
   have H := HA.out
   clear HA
   simp only [impl_areBlocks.l0] at H
   by_cases c3 : x9_1 < (l0.length : Int)
   ·rw [if_pos c3] at H
    have c3b0 : decide (x9_1 < (l0.length : Int)) = true := decide_eq_true c3
    clear c3
    by_cases c4 : 0 ≤ x9_1
    ·rw [if_pos c4] at H
     have c4b0 : decide (0 ≤ x9_1) = true := decide_eq_true c4
     clear c4
     by_cases c5 : x9_1 < (l0.length : Int)
     ·rw [if_pos c5] at H
      have c5b0 : decide (x9_1 < (l0.length : Int)) = true := decide_eq_true c5
      clear c5
      by_cases c6 : (rd l0 x9_1) < 0
      ·rw [if_pos c6] at H
       have c6b0 : decide ((rd l0 x9_1) < 0) = true := decide_eq_true c6
       clear c6
       obtain rfl := Option.some.inj H
       have p429 : 0 ≤ (x9_1 : Int) := of_decide_eq_true (by first | (with_reducible assumption) | assumption)
       have q429 : x9_1 < (l0.length : Int) := of_decide_eq_true (by first | (with_reducible assumption) | assumption)
       obtain ⟨ad429, e429, hx429_0⟩ := Kd.at_int HR0.out x9_1 p429 q429
       cases e429
       replace p429 := eq_true p429
       replace q429 := eq_true q429
       go_wp2
       go_ret
       exact ⟨by first | rfl | (simp; done) | (simp [*]; done), by repeat (first | exact Drawn0.refl _ | apply Drawn0.step)⟩
      ·rw [if_neg c6] at H
       have c6b0 : decide ((rd l0 x9_1) < 0) = false := decide_eq_false c6
       clear c6
       by_cases c7 : (rd l0 x9_1) ≥ a1
       ·rw [if_pos c7] at H
        have c7b0 : decide (a1 ≤ (rd l0 x9_1)) = true := decide_eq_true c7
        clear c7
        obtain rfl := Option.some.inj H
        have p429 : 0 ≤ (x9_1 : Int) := of_decide_eq_true (by first | (with_reducible assumption) | assumption)
        have q429 : x9_1 < (l0.length : Int) := of_decide_eq_true (by first | (with_reducible assumption) | assumption)
        obtain ⟨ad429, e429, hx429_0⟩ := Kd.at_int HR0.out x9_1 p429 q429
        cases e429
        replace p429 := eq_true p429
        replace q429 := eq_true q429
        go_wp2
        go_ret
        exact ⟨by first | rfl | (simp; done) | (simp [*]; done), by repeat (first | exact Drawn0.refl _ | apply Drawn0.step)⟩
       ·rw [if_neg c7] at H
        have c7b0 : decide (a1 ≤ (rd l0 x9_1)) = false := decide_eq_false c7
        clear c7
        by_cases c8 : x9_1 > 0
        ·rw [if_pos c8] at H
         have c8b0 : decide (0 < x9_1) = true := decide_eq_true c8
         clear c8
         obtain ⟨ji9, hji9⟩ : ∃ j_ : Int, (wrap64 (x9_1 - 1)) = j_ := ⟨_, rfl⟩
         replace H : (if 0 ≤ (ji9) then (if (ji9) < (l0.length : Int) then (if (rd l0 x9_1) ≤ (rd l0 (ji9)) then (some false) else (impl_areBlocks.l0 k1 l0 a1 l0 (l0.length : Int) (wrap64 (x9_1 + 1)))) else (none)) else (none)) = some r := by first | (rw [hji9] at H; exact H) | (simp only [hji9] at H ⊢; exact H)
         have hji9w : (IntKind.i64.wrap (x9_1 - 1)) = ji9 := (i64_w _).trans hji9
         by_cases c10 : 0 ≤ (ji9)
         ·rw [if_pos c10] at H
          have c10b0 : decide (0 ≤ (ji9)) = true := decide_eq_true c10
          clear c10
          by_cases c11 : (ji9) < (l0.length : Int)
          ·rw [if_pos c11] at H
           have c11b0 : decide ((ji9) < (l0.length : Int)) = true := decide_eq_true c11
           clear c11
           by_cases c12 : (rd l0 x9_1) ≤ (rd l0 (ji9))
           ·rw [if_pos c12] at H
            have c12b0 : decide ((rd l0 x9_1) ≤ (rd l0 (ji9))) = true := decide_eq_true c12
            clear c12
            obtain rfl := Option.some.inj H
            have p429 : 0 ≤ (x9_1 : Int) := of_decide_eq_true (by first | (with_reducible assumption) | assumption)
            have q429 : x9_1 < (l0.length : Int) := of_decide_eq_true (by first | (with_reducible assumption) | assumption)
            obtain ⟨ad429, e429, hx429_0⟩ := Kd.at_int HR0.out x9_1 p429 q429
            cases e429
            replace p429 := eq_true p429
            replace q429 := eq_true q429
            have p430 : 0 ≤ ((ji9) : Int) := of_decide_eq_true (by first | (with_reducible assumption) | assumption)
            have q430 : (ji9) < (l0.length : Int) := of_decide_eq_true (by first | (with_reducible assumption) | assumption)
            obtain ⟨ad430, e430, hx430_0⟩ := Kd.at_int HR0.out (ji9) p430 q430
            obtain rfl : ad429 = ad430 := (by injection e430)
            replace p430 := eq_true p430
            replace q430 := eq_true q430
            go_wp2
            go_ret
            exact ⟨by first | rfl | (simp; done) | (simp only [← hji9] <;> (first | rfl | simp)) | (simp [*]; done), by repeat (first | exact Drawn0.refl _ | apply Drawn0.step)⟩
           ·rw [if_neg c12] at H
            have c12b0 : decide ((rd l0 x9_1) ≤ (rd l0 (ji9))) = false := decide_eq_false c12
            clear c12
            have H' := Aside0.mk H
            clear H
            have p429 : 0 ≤ (x9_1 : Int) := of_decide_eq_true (by first | (with_reducible assumption) | assumption)
            have q429 : x9_1 < (l0.length : Int) := of_decide_eq_true (by first | (with_reducible assumption) | assumption)
            obtain ⟨ad429, e429, hx429_0⟩ := Kd.at_int HR0.out x9_1 p429 q429
            cases e429
            replace p429 := eq_true p429
            replace q429 := eq_true q429
            have p430 : 0 ≤ ((ji9) : Int) := of_decide_eq_true (by first | (with_reducible assumption) | assumption)
            have q430 : (ji9) < (l0.length : Int) := of_decide_eq_true (by first | (with_reducible assumption) | assumption)
            obtain ⟨ad430, e430, hx430_0⟩ := Kd.at_int HR0.out (ji9) p430 q430
            obtain rfl : ad429 = ad430 := (by injection e430)
            replace p430 := eq_true p430
            replace q430 := eq_true q430
            go_wp2
            go_roundg k1
            case measure => have := HK1.out; omega
            case rel => exact ⟨(wrap64 (x9_1 + 1)), (by first | rfl | (simp; done) | (simp [*]; done)), H', ⟨by have := HK1.out; omega⟩, by repeat (first | exact Drawn0.refl _ | apply Drawn0.step)⟩
          ·rw [if_neg c11] at H
           exact absurd H (by simp)
         ·rw [if_neg c10] at H
          exact absurd H (by simp)
        ·rw [if_neg c8] at H
         have c8b0 : decide (0 < x9_1) = false := decide_eq_false c8
         clear c8
         have H' := Aside0.mk H
         clear H
         have p429 : 0 ≤ (x9_1 : Int) := of_decide_eq_true (by first | (with_reducible assumption) | assumption)
         have q429 : x9_1 < (l0.length : Int) := of_decide_eq_true (by first | (with_reducible assumption) | assumption)
         obtain ⟨ad429, e429, hx429_0⟩ := Kd.at_int HR0.out x9_1 p429 q429
         cases e429
         replace p429 := eq_true p429
         replace q429 := eq_true q429
         go_wp2
         go_roundg k1
         case measure => have := HK1.out; omega
         case rel => exact ⟨(wrap64 (x9_1 + 1)), (by first | rfl | (simp; done) | (simp [*]; done)), H', ⟨by have := HK1.out; omega⟩, by repeat (first | exact Drawn0.refl _ | apply Drawn0.step)⟩
     ·rw [if_neg c5] at H
      exact absurd H (by simp)
    ·rw [if_neg c4] at H
     exact absurd H (by simp)
   ·rw [if_neg c3] at H
    have c3b0 : decide (x9_1 < (l0.length : Int)) = false := decide_eq_false c3
    clear c3
    obtain rfl := Option.some.inj H
    go_wp2
    go_ret
    exact ⟨by first | rfl | (simp; done) | (simp [*]; done), by repeat (first | exact Drawn0.refl _ | apply Drawn0.step)⟩

/-! ### impl_sumsOf: function 52 -/
def impl_sumsOf.l0 : Nat → Int → Int → List Int → Int → Int → Int → Int → Int → List Int → List Int → List Int → Option (Int × Int)
 | 0, _, _, _, _, _, _, _, _, _, _, _ => none
 | k + 1, x6, x7, x10, x11, x12, x432000, x432001, x432002, x432003, x432004, x432005 => if x12 < x11 then (if 0 ≤ x12 then (if x12 < (x10.length : Int) then (if 0 ≤ (rd x10 x12) then (if (rd x10 x12) < (x432003.length : Int) then (if (rd x10 x12) < (x432004.length : Int) then (impl_sumsOf.l0 k (wrap64 (x6 + (rd x432003 (rd x10 x12)))) (wrap64 (x7 + (wrap64 ((rd x432003 (rd x10 x12)) * (rd x432004 (rd x10 x12)))))) x10 x11 (wrap64 (x12 + 1)) x432000 x432001 x432002 x432003 x432004 x432005) else (none)) else (none)) else (none)) else (none)) else (none)) else (some (x6, x7))
def impl_sumsOf.f (k : Nat) (a0_0 : Int) (a0_1 : Int) (a0_2 : Int) (l0_3 : List Int) (l0_4 : List Int) (l0_5 : List Int) (l1 : List Int) : Option (Int × Int) := impl_sumsOf.l0 k 0 0 l1 (l1.length : Int) 0 a0_0 a0_1 a0_2 l0_3 l0_4 l0_5
set_option maxHeartbeats 8000000 in
set_option maxRecDepth 100000 in
theorem impl_sumsOf.calls (k : Nat) (a0_0 : Int) (a0_1 : Int) (a0_2 : Int) (A0_3 : Option Addr) (c0_3 : Nat) (l0_3 : List Int) (A0_4 : Option Addr) (c0_4 : Nat) (l0_4 : List Int) (A0_5 : Option Addr) (c0_5 : Nat) (l0_5 : List Int) (A1 : Option Addr) (c1 : Nat) (l1 : List Int) (r1 : Int) (r2 : Int) (w : World) (hr0_3 : Kd.C (Kd.int .i64) w A0_3 l0_3.length l0_3) (hc0_3 : l0_3.length ≤ c0_3) (hr0_4 : Kd.C (Kd.int .i64) w A0_4 l0_4.length l0_4) (hc0_4 : l0_4.length ≤ c0_4) (hr0_5 : Kd.C (Kd.int .i64) w A0_5 l0_5.length l0_5) (hc0_5 : l0_5.length ≤ c0_5) (hr1 : Kd.C (Kd.int .i64) w A1 l1.length l1) (hc1 : l1.length ≤ c1) (h : impl_sumsOf.f k a0_0 a0_1 a0_2 l0_3 l0_4 l0_5 l1 = some (r1, r2)) :
  Calls Try.prog 52 #[.agg #[.int .i64 a0_0, .int .i64 a0_1, .int .i64 a0_2, .slice A0_3 l0_3.length c0_3, .slice A0_4 l0_4.length c0_4, .slice A0_5 l0_5.length c0_5], .slice A1 l1.length c1] w fun e w' => e = .returned (.tuple #[.int .i64 r1, .int .i64 r2]) ∧ Below w.heap.size w w' := by
 have hu30 := Try.underlying30
 have HR0_3 := Aside0.mk hr0_3
 have HC0_3 := Aside0.mk hc0_3
 clear hr0_3 hc0_3
 have HR0_4 := Aside0.mk hr0_4
 have HC0_4 := Aside0.mk hc0_4
 clear hr0_4 hc0_4
 have HR0_5 := Aside0.mk hr0_5
 have HC0_5 := Aside0.mk hc0_5
 clear hr0_5 hc0_5
 have HR1 := Aside0.mk hr1
 have HC1 := Aside0.mk hc1
 clear hr1 hc1
 have HB := Aside0.mk (Below.refl w.heap.size w)
 have H : (impl_sumsOf.l0 k 0 0 l1 (l1.length : Int) 0 a0_0 a0_1 a0_2 l0_3 l0_4 l0_5) = some (r1, r2) := h
 clear h
 have H' := Aside0.mk H
 clear H
 go_enter Try.func52, Try.ntmps52
 go_wp2_with (first | ((with_reducible refine gate_dst (N := 2) rfl ?_); refine box_event ?hg (N := 2) ?hd (cs := #[.int .i64 a0_0, .int .i64 a0_1, .int .i64 a0_2, .slice A0_3 l0_3.length c0_3, .slice A0_4 l0_4.length c0_4, .slice A0_5 l0_5.length c0_5]) (t := 30) ?hr ?_; (case hd => rfl); (case hg => rfl); (case hr => first | (go_simp; done) | (go_simp; rfl)); intro gb431 hg w3 hbox hb; have BK431 := Aside0.mk (hbox); have GW431 := gs_ hg HB; have GE431 := gs_ hg HB; replace HB := hbs_ HB hb; clear hb hbox hg))
 repeat (go_quiet (first | ((with_reducible refine gate_dst (N := 2) rfl ?_); refine box_event ?hg (N := 2) ?hd (cs := #[.int .i64 a0_0, .int .i64 a0_1, .int .i64 a0_2, .slice A0_3 l0_3.length c0_3, .slice A0_4 l0_4.length c0_4, .slice A0_5 l0_5.length c0_5]) (t := 30) ?hr ?_; (case hd => rfl); (case hg => rfl); (case hr => first | (go_simp; done) | (go_simp; rfl)); intro gb431 hg w3 hbox hb; have BK431 := Aside0.mk (hbox); have GW431 := gs_ hg HB; have GE431 := gs_ hg HB; replace HB := hbs_ HB hb; clear hb hbox hg)); try go_wp2_with (first | ((with_reducible refine gate_dst (N := 2) rfl ?_); refine box_event ?hg (N := 2) ?hd (cs := #[.int .i64 a0_0, .int .i64 a0_1, .int .i64 a0_2, .slice A0_3 l0_3.length c0_3, .slice A0_4 l0_4.length c0_4, .slice A0_5 l0_5.length c0_5]) (t := 30) ?hr ?_; (case hd => rfl); (case hg => rfl); (case hr => first | (go_simp; done) | (go_simp; rfl)); intro gb431 hg w3 hbox hb; have BK431 := Aside0.mk (hbox); have GW431 := gs_ hg HB; have GE431 := gs_ hg HB; replace HB := hbs_ HB hb; clear hb hbox hg)))
 go_loopg [6, 7, 12] k (fun kq v6 v7 v12 w' => ∃ (x6_1 : Int) (x7_1 : Int) (x12_1 : Int), v6 = .int .i64 x6_1 ∧ v7 = .int .i64 x7_1 ∧ v12 = .int .i64 x12_1 ∧ Aside0 (impl_sumsOf.l0 kq x6_1 x7_1 l1 (l1.length : Int) x12_1 a0_0 a0_1 a0_2 l0_3 l0_4 l0_5 = some (r1, r2)) ∧ Aside0 (kq ≤ k) ∧ Aside0 (w'.heap[gb431]? = some (.cells #[.int .i64 a0_0, .int .i64 a0_1, .int .i64 a0_2, (.slice A0_3 l0_3.length c0_3), (.slice A0_4 l0_4.length c0_4), (.slice A0_5 l0_5.length c0_5)] 30 (0, 0))) ∧ Aside0 (Below w.heap.size w w'))
 case atStart => exact ⟨(0), (0), (0), (by first | rfl | (simp; done) | (simp [*]; done)), (by first | rfl | (simp; done) | (simp [*]; done)), (by first | rfl | (simp; done) | (simp [*]; done)), H', ⟨Nat.le_refl _⟩, ⟨kp_ BK431⟩, ⟨hb_ HB⟩⟩
 case round =>
  clear H'
  (try clear c1); (try clear p2)
  obtain ⟨x6_1, x7_1, x12_1, rfl, rfl, rfl, HA, HK1, BK431, HB⟩ := hrel
  cases gk with
  | zero => exact absurd HA.out (by simp [impl_sumsOf.l0])
  | succ k1 =>
   have H := HA.out
   clear HA
   simp only [impl_sumsOf.l0] at H
   by_cases c4 : x12_1 < (l1.length : Int)
   ·rw [if_pos c4] at H
    have c4b0 : decide (x12_1 < (l1.length : Int)) = true := decide_eq_true c4
    clear c4
    by_cases c5 : 0 ≤ x12_1
    ·rw [if_pos c5] at H
     have c5b0 : decide (0 ≤ x12_1) = true := decide_eq_true c5
     clear c5
     by_cases c6 : x12_1 < (l1.length : Int)
     ·rw [if_pos c6] at H
      have c6b0 : decide (x12_1 < (l1.length : Int)) = true := decide_eq_true c6
      clear c6
      by_cases c7 : 0 ≤ (rd l1 x12_1)
      ·rw [if_pos c7] at H
       have c7b0 : decide (0 ≤ (rd l1 x12_1)) = true := decide_eq_true c7
       clear c7
       by_cases c8 : (rd l1 x12_1) < (l0_3.length : Int)
       ·rw [if_pos c8] at H
        have c8b0 : decide ((rd l1 x12_1) < (l0_3.length : Int)) = true := decide_eq_true c8
        clear c8
        by_cases c9 : (rd l1 x12_1) < (l0_4.length : Int)
        ·rw [if_pos c9] at H
         have c9b0 : decide ((rd l1 x12_1) < (l0_4.length : Int)) = true := decide_eq_true c9
         clear c9
         have H' := Aside0.mk H
         clear H
         have p432 : 0 ≤ (x12_1 : Int) := of_decide_eq_true (by first | (with_reducible assumption) | assumption)
         have q432 : x12_1 < (l1.length : Int) := of_decide_eq_true (by first | (with_reducible assumption) | assumption)
         obtain ⟨ad432, e432, hx432_0⟩ := Kd.at_int HR1.out x12_1 p432 q432
         cases e432
         replace hx432_0 := (HB.out.cell (World.block_lt_of_cell? w _ hx432_0)).trans hx432_0
         replace p432 := eq_true p432
         replace q432 := eq_true q432
         have hcz10_0 : wr.cell? ⟨gb431, 0, none⟩ = some (.int .i64 a0_0) := (blk_cell BK431.out 0).trans rfl
         have hcz10_1 : wr.cell? ⟨gb431, 1, none⟩ = some (.int .i64 a0_1) := (blk_cell BK431.out 1).trans rfl
         have hcz10_2 : wr.cell? ⟨gb431, 2, none⟩ = some (.int .i64 a0_2) := (blk_cell BK431.out 2).trans rfl
         have hcz10_3 : wr.cell? ⟨gb431, 3, none⟩ = some (.slice A0_3 l0_3.length c0_3) := (blk_cell BK431.out 3).trans rfl
         have hcz10_4 : wr.cell? ⟨gb431, 4, none⟩ = some (.slice A0_4 l0_4.length c0_4) := (blk_cell BK431.out 4).trans rfl
         have hcz10_5 : wr.cell? ⟨gb431, 5, none⟩ = some (.slice A0_5 l0_5.length c0_5) := (blk_cell BK431.out 5).trans rfl
         have hfz10_0 := blk_frozen BK431.out 0
         have hfz10_1 := blk_frozen BK431.out 1
         have hfz10_2 := blk_frozen BK431.out 2
         have hfz10_3 := blk_frozen BK431.out 3
         have hfz10_4 := blk_frozen BK431.out 4
         have hfz10_5 := blk_frozen BK431.out 5
         have p433 : 0 ≤ ((rd l1 x12_1) : Int) := of_decide_eq_true (by first | (with_reducible assumption) | assumption)
         have q433 : (rd l1 x12_1) < (l0_3.length : Int) := of_decide_eq_true (by first | (with_reducible assumption) | assumption)
         obtain ⟨ad433, e433, hx433_0⟩ := Kd.at_int HR0_3.out (rd l1 x12_1) p433 q433
         cases e433
         replace hx433_0 := (HB.out.cell (World.block_lt_of_cell? w _ hx433_0)).trans hx433_0
         replace p433 := eq_true p433
         replace q433 := eq_true q433
         have p434 : 0 ≤ ((rd l1 x12_1) : Int) := of_decide_eq_true (by first | (with_reducible assumption) | assumption)
         have q434 : (rd l1 x12_1) < (l0_3.length : Int) := of_decide_eq_true (by first | (with_reducible assumption) | assumption)
         obtain ⟨ad434, e434, hx434_0⟩ := Kd.at_int HR0_3.out (rd l1 x12_1) p434 q434
         obtain rfl : ad433 = ad434 := (by injection e434)
         replace hx434_0 := (HB.out.cell (World.block_lt_of_cell? w _ hx434_0)).trans hx434_0
         replace p434 := eq_true p434
         replace q434 := eq_true q434
         have p435 : 0 ≤ ((rd l1 x12_1) : Int) := of_decide_eq_true (by first | (with_reducible assumption) | assumption)
         have q435 : (rd l1 x12_1) < (l0_4.length : Int) := of_decide_eq_true (by first | (with_reducible assumption) | assumption)
         obtain ⟨ad435, e435, hx435_0⟩ := Kd.at_int HR0_4.out (rd l1 x12_1) p435 q435
         cases e435
         replace hx435_0 := (HB.out.cell (World.block_lt_of_cell? w _ hx435_0)).trans hx435_0
         replace p435 := eq_true p435
         replace q435 := eq_true q435
         go_wp2
         repeat (go_quiet (fail); try go_wp2)
         go_roundg k1
         case measure => have := HK1.out; omega
         case rel => exact ⟨(wrap64 (x6_1 + (rd l0_3 (rd l1 x12_1)))), (wrap64 (x7_1 + (wrap64 ((rd l0_3 (rd l1 x12_1)) * (rd l0_4 (rd l1 x12_1)))))), (wrap64 (x12_1 + 1)), (by first | rfl | (simp; done) | (simp [*]; done)), (by first | rfl | (simp; done) | (simp [*]; done)), (by first | rfl | (simp; done) | (simp [*]; done)), H', ⟨by have := HK1.out; omega⟩, ⟨kp_ BK431⟩, ⟨hb_ HB⟩⟩
        ·rw [if_neg c9] at H
         exact absurd H (by simp)
       ·rw [if_neg c8] at H
        exact absurd H (by simp)
      ·rw [if_neg c7] at H
       exact absurd H (by simp)
     ·rw [if_neg c6] at H
      exact absurd H (by simp)
    ·rw [if_neg c5] at H
     exact absurd H (by simp)
   ·rw [if_neg c4] at H
    have c4b0 : decide (x12_1 < (l1.length : Int)) = false := decide_eq_false c4
    clear c4
    simp only [Option.some.injEq, Prod.mk.injEq] at H
    obtain ⟨rfl, rfl⟩ := H
    go_wp2
    repeat (go_quiet (fail); try go_wp2)
    go_ret2
    exact ⟨by first | rfl | (simp [errW_none, errW_some] <;> rfl) | (simp [*, errW_none, errW_some] <;> rfl), hb_ HB⟩

/-! ### impl_abs: function 70 -/
def impl_abs.f (a0 : Int) : Option (Int) := some (mx a0 (wrap64 (-a0)))
set_option maxHeartbeats 8000000 in
set_option maxRecDepth 100000 in
theorem impl_abs.calls (a0 : Int) (r : Int) (w : World) (h : impl_abs.f a0 = some r) :
  Calls Try.prog 70 #[.int .i64 a0] w fun e w' => e = .returned (.int .i64 r) ∧ Below w.heap.size w w' := by
 have HB := Aside0.mk (Below.refl w.heap.size w)
 have H : (some (mx a0 (wrap64 (-a0)))) = some r := h
 clear h
 obtain ⟨ji2, hji2⟩ : ∃ j_ : Int, (mx a0 (wrap64 (-a0))) = j_ := ⟨_, rfl⟩
 replace H : (some ji2) = some r := by first | (rw [hji2] at H; exact H) | (simp only [hji2] at H ⊢; exact H)
 have hji2_ : (if a0 < (wrap64 (-a0)) then (wrap64 (-a0)) else a0) = ji2 := hji2
 obtain rfl := Option.some.inj H
 go_enter Try.func70, Try.ntmps70
 go_wp2
 go_ret
 exact ⟨by first | rfl | (simp [errW_none, errW_some] <;> rfl) | (simp only [← hji2]; first | rfl | (simp [errW_none, errW_some] <;> rfl)) | (simp [*, errW_none, errW_some] <;> rfl), hb_ HB⟩

end Go.Proofs.Ytdfjlelbkkaloaa.PFnGrades
