-- Laid for this claim by wip/tools/print2.sh, a changed copy of the kit's print (wip/tools/patch_print.py): not by print.sh.
import Derived.Test.YtdfjlelbkkaloaaPFnGradesx0
import Derived.Test.YtdfjlelbkkaloaaPFnGradesx2
import Derived.Test.YtdfjlelbkkaloaaPFnGradesx5
namespace Go.Proofs.Ytdfjlelbkkaloaa.PFnGrades
open Go.RowKit Go.Proofs.YtdfjlelbkkaloaaW.PrintWords Go.Proofs.YtdfjlelbkkaloaaW.PrintLast Go.Proofs.YtdfjlelbkkaloaaW.PrintMore
attribute [local go_sem] max2_int min2_int max_two min_two max_three min_three max_four min_four   -- for this text's walks alone
set_option linter.unusedVariables false
set_option linter.unusedSimpArgs false

/-! ### laws_pIn: function 32 -/
def laws_pIn.l0 : Nat → Int → List Int → Int → Int → Option (Bool)
 | 0, _, _, _, _ => none
 | k + 1, x1, x7, x8, x9 => if x9 < x8 then (if 0 ≤ x9 then (if x9 < (x7.length : Int) then (if (rd x7 x9) = x1 then (some true) else (laws_pIn.l0 k x1 x7 x8 (wrap64 (x9 + 1)))) else (none)) else (none)) else (some false)
def laws_pIn.f (k : Nat) (l0 : List Int) (a1 : Int) : Option (Bool) := laws_pIn.l0 k a1 l0 (l0.length : Int) 0
set_option maxHeartbeats 8000000 in
set_option maxRecDepth 100000 in
theorem laws_pIn.calls (k : Nat) (A0 : Option Addr) (c0 : Nat) (l0 : List Int) (a1 : Int) (r : Bool) (w : World) (hr0 : Kd.C (Kd.int .i64) w A0 l0.length l0) (hc0 : l0.length ≤ c0) (h : laws_pIn.f k l0 a1 = some r) :
  Calls Try.prog 32 #[.slice A0 l0.length c0, .int .i64 a1] w fun e w' => e = .returned (.bool r) ∧ Drawn0 w w' := by
 have HR0 := Aside0.mk hr0
 have HC0 := Aside0.mk hc0
 clear hr0 hc0
 have H : (laws_pIn.l0 k a1 l0 (l0.length : Int) 0) = some r := h
 clear h
 have H' := Aside0.mk H
 clear H
 go_enter Try.func32, Try.ntmps32
 go_wp2
 go_loopg [9] k (fun kq v9 w' => ∃ (x9_1 : Int), v9 = .int .i64 x9_1 ∧ Aside0 (laws_pIn.l0 kq a1 l0 (l0.length : Int) x9_1 = some r) ∧ Aside0 (kq ≤ k) ∧ Drawn0 w w')
 case atStart => exact ⟨(0), (by first | rfl | (simp; done) | (simp [*]; done)), H', ⟨Nat.le_refl _⟩, by repeat (first | exact Drawn0.refl _ | apply Drawn0.step)⟩
 case round =>
  clear H'
  (try clear p2)
  obtain ⟨x9_1, rfl, HA, HK1, ⟨m1, rfl⟩⟩ := hrel
  cases gk with
  | zero => exact absurd HA.out (by simp [laws_pIn.l0])
  | succ k1 =>
   have H := HA.out
   clear HA
   simp only [laws_pIn.l0] at H
   by_cases c3 : x9_1 < (l0.length : Int)
   ·rw [if_pos c3] at H
    have c3b0 : decide (x9_1 < (l0.length : Int)) = true := decide_eq_true c3
    clear c3
    by_cases c4 : 0 ≤ x9_1
    ·rw [if_pos c4] at H
     have c4b0 : decide (0 ≤ x9_1) = true := decide_eq_true c4
     clear c4
     by_cases c5 : x9_1 < (l0.length : Int)
     ·rw [if_pos c5] at H
      have c5b0 : decide (x9_1 < (l0.length : Int)) = true := decide_eq_true c5
      clear c5
      by_cases c6 : (rd l0 x9_1) = a1
      ·rw [if_pos c6] at H
       have c6b0 : ((rd l0 x9_1) == a1) = true := beq_iff_eq.mpr c6
       have c6b1 : ((rd l0 x9_1) != a1) = false := bne_eq_false_iff_eq.mpr c6
       clear c6
       obtain rfl := Option.some.inj H
       have p504 : 0 ≤ (x9_1 : Int) := of_decide_eq_true (by first | (with_reducible assumption) | assumption)
       have q504 : x9_1 < (l0.length : Int) := of_decide_eq_true (by first | (with_reducible assumption) | assumption)
       obtain ⟨ad504, e504, hx504_0⟩ := Kd.at_int HR0.out x9_1 p504 q504
       cases e504
       replace p504 := eq_true p504
       replace q504 := eq_true q504
       go_wp2
       go_ret
       exact ⟨by first | rfl | (simp; done) | (simp [*]; done), by repeat (first | exact Drawn0.refl _ | apply Drawn0.step)⟩
      ·rw [if_neg c6] at H
       have c6b0 : ((rd l0 x9_1) == a1) = false := beq_eq_false_iff_ne.mpr c6
       have c6b1 : ((rd l0 x9_1) != a1) = true := bne_iff_ne.mpr c6
       have H' := Aside0.mk H
       clear H
       have p504 : 0 ≤ (x9_1 : Int) := of_decide_eq_true (by first | (with_reducible assumption) | assumption)
       have q504 : x9_1 < (l0.length : Int) := of_decide_eq_true (by first | (with_reducible assumption) | assumption)
       obtain ⟨ad504, e504, hx504_0⟩ := Kd.at_int HR0.out x9_1 p504 q504
       cases e504
       replace p504 := eq_true p504
       replace q504 := eq_true q504
       go_wp2
       go_roundg k1
       case measure => have := HK1.out; omega
       case rel => exact ⟨(wrap64 (x9_1 + 1)), (by first | rfl | (simp; done) | (simp [*]; done)), H', ⟨by have := HK1.out; omega⟩, by repeat (first | exact Drawn0.refl _ | apply Drawn0.step)⟩
     ·rw [if_neg c5] at H
      exact absurd H (by simp)
    ·rw [if_neg c4] at H
     exact absurd H (by simp)
   ·rw [if_neg c3] at H
    have c3b0 : decide (x9_1 < (l0.length : Int)) = false := decide_eq_false c3
    clear c3
    obtain rfl := Option.some.inj H
    go_wp2
    go_ret
    exact ⟨by first | rfl | (simp; done) | (simp [*]; done), by repeat (first | exact Drawn0.refl _ | apply Drawn0.step)⟩

/-! ### spec_l1Cur_block: function 59 -/
def spec_l1Cur_block.f (s0_0 : List Int) (s0_1 : Int) (s0_2 : Int) (a1_0 : Int) (a1_1 : Int) (a1_2 : Int) : Option (Int × Int × Int) := (spec_grGood.f a1_0 a1_1 a1_2).bind fun t506 => (if t506 = true then ((spec_l1Cur_one.f s0_0 s0_1 s0_2 24).bind fun bt507 => (if bt507.1 = true then ((spec_grCount.f a1_0 a1_1 a1_2).bind fun t510 => ((spec_l1Cur_among.f s0_0 bt507.2.1 bt507.2.2 (([(-1), t510] : List Int))).bind fun bt514 => (some (bt514.1, bt514.2.1, bt514.2.2)))) else ((spec_grCount.f a1_0 a1_1 a1_2).bind fun t517 => ((spec_l1Cur_pick.f s0_0 bt507.2.1 bt507.2.2 t517).bind fun bt518 => (some (bt518.1, bt518.2.1, bt518.2.2)))))) else (some (0, s0_1, s0_2)))
set_option maxHeartbeats 8000000 in
set_option maxRecDepth 100000 in
theorem spec_l1Cur_block.calls (g : Nat) (s0_0 : List Int) (s0_1 : Int) (s0_2 : Int) (a1_0 : Int) (a1_1 : Int) (a1_2 : Int) (r1 : Int) (r2 : Int) (r3 : Int) (w0 w : World) (hI : IsS76 w0 w g s0_0 s0_1 s0_2) (hB : Below w0.heap.size w0 w) (h : spec_l1Cur_block.f s0_0 s0_1 s0_2 a1_0 a1_1 a1_2 = some (r1, r2, r3)) :
  Calls Try.prog 59 #[.pointer (some ⟨g, 0, none⟩), .agg #[.int .i64 a1_0, .int .i64 a1_1, .int .i64 a1_2]] w fun e w' => e = .returned (.int .i64 r1) ∧ IsS76 w0 w' g s0_0 r2 r3 ∧ Below w0.heap.size w0 w' ∧ KeepBut w w' g none := by
 have hu28 := Try.underlying28
 have HI0 := Aside0.mk hI
 have HK := Aside0.mk (KeepBut.refl w g none)
 have HL := Aside0.mk hB.size
 clear hI
 have HW0 := Aside0.mk hB.size
 have HB := Aside0.mk hB
 clear hB
 have H : ((spec_grGood.f a1_0 a1_1 a1_2).bind fun t506 => (if t506 = true then ((spec_l1Cur_one.f s0_0 s0_1 s0_2 24).bind fun bt507 => (if bt507.1 = true then ((spec_grCount.f a1_0 a1_1 a1_2).bind fun t510 => ((spec_l1Cur_among.f s0_0 bt507.2.1 bt507.2.2 (([(-1), t510] : List Int))).bind fun bt514 => (some (bt514.1, bt514.2.1, bt514.2.2)))) else ((spec_grCount.f a1_0 a1_1 a1_2).bind fun t517 => ((spec_l1Cur_pick.f s0_0 bt507.2.1 bt507.2.2 t517).bind fun bt518 => (some (bt518.1, bt518.2.1, bt518.2.2)))))) else (some (0, s0_1, s0_2)))) = some (r1, r2, r3) := h
 clear h
 replace H := Option.bind_eq_some_iff.mp H
 obtain ⟨t506, A30, H⟩ := H
 replace H : (if t506 = true then ((spec_l1Cur_one.f s0_0 s0_1 s0_2 24).bind fun bt507 => (if bt507.1 = true then ((spec_grCount.f a1_0 a1_1 a1_2).bind fun t510 => ((spec_l1Cur_among.f s0_0 bt507.2.1 bt507.2.2 (([(-1), t510] : List Int))).bind fun bt514 => (some (bt514.1, bt514.2.1, bt514.2.2)))) else ((spec_grCount.f a1_0 a1_1 a1_2).bind fun t517 => ((spec_l1Cur_pick.f s0_0 bt507.2.1 bt507.2.2 t517).bind fun bt518 => (some (bt518.1, bt518.2.1, bt518.2.2)))))) else (some (0, s0_1, s0_2))) = some (r1, r2, r3) := H
 have A3 := Aside0.mk A30
 clear A30
 by_cases c4 : t506 = true
 ·subst c4
  have H1 : ((spec_l1Cur_one.f s0_0 s0_1 s0_2 24).bind fun bt507 => (if bt507.1 = true then ((spec_grCount.f a1_0 a1_1 a1_2).bind fun t510 => ((spec_l1Cur_among.f s0_0 bt507.2.1 bt507.2.2 (([(-1), t510] : List Int))).bind fun bt514 => (some (bt514.1, bt514.2.1, bt514.2.2)))) else ((spec_grCount.f a1_0 a1_1 a1_2).bind fun t517 => ((spec_l1Cur_pick.f s0_0 bt507.2.1 bt507.2.2 t517).bind fun bt518 => (some (bt518.1, bt518.2.1, bt518.2.2)))))) = some (r1, r2, r3) := by rw [if_pos rfl] at H; exact H
  clear H
  have H := H1
  clear H1
  replace H := Option.bind_eq_some_iff.mp H
  obtain ⟨⟨t507, t508, t509⟩, A50, H⟩ := H
  replace H : (if t507 = true then ((spec_grCount.f a1_0 a1_1 a1_2).bind fun t510 => ((spec_l1Cur_among.f s0_0 t508 t509 (([(-1), t510] : List Int))).bind fun bt514 => (some (bt514.1, bt514.2.1, bt514.2.2)))) else ((spec_grCount.f a1_0 a1_1 a1_2).bind fun t517 => ((spec_l1Cur_pick.f s0_0 t508 t509 t517).bind fun bt518 => (some (bt518.1, bt518.2.1, bt518.2.2))))) = some (r1, r2, r3) := H
  have A5 := Aside0.mk A50
  clear A50
  by_cases c6 : t507 = true
  ·subst c6
   have H1 : ((spec_grCount.f a1_0 a1_1 a1_2).bind fun t510 => ((spec_l1Cur_among.f s0_0 t508 t509 (([(-1), t510] : List Int))).bind fun bt514 => (some (bt514.1, bt514.2.1, bt514.2.2)))) = some (r1, r2, r3) := by rw [if_pos rfl] at H; exact H
   clear H
   have H := H1
   clear H1
   replace H := Option.bind_eq_some_iff.mp H
   obtain ⟨t510, A70, H⟩ := H
   replace H : ((spec_l1Cur_among.f s0_0 t508 t509 (([(-1), t510] : List Int))).bind fun bt514 => (some (bt514.1, bt514.2.1, bt514.2.2))) = some (r1, r2, r3) := H
   have A7 := Aside0.mk A70
   clear A70
   obtain ⟨y511, hy511⟩ : ∃ y_ : List Int, y_ = (([(-1), t510] : List Int)) := ⟨_, rfl⟩
   replace H : ((spec_l1Cur_among.f s0_0 t508 t509 y511).bind fun bt514 => (some (bt514.1, bt514.2.1, bt514.2.2))) = some (r1, r2, r3) := by first | (rw [hy511]; with_reducible exact H) | (have H2_ := (Option.bind_some _ _).symm.trans H; rw [hy511]; with_reducible exact H2_) | (have H2_ := (Option.bind_some _ _).symm.trans H; with_reducible exact H2_) | with_reducible exact H | (rw [hy511]; exact H) | exact H
   have Ny511 := Aside0.mk hy511
   clear hy511
   replace H := Option.bind_eq_some_iff.mp H
   obtain ⟨⟨t514, t515, t516⟩, A80, H⟩ := H
   replace H : (some (t514, t515, t516)) = some (r1, r2, r3) := H
   have A8 := Aside0.mk A80
   clear A80
   simp only [Option.some.injEq, Prod.mk.injEq] at H
   obtain ⟨rfl, rfl, rfl⟩ := H
   go_enter Try.func59, Try.ntmps59
   go_wp2_with (first | ((with_reducible refine gate_dst (N := 3) rfl ?_); refine box_event ?hg (N := 3) ?hd (cs := #[.int .i64 a1_0, .int .i64 a1_1, .int .i64 a1_2]) (t := 28) ?hr ?_; (case hd => rfl); (case hg => rfl); (case hr => first | (go_simp; done) | (go_simp; rfl)); intro gb505 hg w9 hbox hb; have BK505 := Aside0.mk (hbox); have GW505 := Aside0.mk ((by rw [hg]; exact (keep_size (hk_ HK)) : w.heap.size ≤ gb505)); have GE505 := Aside0.mk ((Nat.le_trans HW0.out (by rw [hg]; exact (keep_size (hk_ HK)) : w.heap.size ≤ gb505) : w0.heap.size ≤ gb505)); have NB0_505 := Aside0.mk ((by rw [hg]; exact Nat.ne_of_lt (IsS76.lt (show IsS76 w0 _ g s0_0 s0_1 s0_2 from IsS76.q HI0)) : g ≠ gb505)); have NB505_0 := Aside0.mk ((by rw [hg]; exact Nat.ne_of_gt (IsS76.lt (show IsS76 w0 _ g s0_0 s0_1 s0_2 from IsS76.q HI0)) : gb505 ≠ g)); replace HK := hkb_ HK hb; replace HB := Aside0.mk (below_step (hbI_ HB (IsS76.ge HI0.out)) hb); replace HI0 := IsS76.b HI0 hb; clear hb hbox hg; have hnb10 := NB505_0.out; have hnc10 := NB0_505.out; obtain ⟨hcz11_0, hcz11_1, hcz11_2, hfz11_0, hfz11_1, hfz11_2⟩ := bx3 BK505) | ((with_reducible refine gate_callee (f := 66) rfl ?_); refine gl_ (some 6) Try.func66 #[.agg #[.int .i64 a1_0, .int .i64 a1_1, .int .i64 a1_2]] rfl rfl rfl ?_; (with_reducible refine (spec_grGood.calls a1_0 a1_1 a1_2 true _ A3.out).mono ?_); rintro e w12 ⟨rfl, hb⟩; refine ⟨_, rfl, ?_⟩; replace BK505 := kb_ BK505 hb; replace HK := hkb_ HK hb; replace HB := Aside0.mk (below_step (hbI_ HB (IsS76.ge HI0.out)) hb); replace HI0 := IsS76.b HI0 hb; (try clear hb); (try clear hb2); (try clear hk); (try clear hi)) | ((with_reducible refine gate_callee (f := 73) rfl ?_); refine gl_ (some 9) Try.func73 #[.pointer (some ⟨g, 0, none⟩), .int .i64 24] rfl rfl rfl ?_; (with_reducible refine (spec_l1Cur_one.calls g s0_0 s0_1 s0_2 24 true t508 t509 w0 _ ?side1 ?side2 A5.out).mono ?_); (case side1 => exact IsS76.q HI0); (case side2 => exact hbI_ HB (IsS76.ge HI0.out)); rintro e w13 ⟨rfl, hi, hb, hk⟩; refine ⟨_, rfl, ?_⟩; replace BK505 := kk_ BK505 hk NB505_0; replace HK := Aside0.mk (KeepBut.trans (hk_ HK) hk (.inl rfl)); replace HB := Aside0.mk (hb); replace HI0 := Aside0.mk (hi); (try clear hb); (try clear hb2); (try clear hk); (try clear hi); obtain ⟨hcz14_0, hcz14_1, hcz14_2, hfz14_0, hfz14_1, hfz14_2⟩ := bx3 BK505) | ((with_reducible refine gate_callee (f := 64) rfl ?_); refine gl_ (some 12) Try.func64 #[.agg #[.int .i64 a1_0, .int .i64 a1_1, .int .i64 a1_2]] rfl rfl rfl ?_; (with_reducible refine (spec_grCount.calls a1_0 a1_1 a1_2 t510 _ A7.out).mono ?_); rintro e w15 ⟨rfl, hb⟩; refine ⟨_, rfl, ?_⟩; replace BK505 := kb_ BK505 hb; replace HK := hkb_ HK hb; replace HB := Aside0.mk (below_step (hbI_ HB (IsS76.ge HI0.out)) hb); replace HI0 := IsS76.b HI0 hb; (try clear hb); (try clear hb2); (try clear hk); (try clear hi); try clear BK505; try clear GW505; try clear GE505; try clear NB505_0; try clear NB0_505) | ((with_reducible refine gate_dst (N := 13) rfl ?_); refine Kd.R_lit (Kd.int .i64) _ 3 ?hg (N := 13) ?hd (xs := ([(-1), t510] : List Int)) (inner := [.int .i64 (-1), .int .i64 t510]) (ok := fun _ => True) (okp := fun _ => True) ?hr ?hp (fun _ hk => hk) trivial (Below.refl _ _) (Nat.le_refl _) (by simp) ?_; (case hd => rfl); (case hg => rfl); (case hr => first | (go_simp; done) | (go_simp; rfl)); (case hp => exact (Reps.one (show Kd.M (Kd.int .i64) _ _ _ (-1) [.int .i64 (-1)] from rfl) (Reps.one (show Kd.M (Kd.int .i64) _ _ _ t510 [.int .i64 t510] from rfl) (Reps.none _ _)))); intro v512 w16 ho17 hb hg_ hnew_; clear hg_ hnew_; (first | rw [← Ny511.out] at ho17 | (simp only [Int.reduceToNat] at ho17; rw [← Ny511.out] at ho17)); have HO513 := Aside0.mk (Kd.R_lower ho17 (keep_size (hk_ HK))); replace HK := hkb_ HK hb; replace HB := Aside0.mk (below_step (hbI_ HB (IsS76.ge HI0.out)) hb); replace HI0 := IsS76.b HI0 hb; clear hb ho17; obtain ⟨Ao18, co18, eo18⟩ := Kd.R_slice HO513.out; subst eo18) | ((with_reducible refine gate_callee (f := 57) rfl ?_); refine gl_ (some 14) Try.func57 #[.pointer (some ⟨g, 0, none⟩), .slice Ao18 y511.length co18] rfl rfl rfl ?_; (with_reducible refine (spec_l1Cur_among.calls g s0_0 t508 t509 _ _ y511 t514 t515 t516 w0 _ ?side1 ?side2 ?side3 ?side4 ?side5 A8.out).mono ?_); (case side1 => exact IsS76.q HI0); (case side2 => exact hbI_ HB (IsS76.ge HI0.out)); (case side3 => exact Kd.C_o HO513); (case side4 => exact (Kd.R_reads' HO513.out).2.1); (case side5 => exact far_slice (IsS76.own_ne HI0.out HO513.out (by decide))); rintro e w19 ⟨rfl, hi, hb, hk⟩; refine ⟨_, rfl, ?_⟩; have n0_ := IsS76.rk HI0 HO513 hk; have n1_ := Aside0.mk (KeepBut.trans (hk_ HK) hk (.inl rfl)); have n2_ := Aside0.mk (hb); have n3_ := Aside0.mk (hi); clear HO513 HK HB HI0; have HO513 := n0_; have HK := n1_; have HB := n2_; have HI0 := n3_; clear n0_ n1_ n2_ n3_; (try clear hb); (try clear hb2); (try clear hk); (try clear hi)))
   go_ret
   exact ⟨by first | rfl | (simp [errW_none, errW_some] <;> rfl) | (simp [*, errW_none, errW_some] <;> rfl), IsS76.q HI0, hbI_ HB (IsS76.ge HI0.out), hk_ HK⟩
  ·replace c6 := Bool.eq_false_iff.mpr c6
   subst c6
   have H1 : ((spec_grCount.f a1_0 a1_1 a1_2).bind fun t517 => ((spec_l1Cur_pick.f s0_0 t508 t509 t517).bind fun bt518 => (some (bt518.1, bt518.2.1, bt518.2.2)))) = some (r1, r2, r3) := by rw [if_neg (show ¬ (false = true) by decide)] at H; exact H
   clear H
   have H := H1
   clear H1
   replace H := Option.bind_eq_some_iff.mp H
   obtain ⟨t517, A200, H⟩ := H
   replace H : ((spec_l1Cur_pick.f s0_0 t508 t509 t517).bind fun bt518 => (some (bt518.1, bt518.2.1, bt518.2.2))) = some (r1, r2, r3) := H
   have A20 := Aside0.mk A200
   clear A200
   replace H := Option.bind_eq_some_iff.mp H
   obtain ⟨⟨t518, t519, t520⟩, A210, H⟩ := H
   replace H : (some (t518, t519, t520)) = some (r1, r2, r3) := H
   have A21 := Aside0.mk A210
   clear A210
   simp only [Option.some.injEq, Prod.mk.injEq] at H
   obtain ⟨rfl, rfl, rfl⟩ := H
   go_enter Try.func59, Try.ntmps59
   go_wp2_with (first | ((with_reducible refine gate_dst (N := 3) rfl ?_); refine box_event ?hg (N := 3) ?hd (cs := #[.int .i64 a1_0, .int .i64 a1_1, .int .i64 a1_2]) (t := 28) ?hr ?_; (case hd => rfl); (case hg => rfl); (case hr => first | (go_simp; done) | (go_simp; rfl)); intro gb505 hg w22 hbox hb; have BK505 := Aside0.mk (hbox); have GW505 := Aside0.mk ((by rw [hg]; exact (keep_size (hk_ HK)) : w.heap.size ≤ gb505)); have GE505 := Aside0.mk ((Nat.le_trans HW0.out (by rw [hg]; exact (keep_size (hk_ HK)) : w.heap.size ≤ gb505) : w0.heap.size ≤ gb505)); have NB0_505 := Aside0.mk ((by rw [hg]; exact Nat.ne_of_lt (IsS76.lt (show IsS76 w0 _ g s0_0 s0_1 s0_2 from IsS76.q HI0)) : g ≠ gb505)); have NB505_0 := Aside0.mk ((by rw [hg]; exact Nat.ne_of_gt (IsS76.lt (show IsS76 w0 _ g s0_0 s0_1 s0_2 from IsS76.q HI0)) : gb505 ≠ g)); replace HK := hkb_ HK hb; replace HB := Aside0.mk (below_step (hbI_ HB (IsS76.ge HI0.out)) hb); replace HI0 := IsS76.b HI0 hb; clear hb hbox hg; have hnb23 := NB505_0.out; have hnc23 := NB0_505.out; obtain ⟨hcz24_0, hcz24_1, hcz24_2, hfz24_0, hfz24_1, hfz24_2⟩ := bx3 BK505) | ((with_reducible refine gate_callee (f := 66) rfl ?_); refine gl_ (some 6) Try.func66 #[.agg #[.int .i64 a1_0, .int .i64 a1_1, .int .i64 a1_2]] rfl rfl rfl ?_; (with_reducible refine (spec_grGood.calls a1_0 a1_1 a1_2 true _ A3.out).mono ?_); rintro e w25 ⟨rfl, hb⟩; refine ⟨_, rfl, ?_⟩; replace BK505 := kb_ BK505 hb; replace HK := hkb_ HK hb; replace HB := Aside0.mk (below_step (hbI_ HB (IsS76.ge HI0.out)) hb); replace HI0 := IsS76.b HI0 hb; (try clear hb); (try clear hb2); (try clear hk); (try clear hi)) | ((with_reducible refine gate_callee (f := 73) rfl ?_); refine gl_ (some 9) Try.func73 #[.pointer (some ⟨g, 0, none⟩), .int .i64 24] rfl rfl rfl ?_; (with_reducible refine (spec_l1Cur_one.calls g s0_0 s0_1 s0_2 24 false t508 t509 w0 _ ?side1 ?side2 A5.out).mono ?_); (case side1 => exact IsS76.q HI0); (case side2 => exact hbI_ HB (IsS76.ge HI0.out)); rintro e w26 ⟨rfl, hi, hb, hk⟩; refine ⟨_, rfl, ?_⟩; replace BK505 := kk_ BK505 hk NB505_0; replace HK := Aside0.mk (KeepBut.trans (hk_ HK) hk (.inl rfl)); replace HB := Aside0.mk (hb); replace HI0 := Aside0.mk (hi); (try clear hb); (try clear hb2); (try clear hk); (try clear hi); obtain ⟨hcz27_0, hcz27_1, hcz27_2, hfz27_0, hfz27_1, hfz27_2⟩ := bx3 BK505) | ((with_reducible refine gate_callee (f := 64) rfl ?_); refine gl_ (some 17) Try.func64 #[.agg #[.int .i64 a1_0, .int .i64 a1_1, .int .i64 a1_2]] rfl rfl rfl ?_; (with_reducible refine (spec_grCount.calls a1_0 a1_1 a1_2 t517 _ A20.out).mono ?_); rintro e w28 ⟨rfl, hb⟩; refine ⟨_, rfl, ?_⟩; replace BK505 := kb_ BK505 hb; replace HK := hkb_ HK hb; replace HB := Aside0.mk (below_step (hbI_ HB (IsS76.ge HI0.out)) hb); replace HI0 := IsS76.b HI0 hb; (try clear hb); (try clear hb2); (try clear hk); (try clear hi); try clear BK505; try clear GW505; try clear GE505; try clear NB505_0; try clear NB0_505) | ((with_reducible refine gate_callee (f := 60) rfl ?_); refine gl_ (some 18) Try.func60 #[.pointer (some ⟨g, 0, none⟩), .int .i64 t517] rfl rfl rfl ?_; (with_reducible refine (spec_l1Cur_pick.calls g s0_0 t508 t509 t517 t518 t519 t520 w0 _ ?side1 ?side2 A21.out).mono ?_); (case side1 => exact IsS76.q HI0); (case side2 => exact hbI_ HB (IsS76.ge HI0.out)); rintro e w29 ⟨rfl, hi, hb, hk⟩; refine ⟨_, rfl, ?_⟩; replace HK := Aside0.mk (KeepBut.trans (hk_ HK) hk (.inl rfl)); replace HB := Aside0.mk (hb); replace HI0 := Aside0.mk (hi); (try clear hb); (try clear hb2); (try clear hk); (try clear hi)))
   go_ret
   exact ⟨by first | rfl | (simp [errW_none, errW_some] <;> rfl) | (simp [*, errW_none, errW_some] <;> rfl), IsS76.q HI0, hbI_ HB (IsS76.ge HI0.out), hk_ HK⟩
 ·replace c4 := Bool.eq_false_iff.mpr c4
  subst c4
  have H1 : (some (0, s0_1, s0_2)) = some (r1, r2, r3) := by rw [if_neg (show ¬ (false = true) by decide)] at H; exact H
  clear H
  have H := H1
  clear H1
  simp only [Option.some.injEq, Prod.mk.injEq] at H
  obtain ⟨rfl, rfl, rfl⟩ := H
  go_enter Try.func59, Try.ntmps59
  go_wp2_with (first | ((with_reducible refine gate_dst (N := 3) rfl ?_); refine box_event ?hg (N := 3) ?hd (cs := #[.int .i64 a1_0, .int .i64 a1_1, .int .i64 a1_2]) (t := 28) ?hr ?_; (case hd => rfl); (case hg => rfl); (case hr => first | (go_simp; done) | (go_simp; rfl)); intro gb505 hg w30 hbox hb; have BK505 := Aside0.mk (hbox); have GW505 := Aside0.mk ((by rw [hg]; exact (keep_size (hk_ HK)) : w.heap.size ≤ gb505)); have GE505 := Aside0.mk ((Nat.le_trans HW0.out (by rw [hg]; exact (keep_size (hk_ HK)) : w.heap.size ≤ gb505) : w0.heap.size ≤ gb505)); have NB0_505 := Aside0.mk ((by rw [hg]; exact Nat.ne_of_lt (IsS76.lt (show IsS76 w0 _ g s0_0 s0_1 s0_2 from IsS76.q HI0)) : g ≠ gb505)); have NB505_0 := Aside0.mk ((by rw [hg]; exact Nat.ne_of_gt (IsS76.lt (show IsS76 w0 _ g s0_0 s0_1 s0_2 from IsS76.q HI0)) : gb505 ≠ g)); replace HK := hkb_ HK hb; replace HB := Aside0.mk (below_step (hbI_ HB (IsS76.ge HI0.out)) hb); replace HI0 := IsS76.b HI0 hb; clear hb hbox hg; have hnb31 := NB505_0.out; have hnc31 := NB0_505.out; obtain ⟨hcz32_0, hcz32_1, hcz32_2, hfz32_0, hfz32_1, hfz32_2⟩ := bx3 BK505) | ((with_reducible refine gate_callee (f := 66) rfl ?_); refine gl_ (some 6) Try.func66 #[.agg #[.int .i64 a1_0, .int .i64 a1_1, .int .i64 a1_2]] rfl rfl rfl ?_; (with_reducible refine (spec_grGood.calls a1_0 a1_1 a1_2 false _ A3.out).mono ?_); rintro e w33 ⟨rfl, hb⟩; refine ⟨_, rfl, ?_⟩; replace BK505 := kb_ BK505 hb; replace HK := hkb_ HK hb; replace HB := Aside0.mk (below_step (hbI_ HB (IsS76.ge HI0.out)) hb); replace HI0 := IsS76.b HI0 hb; (try clear hb); (try clear hb2); (try clear hk); (try clear hi)))
  go_ret
  exact ⟨by first | rfl | (simp [errW_none, errW_some] <;> rfl) | (simp [*, errW_none, errW_some] <;> rfl), IsS76.q HI0, hbI_ HB (IsS76.ge HI0.out), hk_ HK⟩

end Go.Proofs.Ytdfjlelbkkaloaa.PFnGrades
