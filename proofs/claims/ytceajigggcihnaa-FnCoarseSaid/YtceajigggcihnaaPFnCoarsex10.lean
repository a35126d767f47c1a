-- Laid for this claim by wip/tools/print2.sh, a changed copy of the kit's print (wip/tools/patch_print.py): not by print.sh.
import Derived.Test.YtceajigggcihnaaPFnCoarsex9
import Derived.Test.YtceajigggcihnaaVFnCoarse
namespace Go.Proofs.Ytceajigggcihnaa.PFnCoarse
open Go.RowKit Go.Proofs.YtceajigggcihnaaW.PrintWords Go.Proofs.YtceajigggcihnaaW.PrintLast Go.Proofs.YtceajigggcihnaaW.PrintMore
attribute [local go_sem] max2_int min2_int max_two min_two max_three min_three max_four min_four
set_option linter.unusedVariables false
set_option linter.unusedSimpArgs false

/-! ### impl_IsGrid: function 104 -/
def impl_IsGrid.f (a0_0 : Int) (a0_1 : Int) (a0_2 : Int) : Option (Bool) := if a0_0 ≥ 1 then (if a0_0 ≤ 8 then (if a0_1 ≥ 1 then (if a0_1 ≤ 6 then (if a0_2 ≥ 1 then (if a0_2 ≤ 5 then (some (decide ((wrap64 ((wrap64 (a0_0 * a0_1)) * a0_2)) ≤ 120))) else (some false)) else (some false)) else (some false)) else (some false)) else (some false)) else (some false)
set_option maxHeartbeats 8000000 in
set_option maxRecDepth 100000 in
theorem impl_IsGrid.calls (a0_0 : Int) (a0_1 : Int) (a0_2 : Int) (r : Bool) (w : World) (h : impl_IsGrid.f a0_0 a0_1 a0_2 = some r) :
  Calls Try.prog 104 #[.agg #[.int .i64 a0_0, .int .i64 a0_1, .int .i64 a0_2]] w fun e w' => e = .returned (.bool r) ∧ Below w.heap.size w w' := by
 have hu32 := Try.underlying32
 have HB := Aside0.mk (Below.refl w.heap.size w)
 have H := h
 unfold impl_IsGrid.f at H
 clear h
 by_cases c2 : a0_0 ≥ 1
 ·rw [if_pos c2] at H
  have c2b0 : decide (1 ≤ a0_0) = true := decide_eq_true c2
  clear c2
  by_cases c3 : a0_0 ≤ 8
  ·rw [if_pos c3] at H
   have c3b0 := decide_eq_true c3
   clear c3
   by_cases c4 : a0_1 ≥ 1
   ·rw [if_pos c4] at H
    have c4b0 : decide (1 ≤ a0_1) = true := decide_eq_true c4
    clear c4
    by_cases c5 : a0_1 ≤ 6
    ·rw [if_pos c5] at H
     have c5b0 := decide_eq_true c5
     clear c5
     by_cases c6 : a0_2 ≥ 1
     ·rw [if_pos c6] at H
      have c6b0 : decide (1 ≤ a0_2) = true := decide_eq_true c6
      clear c6
      by_cases c7 : a0_2 ≤ 5
      ·rw [if_pos c7] at H
       have c7b0 := decide_eq_true c7
       clear c7
       obtain rfl := Option.some.inj H
       go_enter Try.func104, Try.ntmps104
       go_wp2_with (first | ((with_reducible refine gate_dst (N := 1) rfl ?_); refine bv_ 1 (cs := #[.int .i64 a0_0, .int .i64 a0_1, .int .i64 a0_2]) (t := 32) ?_; intro gb282 hg w8 hbox hb; have BK282 := Aside0.mk (hbox); have GW282 := gs_ hg HB; have GE282 := gs_ hg HB; replace HB := hbs_ HB hb; clear hb hbox hg; obtain ⟨hcz9_0, hcz9_1, hcz9_2, hfz9_0, hfz9_1, hfz9_2⟩ := bx3 BK282))
       go_ret
       exact ad_ (hb_ HB)
      rw [if_neg c7] at H
      have c7b0 := decide_eq_false c7
      clear c7
      obtain rfl := Option.some.inj H
      go_enter Try.func104, Try.ntmps104
      go_wp2_with (first | ((with_reducible refine gate_dst (N := 1) rfl ?_); refine bv_ 1 (cs := #[.int .i64 a0_0, .int .i64 a0_1, .int .i64 a0_2]) (t := 32) ?_; intro gb282 hg w10 hbox hb; have BK282 := Aside0.mk (hbox); have GW282 := gs_ hg HB; have GE282 := gs_ hg HB; replace HB := hbs_ HB hb; clear hb hbox hg; obtain ⟨hcz11_0, hcz11_1, hcz11_2, hfz11_0, hfz11_1, hfz11_2⟩ := bx3 BK282))
      go_ret
      exact ad_ (hb_ HB)
     rw [if_neg c6] at H
     have c6b0 : decide (1 ≤ a0_2) = false := decide_eq_false c6
     clear c6
     obtain rfl := Option.some.inj H
     go_enter Try.func104, Try.ntmps104
     go_wp2_with (first | ((with_reducible refine gate_dst (N := 1) rfl ?_); refine bv_ 1 (cs := #[.int .i64 a0_0, .int .i64 a0_1, .int .i64 a0_2]) (t := 32) ?_; intro gb282 hg w12 hbox hb; have BK282 := Aside0.mk (hbox); have GW282 := gs_ hg HB; have GE282 := gs_ hg HB; replace HB := hbs_ HB hb; clear hb hbox hg; obtain ⟨hcz13_0, hcz13_1, hcz13_2, hfz13_0, hfz13_1, hfz13_2⟩ := bx3 BK282))
     go_ret
     exact ad_ (hb_ HB)
    rw [if_neg c5] at H
    have c5b0 := decide_eq_false c5
    clear c5
    obtain rfl := Option.some.inj H
    go_enter Try.func104, Try.ntmps104
    go_wp2_with (first | ((with_reducible refine gate_dst (N := 1) rfl ?_); refine bv_ 1 (cs := #[.int .i64 a0_0, .int .i64 a0_1, .int .i64 a0_2]) (t := 32) ?_; intro gb282 hg w14 hbox hb; have BK282 := Aside0.mk (hbox); have GW282 := gs_ hg HB; have GE282 := gs_ hg HB; replace HB := hbs_ HB hb; clear hb hbox hg; obtain ⟨hcz15_0, hcz15_1, hcz15_2, hfz15_0, hfz15_1, hfz15_2⟩ := bx3 BK282))
    go_ret
    exact ad_ (hb_ HB)
   rw [if_neg c4] at H
   have c4b0 : decide (1 ≤ a0_1) = false := decide_eq_false c4
   clear c4
   obtain rfl := Option.some.inj H
   go_enter Try.func104, Try.ntmps104
   go_wp2_with (first | ((with_reducible refine gate_dst (N := 1) rfl ?_); refine bv_ 1 (cs := #[.int .i64 a0_0, .int .i64 a0_1, .int .i64 a0_2]) (t := 32) ?_; intro gb282 hg w16 hbox hb; have BK282 := Aside0.mk (hbox); have GW282 := gs_ hg HB; have GE282 := gs_ hg HB; replace HB := hbs_ HB hb; clear hb hbox hg; obtain ⟨hcz17_0, hcz17_1, hcz17_2, hfz17_0, hfz17_1, hfz17_2⟩ := bx3 BK282))
   go_ret
   exact ad_ (hb_ HB)
  rw [if_neg c3] at H
  have c3b0 := decide_eq_false c3
  clear c3
  obtain rfl := Option.some.inj H
  go_enter Try.func104, Try.ntmps104
  go_wp2_with (first | ((with_reducible refine gate_dst (N := 1) rfl ?_); refine bv_ 1 (cs := #[.int .i64 a0_0, .int .i64 a0_1, .int .i64 a0_2]) (t := 32) ?_; intro gb282 hg w18 hbox hb; have BK282 := Aside0.mk (hbox); have GW282 := gs_ hg HB; have GE282 := gs_ hg HB; replace HB := hbs_ HB hb; clear hb hbox hg; obtain ⟨hcz19_0, hcz19_1, hcz19_2, hfz19_0, hfz19_1, hfz19_2⟩ := bx3 BK282))
  go_ret
  exact ad_ (hb_ HB)
 rw [if_neg c2] at H
 have c2b0 : decide (1 ≤ a0_0) = false := decide_eq_false c2
 clear c2
 obtain rfl := Option.some.inj H
 go_enter Try.func104, Try.ntmps104
 go_wp2_with (first | ((with_reducible refine gate_dst (N := 1) rfl ?_); refine bv_ 1 (cs := #[.int .i64 a0_0, .int .i64 a0_1, .int .i64 a0_2]) (t := 32) ?_; intro gb282 hg w20 hbox hb; have BK282 := Aside0.mk (hbox); have GW282 := gs_ hg HB; have GE282 := gs_ hg HB; replace HB := hbs_ HB hb; clear hb hbox hg; obtain ⟨hcz21_0, hcz21_1, hcz21_2, hfz21_0, hfz21_1, hfz21_2⟩ := bx3 BK282))
 go_ret
 exact ad_ (hb_ HB)

/-! ### impl_IsModel: function 59 -/
mutual
def impl_IsModel.j0 : Nat → Int → Bool → Int → Int → Int → List Int → List Int → List Int → Option (Bool)
 | 0, _, _, _, _, _, _, _, _ => none
 | k + 1, x3, x30, x284000, x284001, x284002, x284003, x284004, x284005 => if x30 = true then (some false) else (impl_IsModel.l0 k x3 0 x284000 x284001 x284002 x284003 x284004 x284005)
def impl_IsModel.l0 : Nat → Int → Int → Int → Int → Int → List Int → List Int → List Int → Option (Bool)
 | 0, _, _, _, _, _, _, _, _ => none
 | k + 1, x31, x32, x284000, x284001, x284002, x284003, x284004, x284005 => if x32 < x31 then (if 0 ≤ x32 then (if x32 < (x284003.length : Int) then (if (rd x284003 x32) < 0 then (some false) else (if (rd x284003 x32) > 10000 then (some false) else (if x32 < (x284004.length : Int) then (if (rd x284004 x32) < 0 then (some false) else (if (rd x284004 x32) > 1000 then (some false) else (if x32 < (x284005.length : Int) then (if (rd x284005 x32) < 0 then (some false) else (if (rd x284005 x32) > 4 then (some false) else (impl_IsModel.l0 k x31 (wrap64 (x32 + 1)) x284000 x284001 x284002 x284003 x284004 x284005))) else (none)))) else (none)))) else (none)) else (none)) else (some true)
end
def impl_IsModel.f (k : Nat) (a0_0 : Int) (a0_1 : Int) (a0_2 : Int) (l0_3 : List Int) (l0_4 : List Int) (l0_5 : List Int) : Option (Bool) := (impl_IsGrid.f a0_0 a0_1 a0_2).bind fun t284 => (if t284 = true then ((impl_blocksOf.f a0_0 a0_1 a0_2).bind fun t285 => (if (l0_3.length : Int) = t285 then (if (l0_4.length : Int) = t285 then (impl_IsModel.j0 k t285 ((l0_5.length : Int) != t285) a0_0 a0_1 a0_2 l0_3 l0_4 l0_5) else (impl_IsModel.j0 k t285 true a0_0 a0_1 a0_2 l0_3 l0_4 l0_5)) else (impl_IsModel.j0 k t285 true a0_0 a0_1 a0_2 l0_3 l0_4 l0_5))) else (some false))
set_option maxHeartbeats 8000000 in
set_option maxRecDepth 100000 in
theorem impl_IsModel.calls (k : Nat) (a0_0 : Int) (a0_1 : Int) (a0_2 : Int) (A0_3 : Option Addr) (c0_3 : Nat) (l0_3 : List Int) (A0_4 : Option Addr) (c0_4 : Nat) (l0_4 : List Int) (A0_5 : Option Addr) (c0_5 : Nat) (l0_5 : List Int) (r : Bool) (w : World) (hr0_3 : Kd.C (Kd.int .i64) w A0_3 l0_3.length l0_3) (hc0_3 : l0_3.length ≤ c0_3) (hr0_4 : Kd.C (Kd.int .i64) w A0_4 l0_4.length l0_4) (hc0_4 : l0_4.length ≤ c0_4) (hr0_5 : Kd.C (Kd.int .i64) w A0_5 l0_5.length l0_5) (hc0_5 : l0_5.length ≤ c0_5) (h : impl_IsModel.f k a0_0 a0_1 a0_2 l0_3 l0_4 l0_5 = some r) :
  Calls Try.prog 59 #[.agg #[.int .i64 a0_0, .int .i64 a0_1, .int .i64 a0_2, .slice A0_3 l0_3.length c0_3, .slice A0_4 l0_4.length c0_4, .slice A0_5 l0_5.length c0_5]] w fun e w' => e = .returned (.bool r) ∧ Below w.heap.size w w' := by
 have hu34 := Try.underlying34
 have hu32 := Try.underlying32
 have HR0_3 := Aside0.mk hr0_3
 have HC0_3 := Aside0.mk hc0_3
 clear hr0_3 hc0_3
 have HR0_4 := Aside0.mk hr0_4
 have HC0_4 := Aside0.mk hc0_4
 clear hr0_4 hc0_4
 have HR0_5 := Aside0.mk hr0_5
 have HC0_5 := Aside0.mk hc0_5
 clear hr0_5 hc0_5
 have HB := Aside0.mk (Below.refl w.heap.size w)
 have H := h
 unfold impl_IsModel.f at H
 clear h
 replace H := Option.bind_eq_some_iff.mp H
 obtain ⟨t284, A20, H⟩ := H
 try dsimp only at H
 have A2 := Aside0.mk A20
 clear A20
 by_cases c3 : t284 = true
 ·subst c3
  rw [if_pos rfl] at H
  replace H := Option.bind_eq_some_iff.mp H
  obtain ⟨t285, A40, H⟩ := H
  try dsimp only at H
  have A4 := Aside0.mk A40
  clear A40
  have HC5 := Aside0.mk H
  clear H
  go_enter Try.func59, Try.ntmps59
  go_upto_region 4 with (first | ((with_reducible refine gate_dst (N := 1) rfl ?_); (try (refine gate_guard (by rfl) ?_; dsimp only)); refine bv_ 1 (cs := #[.int .i64 a0_0, .int .i64 a0_1, .int .i64 a0_2, .slice A0_3 l0_3.length c0_3, .slice A0_4 l0_4.length c0_4, .slice A0_5 l0_5.length c0_5]) (t := 34) ?_; intro gb283 hg w6 hbox hb; have BK283 := Aside0.mk (hbox); have GW283 := gs_ hg HB; have GE283 := gs_ hg HB; replace HB := hbs_ HB hb; clear hb hbox hg; obtain ⟨hcz7_0, hcz7_1, hcz7_2, hcz7_3, hcz7_4, hcz7_5, hfz7_0, hfz7_1, hfz7_2, hfz7_3, hfz7_4, hfz7_5⟩ := bx6 BK283) | ((with_reducible refine gate_callee (f := 104) rfl ?_); refine gl_ (some 7) Try.func104 #[.agg #[.int .i64 a0_0, .int .i64 a0_1, .int .i64 a0_2]] rfl rfl rfl ?_; (with_reducible refine (impl_IsGrid.calls a0_0 a0_1 a0_2 true _ A2.out).mono ?_); rintro e w8 ⟨rfl, hb⟩; refine ⟨_, rfl, ?_⟩; replace BK283 := kb_ BK283 hb; replace HB := hbs_ HB hb; obtain ⟨hcz9_0, hcz9_1, hcz9_2, hcz9_3, hcz9_4, hcz9_5, hfz9_0, hfz9_1, hfz9_2, hfz9_3, hfz9_4, hfz9_5⟩ := bx6 BK283) | ((with_reducible refine gate_callee (f := 83) rfl ?_); refine gl_ (some 11) Try.func83 #[.agg #[.int .i64 a0_0, .int .i64 a0_1, .int .i64 a0_2]] rfl rfl rfl ?_; (with_reducible refine (impl_blocksOf.calls a0_0 a0_1 a0_2 t285 _ A4.out).mono ?_); rintro e w10 ⟨rfl, hb⟩; refine ⟨_, rfl, ?_⟩; replace BK283 := kb_ BK283 hb; replace HB := hbs_ HB hb))
  (try simp only [Act.put, List.setIfInBounds_toArray, List.set_cons_zero, List.set_cons_succ])
  go_cut [30] (fun v30 wc => ∃ (kq : Nat) (x30_4 : Bool), v30 = .bool x30_4 ∧ Aside0 (impl_IsModel.j0 kq t285 x30_4 a0_0 a0_1 a0_2 l0_3 l0_4 l0_5 = some r) ∧ Aside0 (kq ≤ k) ∧ Aside0 (wc.heap[gb283]? = some (.cells #[.int .i64 a0_0, .int .i64 a0_1, .int .i64 a0_2, (.slice A0_3 l0_3.length c0_3), (.slice A0_4 l0_4.length c0_4), (.slice A0_5 l0_5.length c0_5)] 34 (0, 0))) ∧ Aside0 (Below w.heap.size w wc))
  case first =>
   have H := HC5.out
   clear HC5
   by_cases c11 : (l0_3.length : Int) = t285
   ·rw [if_pos c11] at H
    have c11b0 : ((l0_3.length : Int) == t285) = true := beq_iff_eq.mpr c11
    have c11b1 : ((l0_3.length : Int) != t285) = false := bne_eq_false_iff_eq.mpr c11
    clear c11
    (first | rw [c11b0] | (simp only [i64_w, i32_w]; rw [c11b0]) | skip)
    by_cases c12 : (l0_4.length : Int) = t285
    ·rw [if_pos c12] at H
     have c12b0 : ((l0_4.length : Int) == t285) = true := beq_iff_eq.mpr c12
     have c12b1 : ((l0_4.length : Int) != t285) = false := bne_eq_false_iff_eq.mpr c12
     clear c12
     have H' := Aside0.mk H
     clear H
     obtain ⟨hcz13_0, hcz13_1, hcz13_2, hcz13_3, hcz13_4, hcz13_5, hfz13_0, hfz13_1, hfz13_2, hfz13_3, hfz13_4, hfz13_5⟩ := bx6 BK283
     go_wp2
     go_meet
     case rel => exact ⟨_, (((l0_5.length : Int) != t285)), (by first | rfl | (simp; done) | (simp [*]; done)), H', ⟨by first | omega | exact Nat.le_refl _⟩, ⟨kp_ BK283⟩, ⟨hb_ HB⟩⟩
    rw [if_neg c12] at H
    have c12b0 : ((l0_4.length : Int) == t285) = false := beq_eq_false_iff_ne.mpr c12
    have c12b1 : ((l0_4.length : Int) != t285) = true := bne_iff_ne.mpr c12
    have H' := Aside0.mk H
    clear H
    obtain ⟨hcz14_0, hcz14_1, hcz14_2, hcz14_3, hcz14_4, hcz14_5, hfz14_0, hfz14_1, hfz14_2, hfz14_3, hfz14_4, hfz14_5⟩ := bx6 BK283
    go_wp2
    go_meet
    case rel => exact ⟨_, (true), (by first | rfl | (simp; done) | (simp [*]; done)), H', ⟨by first | omega | exact Nat.le_refl _⟩, ⟨kp_ BK283⟩, ⟨hb_ HB⟩⟩
   rw [if_neg c11] at H
   have c11b0 : ((l0_3.length : Int) == t285) = false := beq_eq_false_iff_ne.mpr c11
   have c11b1 : ((l0_3.length : Int) != t285) = true := bne_iff_ne.mpr c11
   (first | rw [c11b0] | (simp only [i64_w, i32_w]; rw [c11b0]) | skip)
   have H' := Aside0.mk H
   clear H
   obtain ⟨hcz15_0, hcz15_1, hcz15_2, hcz15_3, hcz15_4, hcz15_5, hfz15_0, hfz15_1, hfz15_2, hfz15_3, hfz15_4, hfz15_5⟩ := bx6 BK283
   go_wp2
   go_meet
   case rel => exact ⟨_, (true), (by first | rfl | (simp; done) | (simp [*]; done)), H', ⟨by first | omega | exact Nat.le_refl _⟩, ⟨kp_ BK283⟩, ⟨hb_ HB⟩⟩
  clear HC5
  obtain ⟨kq, x30_4, rfl, HA, HJ4, BK283, HB⟩ := hcut
  cases kq with
  | zero => exact absurd HA.out (by simp [impl_IsModel.j0])
  | succ kj4 => ?_
  have H := HA.out
  clear HA
  simp only [impl_IsModel.j0] at H
  by_cases c16 : x30_4 = true
  ·subst c16
   rw [if_pos rfl] at H
   obtain rfl := Option.some.inj H
   go_wp2
   go_ret
   exact ad_ (hb_ HB)
  replace c16 := Bool.eq_false_iff.mpr c16
  subst c16
  rw [if_neg (show ¬ (false = true) by decide)] at H
  have H' := Aside0.mk H
  clear H
  go_wp2
  go_loopg [32] kj4 (fun kq v32 w' => ∃ (x32_2 : Int), v32 = .int .i64 x32_2 ∧ Aside0 (impl_IsModel.l0 kq t285 x32_2 a0_0 a0_1 a0_2 l0_3 l0_4 l0_5 = some r) ∧ Aside0 (kq ≤ kj4) ∧ Aside0 (w'.heap[gb283]? = some (.cells #[.int .i64 a0_0, .int .i64 a0_1, .int .i64 a0_2, (.slice A0_3 l0_3.length c0_3), (.slice A0_4 l0_4.length c0_4), (.slice A0_5 l0_5.length c0_5)] 34 (0, 0))) ∧ Aside0 (Below w.heap.size w w'))
  case atStart => exact ⟨(0), (by first | rfl | (simp; done) | (simp [*]; done)), H', ⟨Nat.le_refl _⟩, ⟨kp_ BK283⟩, ⟨hb_ HB⟩⟩
  clear H'
  obtain ⟨x32_2, rfl, HA, HK2, BK283, HB⟩ := hrel
  cases gk with
  | zero => exact absurd HA.out (by simp [impl_IsModel.l0])
  | succ k2 => ?_
  have H := HA.out
  clear HA
  simp only [impl_IsModel.l0] at H
  by_cases c17 : x32_2 < t285
  case neg => rw [if_neg c17] at H; have c17b0 := decide_eq_false c17; clear c17; obtain rfl := Option.some.inj H; go_wp2; go_ret; exact ad_ (hb_ HB)
  rw [if_pos c17] at H
  have c17b0 := decide_eq_true c17
  clear c17
  by_cases c18 : 0 ≤ x32_2
  case neg => rw [if_neg c18] at H; exact absurd H (by simp)
  rw [if_pos c18] at H
  have c18b0 := decide_eq_true c18
  clear c18
  by_cases c19 : x32_2 < (l0_3.length : Int)
  case neg => rw [if_neg c19] at H; exact absurd H (by simp)
  rw [if_pos c19] at H
  have c19b0 := decide_eq_true c19
  clear c19
  by_cases c20 : (rd l0_3 x32_2) < 0
  ·rw [if_pos c20] at H
   have c20b0 := decide_eq_true c20
   clear c20
   obtain rfl := Option.some.inj H
   obtain ⟨hcz21_0, hcz21_1, hcz21_2, hcz21_3, hcz21_4, hcz21_5, hfz21_0, hfz21_1, hfz21_2, hfz21_3, hfz21_4, hfz21_5⟩ := bx6 BK283
   obtain ⟨ad286, e286, hx286_0, p286, q286⟩ := ai_ HR0_3.out x32_2
   cases e286
   replace hx286_0 := hc_ HB hx286_0
   go_wp2
   go_ret
   exact ad_ (hb_ HB)
  rw [if_neg c20] at H
  have c20b0 := decide_eq_false c20
  clear c20
  by_cases c22 : (rd l0_3 x32_2) > 10000
  ·rw [if_pos c22] at H
   have c22b0 : decide (10000 < (rd l0_3 x32_2)) = true := decide_eq_true c22
   clear c22
   obtain rfl := Option.some.inj H
   obtain ⟨hcz23_0, hcz23_1, hcz23_2, hcz23_3, hcz23_4, hcz23_5, hfz23_0, hfz23_1, hfz23_2, hfz23_3, hfz23_4, hfz23_5⟩ := bx6 BK283
   obtain ⟨ad286, e286, hx286_0, p286, q286⟩ := ai_ HR0_3.out x32_2
   cases e286
   replace hx286_0 := hc_ HB hx286_0
   obtain ⟨ad287, e287, hx287_0, p287, q287⟩ := ai_ HR0_3.out x32_2
   obtain rfl : ad286 = ad287 := (by injection e287)
   replace hx287_0 := hc_ HB hx287_0
   go_wp2
   go_ret
   exact ad_ (hb_ HB)
  rw [if_neg c22] at H
  have c22b0 : decide (10000 < (rd l0_3 x32_2)) = false := decide_eq_false c22
  clear c22
  by_cases c24 : x32_2 < (l0_4.length : Int)
  case neg => rw [if_neg c24] at H; exact absurd H (by simp)
  rw [if_pos c24] at H
  have c24b0 := decide_eq_true c24
  clear c24
  by_cases c25 : (rd l0_4 x32_2) < 0
  ·rw [if_pos c25] at H
   have c25b0 := decide_eq_true c25
   clear c25
   obtain rfl := Option.some.inj H
   obtain ⟨hcz26_0, hcz26_1, hcz26_2, hcz26_3, hcz26_4, hcz26_5, hfz26_0, hfz26_1, hfz26_2, hfz26_3, hfz26_4, hfz26_5⟩ := bx6 BK283
   obtain ⟨ad286, e286, hx286_0, p286, q286⟩ := ai_ HR0_3.out x32_2
   cases e286
   replace hx286_0 := hc_ HB hx286_0
   obtain ⟨ad287, e287, hx287_0, p287, q287⟩ := ai_ HR0_3.out x32_2
   obtain rfl : ad286 = ad287 := (by injection e287)
   replace hx287_0 := hc_ HB hx287_0
   obtain ⟨ad288, e288, hx288_0, p288, q288⟩ := ai_ HR0_4.out x32_2
   cases e288
   replace hx288_0 := hc_ HB hx288_0
   go_wp2
   go_ret
   exact ad_ (hb_ HB)
  rw [if_neg c25] at H
  have c25b0 := decide_eq_false c25
  clear c25
  by_cases c27 : (rd l0_4 x32_2) > 1000
  ·rw [if_pos c27] at H
   have c27b0 : decide (1000 < (rd l0_4 x32_2)) = true := decide_eq_true c27
   clear c27
   obtain rfl := Option.some.inj H
   obtain ⟨hcz28_0, hcz28_1, hcz28_2, hcz28_3, hcz28_4, hcz28_5, hfz28_0, hfz28_1, hfz28_2, hfz28_3, hfz28_4, hfz28_5⟩ := bx6 BK283
   obtain ⟨ad286, e286, hx286_0, p286, q286⟩ := ai_ HR0_3.out x32_2
   cases e286
   replace hx286_0 := hc_ HB hx286_0
   obtain ⟨ad287, e287, hx287_0, p287, q287⟩ := ai_ HR0_3.out x32_2
   obtain rfl : ad286 = ad287 := (by injection e287)
   replace hx287_0 := hc_ HB hx287_0
   obtain ⟨ad288, e288, hx288_0, p288, q288⟩ := ai_ HR0_4.out x32_2
   cases e288
   replace hx288_0 := hc_ HB hx288_0
   obtain ⟨ad289, e289, hx289_0, p289, q289⟩ := ai_ HR0_4.out x32_2
   obtain rfl : ad288 = ad289 := (by injection e289)
   replace hx289_0 := hc_ HB hx289_0
   go_wp2
   go_ret
   exact ad_ (hb_ HB)
  rw [if_neg c27] at H
  have c27b0 : decide (1000 < (rd l0_4 x32_2)) = false := decide_eq_false c27
  clear c27
  by_cases c29 : x32_2 < (l0_5.length : Int)
  case neg => rw [if_neg c29] at H; exact absurd H (by simp)
  rw [if_pos c29] at H
  have c29b0 := decide_eq_true c29
  clear c29
  by_cases c30 : (rd l0_5 x32_2) < 0
  ·rw [if_pos c30] at H
   have c30b0 := decide_eq_true c30
   clear c30
   obtain rfl := Option.some.inj H
   obtain ⟨hcz31_0, hcz31_1, hcz31_2, hcz31_3, hcz31_4, hcz31_5, hfz31_0, hfz31_1, hfz31_2, hfz31_3, hfz31_4, hfz31_5⟩ := bx6 BK283
   obtain ⟨ad286, e286, hx286_0, p286, q286⟩ := ai_ HR0_3.out x32_2
   cases e286
   replace hx286_0 := hc_ HB hx286_0
   obtain ⟨ad287, e287, hx287_0, p287, q287⟩ := ai_ HR0_3.out x32_2
   obtain rfl : ad286 = ad287 := (by injection e287)
   replace hx287_0 := hc_ HB hx287_0
   obtain ⟨ad288, e288, hx288_0, p288, q288⟩ := ai_ HR0_4.out x32_2
   cases e288
   replace hx288_0 := hc_ HB hx288_0
   obtain ⟨ad289, e289, hx289_0, p289, q289⟩ := ai_ HR0_4.out x32_2
   obtain rfl : ad288 = ad289 := (by injection e289)
   replace hx289_0 := hc_ HB hx289_0
   obtain ⟨ad290, e290, hx290_0, p290, q290⟩ := ai_ HR0_5.out x32_2
   cases e290
   replace hx290_0 := hc_ HB hx290_0
   go_wp2
   go_ret
   exact ad_ (hb_ HB)
  rw [if_neg c30] at H
  have c30b0 := decide_eq_false c30
  clear c30
  by_cases c32 : (rd l0_5 x32_2) > 4
  ·rw [if_pos c32] at H
   have c32b0 : decide (4 < (rd l0_5 x32_2)) = true := decide_eq_true c32
   clear c32
   obtain rfl := Option.some.inj H
   obtain ⟨hcz33_0, hcz33_1, hcz33_2, hcz33_3, hcz33_4, hcz33_5, hfz33_0, hfz33_1, hfz33_2, hfz33_3, hfz33_4, hfz33_5⟩ := bx6 BK283
   obtain ⟨ad286, e286, hx286_0, p286, q286⟩ := ai_ HR0_3.out x32_2
   cases e286
   replace hx286_0 := hc_ HB hx286_0
   obtain ⟨ad287, e287, hx287_0, p287, q287⟩ := ai_ HR0_3.out x32_2
   obtain rfl : ad286 = ad287 := (by injection e287)
   replace hx287_0 := hc_ HB hx287_0
   obtain ⟨ad288, e288, hx288_0, p288, q288⟩ := ai_ HR0_4.out x32_2
   cases e288
   replace hx288_0 := hc_ HB hx288_0
   obtain ⟨ad289, e289, hx289_0, p289, q289⟩ := ai_ HR0_4.out x32_2
   obtain rfl : ad288 = ad289 := (by injection e289)
   replace hx289_0 := hc_ HB hx289_0
   obtain ⟨ad290, e290, hx290_0, p290, q290⟩ := ai_ HR0_5.out x32_2
   cases e290
   replace hx290_0 := hc_ HB hx290_0
   obtain ⟨ad291, e291, hx291_0, p291, q291⟩ := ai_ HR0_5.out x32_2
   obtain rfl : ad290 = ad291 := (by injection e291)
   replace hx291_0 := hc_ HB hx291_0
   go_wp2
   go_ret
   exact ad_ (hb_ HB)
  rw [if_neg c32] at H
  have c32b0 : decide (4 < (rd l0_5 x32_2)) = false := decide_eq_false c32
  clear c32
  have H' := Aside0.mk H
  clear H
  obtain ⟨hcz34_0, hcz34_1, hcz34_2, hcz34_3, hcz34_4, hcz34_5, hfz34_0, hfz34_1, hfz34_2, hfz34_3, hfz34_4, hfz34_5⟩ := bx6 BK283
  obtain ⟨ad286, e286, hx286_0, p286, q286⟩ := ai_ HR0_3.out x32_2
  cases e286
  replace hx286_0 := hc_ HB hx286_0
  obtain ⟨ad287, e287, hx287_0, p287, q287⟩ := ai_ HR0_3.out x32_2
  obtain rfl : ad286 = ad287 := (by injection e287)
  replace hx287_0 := hc_ HB hx287_0
  obtain ⟨ad288, e288, hx288_0, p288, q288⟩ := ai_ HR0_4.out x32_2
  cases e288
  replace hx288_0 := hc_ HB hx288_0
  obtain ⟨ad289, e289, hx289_0, p289, q289⟩ := ai_ HR0_4.out x32_2
  obtain rfl : ad288 = ad289 := (by injection e289)
  replace hx289_0 := hc_ HB hx289_0
  obtain ⟨ad290, e290, hx290_0, p290, q290⟩ := ai_ HR0_5.out x32_2
  cases e290
  replace hx290_0 := hc_ HB hx290_0
  obtain ⟨ad291, e291, hx291_0, p291, q291⟩ := ai_ HR0_5.out x32_2
  obtain rfl : ad290 = ad291 := (by injection e291)
  replace hx291_0 := hc_ HB hx291_0
  go_wp2
  go_roundg k2
  case measure => have := HJ4.out; have := HK2.out; omega
  case rel => exact ⟨(wrap64 (x32_2 + 1)), (by first | rfl | (simp; done) | (simp [*]; done)), H', ⟨by have := HJ4.out; have := HK2.out; omega⟩, ⟨kp_ BK283⟩, ⟨hb_ HB⟩⟩
 replace c3 := Bool.eq_false_iff.mpr c3
 subst c3
 rw [if_neg (show ¬ (false = true) by decide)] at H
 obtain rfl := Option.some.inj H
 go_enter Try.func59, Try.ntmps59
 go_wp2_with (first | ((with_reducible refine gate_dst (N := 1) rfl ?_); (try (refine gate_guard (by rfl) ?_; dsimp only)); refine bv_ 1 (cs := #[.int .i64 a0_0, .int .i64 a0_1, .int .i64 a0_2, .slice A0_3 l0_3.length c0_3, .slice A0_4 l0_4.length c0_4, .slice A0_5 l0_5.length c0_5]) (t := 34) ?_; intro gb283 hg w35 hbox hb; have BK283 := Aside0.mk (hbox); have GW283 := gs_ hg HB; have GE283 := gs_ hg HB; replace HB := hbs_ HB hb; clear hb hbox hg; obtain ⟨hcz36_0, hcz36_1, hcz36_2, hcz36_3, hcz36_4, hcz36_5, hfz36_0, hfz36_1, hfz36_2, hfz36_3, hfz36_4, hfz36_5⟩ := bx6 BK283) | ((with_reducible refine gate_callee (f := 104) rfl ?_); refine gl_ (some 7) Try.func104 #[.agg #[.int .i64 a0_0, .int .i64 a0_1, .int .i64 a0_2]] rfl rfl rfl ?_; (with_reducible refine (impl_IsGrid.calls a0_0 a0_1 a0_2 false _ A2.out).mono ?_); rintro e w37 ⟨rfl, hb⟩; refine ⟨_, rfl, ?_⟩; replace BK283 := kb_ BK283 hb; replace HB := hbs_ HB hb))
 go_ret
 exact ad_ (hb_ HB)

end Go.Proofs.Ytceajigggcihnaa.PFnCoarse
