-- Laid for this claim by wip/tools/print2.sh, a changed copy of the kit's print (wip/tools/patch_print.py): not by print.sh.
import Derived.Test.YtceajigggcihnaaPFnCoarsex5
import Derived.Test.YtceajigggcihnaaVFnCoarse
namespace Go.Proofs.Ytceajigggcihnaa.PFnCoarse
open Go.RowKit Go.Proofs.YtceajigggcihnaaW.PrintWords Go.Proofs.YtceajigggcihnaaW.PrintLast Go.Proofs.YtceajigggcihnaaW.PrintMore
attribute [local go_sem] max2_int min2_int max_two min_two max_three min_three max_four min_four
set_option linter.unusedVariables false
set_option linter.unusedSimpArgs false

/-! ### spec_sbSort: function 75 -/
mutual
def spec_sbSort.l0 : Nat → List (S29) → List Int → List (S29) → Int → Int → Option (List Int)
 | 0, _, _, _, _, _ => none
 | k + 1, x0, x3, x7, x8, x9 => if x9 < x8 then (if 0 ≤ x9 then (if x9 < (x7.length : Int) then (spec_sbSort.l1 k x0 x3 x9 (x3.length : Int) x7 x8 x9 ((rd_T29 x7 x9).f0) ((rd_T29 x7 x9).f1) ((rd_T29 x7 x9).f2)) else (none)) else (none)) else (some x3)
def spec_sbSort.l1 : Nat → List (S29) → List Int → Int → Int → List (S29) → Int → Int → Int → Int → Int → Option (List Int)
 | 0, _, _, _, _, _, _, _, _, _, _ => none
 | k + 1, x0, x3, x4, x6, x7, x8, x9, x160000, x160001, x160002 => if x6 > 0 then (if 0 ≤ (wrap64 (x6 - 1)) then (if (wrap64 (x6 - 1)) < (x3.length : Int) then (if 0 ≤ (rd x3 (wrap64 (x6 - 1))) then (if (rd x3 (wrap64 (x6 - 1))) < (x0.length : Int) then ((spec_sbRicher.f x160000 x160001 x160002 ((rd_T29 x0 (rd x3 (wrap64 (x6 - 1)))).f0) ((rd_T29 x0 (rd x3 (wrap64 (x6 - 1)))).f1) ((rd_T29 x0 (rd x3 (wrap64 (x6 - 1)))).f2)).bind fun t162 => (if t162 = true then (spec_sbSort.l1 k x0 x3 x4 (wrap64 (x6 - 1)) x7 x8 x9 x160000 x160001 x160002) else (if 0 ≤ x6 then (if x6 ≤ (x3.length : Int) then ((spec_l1Own.f (x3.take (x6 : Int).toNat)).bind fun t167 => ((some (([x4] : List Int) : List Int)).bind fun y170 => (if t167.length + y170.length < 17592186044416 then ((some (t167 ++ y170 : List Int)).bind fun y173 => ((some (x3.drop (x6 : Int).toNat : List Int)).bind fun y176 => (if y173.length + y176.length < 17592186044416 then (spec_sbSort.l0 k x0 (y173 ++ y176) x7 x8 (wrap64 (x9 + 1))) else (none)))) else (none)))) else (none)) else (none)))) else (none)) else (none)) else (none)) else (none)) else (if 0 ≤ x6 then (if x6 ≤ (x3.length : Int) then ((spec_l1Own.f (x3.take (x6 : Int).toNat)).bind fun t187 => ((some (([x4] : List Int) : List Int)).bind fun y190 => (if t187.length + y190.length < 17592186044416 then ((some (t187 ++ y190 : List Int)).bind fun y193 => ((some (x3.drop (x6 : Int).toNat : List Int)).bind fun y196 => (if y193.length + y196.length < 17592186044416 then (spec_sbSort.l0 k x0 (y193 ++ y196) x7 x8 (wrap64 (x9 + 1))) else (none)))) else (none)))) else (none)) else (none))
end
def spec_sbSort.f (k : Nat) (l0 : List (S29)) : Option (List Int) := spec_sbSort.l0 k l0 ([] : List Int) l0 (l0.length : Int) 0
def spec_sbSort.T6 : Bool × List (List Nat × List Nat) := (true, [([], []), ([0], [0]), ([1], [1]), ([2], [2]), ([2], [2]), ([2], [2]), ([2], [2]), ([6, 2], [2, 6]), ([5, 7, 2], [2, 5, 7]), ([8, 2], [2, 8]), ([4, 9, 2], [2, 4, 9]), ([10, 2], [2, 10]), ([3, 11, 2, 2], [2, 3, 11]), ([2, 12], [2, 12])])
def spec_sbSort.B6 : List Nat := [0, 1, 3, 7, 7, 7, 7, 71, 231, 487, 1015, 2039, 4095, 8191]
theorem spec_sbSort.tab6 : rtab .any (opsOf Try.f75 6) = spec_sbSort.T6 := by kernel_rfl
theorem spec_sbSort.bits6 : waitsOk spec_sbSort.T6.2 spec_sbSort.B6 = true := by kernel_rfl
def spec_sbSort.T8 : Bool × List (List Nat × List Nat) := (true, [([], []), ([], []), ([0, 1], [0, 1]), ([2], [2]), ([], []), ([4], [4]), ([3, 5, 3], [3, 5]), ([], []), ([], []), ([7, 8], [7, 8]), ([6, 9, 6], [6, 9]), ([10, 10, 0, 1, 2, 3, 4, 5, 6, 7, 8, 9, 10], [0, 7, 10])])
def spec_sbSort.B8 : List Nat := [0, 0, 3, 7, 0, 16, 63, 0, 0, 384, 1023, 2047]
theorem spec_sbSort.tab8 : rtab .any (opsOf Try.f75 8) = spec_sbSort.T8 := by kernel_rfl
theorem spec_sbSort.bits8 : waitsOk spec_sbSort.T8.2 spec_sbSort.B8 = true := by kernel_rfl
set_option maxHeartbeats 8000000 in
set_option maxRecDepth 100000 in
theorem spec_sbSort.calls (k : Nat) (A0 : Option Addr) (c0 : Nat) (l0 : List (S29)) (r : List Int) (w : World) (hr0 : Kd.C k29 w A0 l0.length l0) (hc0 : l0.length ≤ c0) (h : spec_sbSort.f k l0 = some r) :
  Calls Try.prog 75 #[.slice A0 l0.length c0] w fun e w' => ∃ v0_ : Value, e = .returned (v0_) ∧ Kd.R (Kd.int .i64) 3 w' w.heap.size (fun _ => True) v0_ r ∧ Below w.heap.size w w' := by
 have hu29 := Try.underlying29
 have HR0 := Aside0.mk hr0
 have HC0 := Aside0.mk hc0
 clear hr0 hc0
 have HB := Aside0.mk (Below.refl w.heap.size w)
 have H := h
 unfold spec_sbSort.f at H
 clear h
 have H' := Aside0.mk H
 clear H
 go_enter Try.func75, Try.ntmps75
 go_wp2
 go_loopg [3, 9] k (fun kq v3 v9 w' => ∃ (x3_1 : List Int) (x9_1 : Int), v9 = .int .i64 x9_1 ∧ Aside0 (spec_sbSort.l0 kq l0 x3_1 l0 (l0.length : Int) x9_1 = some r) ∧ Aside0 (kq ≤ k) ∧ Aside0 (Kd.R (Kd.int .i64) 3 w' w.heap.size (fun _ => True) v3 x3_1) ∧ Aside0 (Below w.heap.size w w'))
 case atStart => exact ⟨(([] : List Int)), (0), (by first | rfl | (simp; done) | (simp [*]; done)), H', ⟨Nat.le_refl _⟩, ⟨by first | exact Kd.R_nil _ _ _ _ _ | exact Kd.N_nil _ _ _ _ _ | exact Kd.V_nil _ _ _ _ _ | exact Kd.Q_nil _ _ _ _ _ | exact Kd.S_nil _ _ _ _ _⟩, ⟨hb_ HB⟩⟩
 clear H'
 obtain ⟨x3_1, x9_1, rfl, HA, HK1, HO_3, HB⟩ := hrel
 cases gk with
 | zero => exact absurd HA.out (by simp [spec_sbSort.l0])
 | succ k1 => ?_
 have H := HA.out
 clear HA
 simp only [spec_sbSort.l0] at H
 by_cases c2 : x9_1 < (l0.length : Int)
 case neg => rw [if_neg c2] at H; have c2b0 := decide_eq_false c2; clear c2; obtain rfl := Option.some.inj H; go_wp2; go_ret; (exact ⟨_, by first | rfl | (simp [errW_none, errW_some] <;> rfl) | (simp [*, errW_none, errW_some] <;> rfl), Kd.R_p HO_3, hb_ HB⟩)
 rw [if_pos c2] at H
 have c2b0 := decide_eq_true c2
 clear c2
 by_cases c3 : 0 ≤ x9_1
 case neg => rw [if_neg c3] at H; exact absurd H (by simp)
 rw [if_pos c3] at H
 have c3b0 := decide_eq_true c3
 clear c3
 by_cases c4 : x9_1 < (l0.length : Int)
 case neg => rw [if_neg c4] at H; exact absurd H (by simp)
 rw [if_pos c4] at H
 have c4b0 := decide_eq_true c4
 clear c4
 have H' := Aside0.mk H
 clear H
 have p158 : 0 ≤ (x9_1 : Int) := of_decide_eq_true (by first | (with_reducible assumption) | assumption)
 have q158 : x9_1 < (l0.length : Int) := of_decide_eq_true (by first | (with_reducible assumption) | assumption)
 obtain ⟨ad158, e158, hx158_0, hx158_1, hx158_2⟩ := at_T29 HR0.out x9_1 p158 q158
 cases e158
 replace hx158_0 := hc_ HB hx158_0
 replace hx158_1 := hc_ HB hx158_1
 replace hx158_2 := hc_ HB hx158_2
 replace p158 := eq_true p158
 replace q158 := eq_true q158
 go_wp2_with (first | ((with_reducible refine gate_dst (N := 5) rfl ?_); refine bv_ 5 (cs := #[.int .i64 0, .int .i64 0, .int .i64 0]) (t := 29) ?_; intro gb159 hg w5 hbox hb; have BK159 := Aside0.mk (hbox); have GW159 := gs_ hg HB; have GE159 := gs_ hg HB; replace HO_3 := Kd.R_b HO_3 hb; replace HB := hbs_ HB hb; clear hb hbox hg; obtain ⟨hcz6_0, hcz6_1, hcz6_2, hfz6_0, hfz6_1, hfz6_2⟩ := bx3 BK159; obtain ⟨Ao7, co7, eo7⟩ := Kd.R_slice HO_3.out; subst eo7))
 go_loopg [6] k1 (fun kq v6 w' => ∃ (x6_2 : Int), v6 = .int .i64 x6_2 ∧ Aside0 (spec_sbSort.l1 kq l0 x3_1 x9_1 x6_2 l0 (l0.length : Int) x9_1 ((rd_T29 l0 x9_1).f0) ((rd_T29 l0 x9_1).f1) ((rd_T29 l0 x9_1).f2) = some r) ∧ Aside0 (kq ≤ k1) ∧ Aside0 (Kd.R (Kd.int .i64) 3 w' w.heap.size (fun _ => True) (.slice Ao7 x3_1.length co7) x3_1) ∧ Aside0 (w'.heap[gb159]? = some (.cells #[.int .i64 ((rd_T29 l0 x9_1).f0), .int .i64 ((rd_T29 l0 x9_1).f1), .int .i64 ((rd_T29 l0 x9_1).f2)] 29 (0, 0))) ∧ Aside0 (Below w.heap.size w w'))
 case atStart => exact ⟨((x3_1.length : Int)), (by first | rfl | (simp; done) | (simp [*]; done)), H', ⟨Nat.le_refl _⟩, ⟨Kd.R_mono (Kd.R_s HO_3 BK159) (fun _ hk => trivial)⟩, ⟨kpq_ (kputs BK159 [(0, _), (1, _), (2, _)])⟩, ⟨hb_ HB⟩⟩
 clear H'
 obtain ⟨x6_2, rfl, HA, HK2, HO_3, BK159, HB⟩ := hrel
 cases gk with
 | zero => exact absurd HA.out (by simp [spec_sbSort.l1])
 | succ k2 => ?_
 have H := HA.out
 clear HA
 simp only [spec_sbSort.l1] at H
 by_cases c8 : x6_2 > 0
 ·rw [if_pos c8] at H
  have c8b0 : decide (0 < x6_2) = true := decide_eq_true c8
  clear c8
  obtain ⟨ji9, hji9⟩ : ∃ j_ : Int, (wrap64 (x6_2 - 1)) = j_ := ⟨_, rfl⟩
  replace H : (if 0 ≤ (ji9) then (if (ji9) < (x3_1.length : Int) then (if 0 ≤ (rd x3_1 (ji9)) then (if (rd x3_1 (ji9)) < (l0.length : Int) then ((spec_sbRicher.f ((rd_T29 l0 x9_1).f0) ((rd_T29 l0 x9_1).f1) ((rd_T29 l0 x9_1).f2) ((rd_T29 l0 (rd x3_1 (ji9))).f0) ((rd_T29 l0 (rd x3_1 (ji9))).f1) ((rd_T29 l0 (rd x3_1 (ji9))).f2)).bind fun t162 => (if t162 = true then (spec_sbSort.l1 k2 l0 x3_1 x9_1 ji9 l0 (l0.length : Int) x9_1 ((rd_T29 l0 x9_1).f0) ((rd_T29 l0 x9_1).f1) ((rd_T29 l0 x9_1).f2)) else (if 0 ≤ x6_2 then (if x6_2 ≤ (x3_1.length : Int) then ((spec_l1Own.f (x3_1.take (x6_2 : Int).toNat)).bind fun t167 => ((some (([x9_1] : List Int) : List Int)).bind fun y170 => (if t167.length + y170.length < 17592186044416 then ((some (t167 ++ y170 : List Int)).bind fun y173 => ((some (x3_1.drop (x6_2 : Int).toNat : List Int)).bind fun y176 => (if y173.length + y176.length < 17592186044416 then (spec_sbSort.l0 k2 l0 (y173 ++ y176) l0 (l0.length : Int) (wrap64 (x9_1 + 1))) else (none)))) else (none)))) else (none)) else (none)))) else (none)) else (none)) else (none)) else (none)) = some r := by first | (rw [hji9] at H; exact H) | (simp only [hji9] at H ⊢; exact H)
  have hji9w : (IntKind.i64.wrap (x6_2 - 1)) = ji9 := (i64_w _).trans hji9
  by_cases c10 : 0 ≤ (ji9)
  case neg => rw [if_neg c10] at H; exact absurd H (by simp)
  rw [if_pos c10] at H
  have c10b0 := decide_eq_true c10
  clear c10
  by_cases c11 : (ji9) < (x3_1.length : Int)
  case neg => rw [if_neg c11] at H; exact absurd H (by simp)
  rw [if_pos c11] at H
  have c11b0 := decide_eq_true c11
  clear c11
  by_cases c12 : 0 ≤ (rd x3_1 (ji9))
  case neg => rw [if_neg c12] at H; exact absurd H (by simp)
  rw [if_pos c12] at H
  have c12b0 := decide_eq_true c12
  clear c12
  by_cases c13 : (rd x3_1 (ji9)) < (l0.length : Int)
  case neg => rw [if_neg c13] at H; exact absurd H (by simp)
  rw [if_pos c13] at H
  have c13b0 := decide_eq_true c13
  clear c13
  replace H := Option.bind_eq_some_iff.mp H
  obtain ⟨t162, A140, H⟩ := H
  try dsimp only at H
  have A14 := Aside0.mk A140
  clear A140
  by_cases c15 : t162 = true
  ·subst c15
   rw [if_pos rfl] at H
   have H' := Aside0.mk H
   clear H
   try go_wp2
   replace HO_3 := Aside0.mk (Kd.R_drew HO_3.out)
   replace BK159 := Aside0.mk (blk_drew BK159.out)
   replace HB := Aside0.mk (below_drew1 HB.out)
   obtain ⟨ad160, e160, hx160_0, p160, q160⟩ := ai_ (Kd.R_reads' HO_3.out).2.2 (ji9)
   cases e160
   have p161 : 0 ≤ ((rd x3_1 (ji9)) : Int) := of_decide_eq_true (by first | (with_reducible assumption) | assumption)
   have q161 : (rd x3_1 (ji9)) < (l0.length : Int) := of_decide_eq_true (by first | (with_reducible assumption) | assumption)
   obtain ⟨ad161, e161, hx161_0, hx161_1, hx161_2⟩ := at_T29 HR0.out (rd x3_1 (ji9)) p161 q161
   have hw161_2 := hx161_2
   have hw161_1 := hx161_1
   have hw161_0 := hx161_0
   obtain rfl : ad158 = ad161 := (by injection e161)
   replace hx161_0 := hc_ HB hx161_0
   replace hx161_1 := hc_ HB hx161_1
   replace hx161_2 := hc_ HB hx161_2
   replace p161 := eq_true p161
   replace q161 := eq_true q161
   refine start_ (n := 14) (S := fun w' => w'.cell? ⟨gb159, 0, none⟩ = some (.int .i64 ((rd_T29 l0 x9_1).f0)) ∧ w'.cell? ⟨gb159, 1, none⟩ = some (.int .i64 ((rd_T29 l0 x9_1).f1)) ∧ w'.cell? ⟨gb159, 2, none⟩ = some (.int .i64 ((rd_T29 l0 x9_1).f2)) ∧ w'.cell? (ad160.add ((ji9)).toNat) = some (.int .i64 (rd x3_1 (ji9))) ∧ w'.cell? (ad158.add (((rd x3_1 (ji9))).toNat * 3)) = some (.int .i64 ((rd_T29 l0 (rd x3_1 (ji9))).f0)) ∧ w'.cell? ⟨(ad158.add (((rd x3_1 (ji9))).toNat * 3)).block, (ad158.add (((rd x3_1 (ji9))).toNat * 3)).off + 1, none⟩ = some (.int .i64 ((rd_T29 l0 (rd x3_1 (ji9))).f1)) ∧ w'.cell? ⟨(ad158.add (((rd x3_1 (ji9))).toNat * 3)).block, (ad158.add (((rd x3_1 (ji9))).toNat * 3)).off + 2, none⟩ = some (.int .i64 ((rd_T29 l0 (rd x3_1 (ji9))).f2))) (ds := []) (bb 14 0) (by kernel_rfl) rfl rfl ⟨(blk_cell BK159.out 0).trans rfl, (blk_cell BK159.out 1).trans rfl, (blk_cell BK159.out 2).trans rfl, hx160_0, ((HB.out.cell (World.block_lt_of_cell? w _ hw161_0)).trans hw161_0), ((HB.out.cell (World.block_lt_of_cell? w _ hw161_1)).trans hw161_1), ((HB.out.cell (World.block_lt_of_cell? w _ hw161_2)).trans hw161_2)⟩ (fun hHeld => ?_); refine with_tabW spec_sbSort.tab6 spec_sbSort.bits6 (fun HT_ HW_ => ?_)
   generalize wr.drew = w16 at HO_3 BK159 HB hx160_0 hx161_0 hx161_1 hx161_2 hHeld ⊢
   refine pl_ HT_ 0 (some 16) (bb 14 1) (h := ?_)
   refine pl_ HT_ 1 (some 17) (bb 14 3) (h := ?_)
   refine pl_ HT_ 2 (some 18) (bb 14 7) (h := ?_)
   refine pl_ HT_ 4 (some 20) (bb 14 23) (h := ?_)
   refine pl_ HT_ 5 (some 21) (bb 14 55) (h := ?_)
   refine pl_ HT_ 6 (some 22) (bb 14 119) (h := ?_)
   refine pl_ HT_ 7 (some 23) (bb 14 247) (h := ?_)
   refine pl_ HT_ 8 (some 24) (bb 14 503) (h := ?_)
   refine tk_ HT_ HW_ hHeld 3 (some 19) (bb 14 511) (h := ?_)
   refine tk_ HT_ HW_ hHeld 9 (some 25) (bb 14 1023) (h := ?_)
   refine pl_ HT_ 10 (some 26) (bb 14 2047) (h := ?_)
   refine tk_ HT_ HW_ hHeld 11 (some 27) (bb 14 4095) (h := ?_)
   refine one_ (i := 12) (N := some 28) (bb 14 8191) rfl rfl (one_of HT_.out (by kernel_rfl)) (by decide) (fun K hK => ?_)
   refine goes_ Try.func107 (by kernel_rfl) rfl #[.agg #[.int .i64 ((rd_T29 l0 x9_1).f0), .int .i64 ((rd_T29 l0 x9_1).f1), .int .i64 ((rd_T29 l0 x9_1).f2)], .agg #[.int .i64 ((rd_T29 l0 (rd x3_1 (ji9))).f0), .int .i64 ((rd_T29 l0 (rd x3_1 (ji9))).f1), .int .i64 ((rd_T29 l0 (rd x3_1 (ji9))).f2)]] (by rfl) rfl rfl (by (try simp only [List.map_toArray, List.map_cons, List.map_nil]); first | done | (simp only [hji9]; rfl) | rfl | (simp only [List.length_drop, List.length_take]; rfl)) ?_
   with_reducible refine (spec_sbRicher.calls ((rd_T29 l0 x9_1).f0) ((rd_T29 l0 x9_1).f1) ((rd_T29 l0 x9_1).f2) ((rd_T29 l0 (rd x3_1 (ji9))).f0) ((rd_T29 l0 (rd x3_1 (ji9))).f1) ((rd_T29 l0 (rd x3_1 (ji9))).f2) true _ A14.out).mono ?_
   rintro e w17 ⟨rfl, hb⟩
   have HS3_ := (hb.cell (World.block_lt_of_cell? _ _ (hHeld.2.2.2.1))).trans (hHeld.2.2.2.1)
   refine ⟨_, rfl, ?_⟩
   replace HO_3 := Aside0.mk (Kd.R_below (Kd.R_p HO_3) hb)
   replace BK159 := Aside0.mk (blk_below (kp_ BK159) hb)
   replace HB := Aside0.mk (below_step (hb_ HB) hb)
   refine hK.out _ _ ⟨(blk_cell BK159.out 0).trans rfl, (blk_cell BK159.out 1).trans rfl, (blk_cell BK159.out 2).trans rfl, HS3_, ((HB.out.cell (World.block_lt_of_cell? w _ hw161_0)).trans hw161_0), ((HB.out.cell (World.block_lt_of_cell? w _ hw161_1)).trans hw161_1), ((HB.out.cell (World.block_lt_of_cell? w _ hw161_2)).trans hw161_2)⟩ (fun hHeld => ?_)
   clear hK K
   refine nm_ (some 28) (h := ?_)
   refine pl_ HT_ 13 (some 29) (bb 14 16383) (h := ?_)
   refine done_ (done_of HT_.out (by kernel_rfl)) ?_
   try go_wp2
   go_roundg k2
   case measure => have := HK1.out; have := HK2.out; omega
   case rel => exact ⟨(ji9), (by first | rfl | (simp; done) | (simp only [← hji9] <;> (first | rfl | simp)) | (simp [*]; done)), H', ⟨by have := HK1.out; have := HK2.out; omega⟩, ⟨Kd.R_p HO_3⟩, ⟨kp_ BK159⟩, ⟨hb_ HB⟩⟩
  replace c15 := Bool.eq_false_iff.mpr c15
  subst c15
  rw [if_neg (show ¬ (false = true) by decide)] at H
  by_cases c18 : 0 ≤ x6_2
  case neg => rw [if_neg c18] at H; exact absurd H (by simp)
  rw [if_pos c18] at H
  have c18b0 := eq_true c18
  have c18b1 := decide_eq_true c18
  clear c18
  by_cases c19 : x6_2 ≤ (x3_1.length : Int)
  case neg => rw [if_neg c19] at H; exact absurd H (by simp)
  rw [if_pos c19] at H
  have c19b0 := eq_true c19
  have c19b1 := decide_eq_true c19
  clear c19
  obtain ⟨y163, hy163⟩ : ∃ y_ : List Int, y_ = (x3_1.take (x6_2 : Int).toNat) := ⟨_, rfl⟩
  (try with_reducible replace H := (Option.bind_some _ _).symm.trans H); (try dsimp only at H); (try rw [← hy163] at H)
  have Ny163 := Aside0.mk hy163
  clear hy163
  replace H := Option.bind_eq_some_iff.mp H
  obtain ⟨t167, A200, H⟩ := H
  try dsimp only at H
  have A20 := Aside0.mk A200
  clear A200
  obtain ⟨y170, hy170⟩ : ∃ y_ : List Int, y_ = (([x9_1] : List Int)) := ⟨_, rfl⟩
  (try with_reducible replace H := (Option.bind_some _ _).symm.trans H); (try dsimp only at H); (try rw [← hy170] at H)
  have Ny170 := Aside0.mk hy170
  clear hy170
  by_cases c21 : t167.length + y170.length < 17592186044416
  case neg => rw [if_neg c21] at H; exact absurd H (by simp)
  rw [if_pos c21] at H
  have LMc21 := Aside0.mk c21
  clear c21
  obtain ⟨y173, hy173⟩ : ∃ y_ : List Int, y_ = (t167 ++ y170) := ⟨_, rfl⟩
  (try with_reducible replace H := (Option.bind_some _ _).symm.trans H); (try dsimp only at H); (try rw [← hy173] at H)
  have Ny173 := Aside0.mk hy173
  clear hy173
  have c22b0 := eq_true (of_decide_eq_true (by first | (with_reducible assumption) | assumption) : 0 ≤ x6_2)
  have c23b0 := eq_true (of_decide_eq_true (by first | (with_reducible assumption) | assumption) : x6_2 ≤ (x3_1.length : Int))
  obtain ⟨y176, hy176⟩ : ∃ y_ : List Int, y_ = (x3_1.drop (x6_2 : Int).toNat) := ⟨_, rfl⟩
  (try with_reducible replace H := (Option.bind_some _ _).symm.trans H); (try dsimp only at H); (try rw [← hy176] at H)
  have Ny176 := Aside0.mk hy176
  clear hy176
  by_cases c24 : y173.length + y176.length < 17592186044416
  case neg => rw [if_neg c24] at H; exact absurd H (by simp)
  rw [if_pos c24] at H
  have LMc24 := Aside0.mk c24
  clear c24
  obtain ⟨y180, hy180⟩ : ∃ y_ : List Int, y_ = (y173 ++ y176) := ⟨_, rfl⟩
  (try with_reducible replace H := (Option.bind_some _ _).symm.trans H); (try dsimp only at H); (try rw [← hy180] at H)
  have Ny180 := Aside0.mk hy180
  clear hy180
  have H' := Aside0.mk H
  clear H
  try go_wp2
  replace HO_3 := Aside0.mk (Kd.R_drew HO_3.out)
  replace BK159 := Aside0.mk (blk_drew BK159.out)
  replace HB := Aside0.mk (below_drew1 HB.out)
  obtain ⟨ad160, e160, hx160_0, p160, q160⟩ := ai_ (Kd.R_reads' HO_3.out).2.2 (ji9)
  cases e160
  have p161 : 0 ≤ ((rd x3_1 (ji9)) : Int) := of_decide_eq_true (by first | (with_reducible assumption) | assumption)
  have q161 : (rd x3_1 (ji9)) < (l0.length : Int) := of_decide_eq_true (by first | (with_reducible assumption) | assumption)
  obtain ⟨ad161, e161, hx161_0, hx161_1, hx161_2⟩ := at_T29 HR0.out (rd x3_1 (ji9)) p161 q161
  have hw161_2 := hx161_2
  have hw161_1 := hx161_1
  have hw161_0 := hx161_0
  obtain rfl : ad158 = ad161 := (by injection e161)
  replace hx161_0 := hc_ HB hx161_0
  replace hx161_1 := hc_ HB hx161_1
  replace hx161_2 := hc_ HB hx161_2
  replace p161 := eq_true p161
  replace q161 := eq_true q161
  refine start_ (n := 14) (S := fun w' => w'.cell? ⟨gb159, 0, none⟩ = some (.int .i64 ((rd_T29 l0 x9_1).f0)) ∧ w'.cell? ⟨gb159, 1, none⟩ = some (.int .i64 ((rd_T29 l0 x9_1).f1)) ∧ w'.cell? ⟨gb159, 2, none⟩ = some (.int .i64 ((rd_T29 l0 x9_1).f2)) ∧ w'.cell? (ad160.add ((ji9)).toNat) = some (.int .i64 (rd x3_1 (ji9))) ∧ w'.cell? (ad158.add (((rd x3_1 (ji9))).toNat * 3)) = some (.int .i64 ((rd_T29 l0 (rd x3_1 (ji9))).f0)) ∧ w'.cell? ⟨(ad158.add (((rd x3_1 (ji9))).toNat * 3)).block, (ad158.add (((rd x3_1 (ji9))).toNat * 3)).off + 1, none⟩ = some (.int .i64 ((rd_T29 l0 (rd x3_1 (ji9))).f1)) ∧ w'.cell? ⟨(ad158.add (((rd x3_1 (ji9))).toNat * 3)).block, (ad158.add (((rd x3_1 (ji9))).toNat * 3)).off + 2, none⟩ = some (.int .i64 ((rd_T29 l0 (rd x3_1 (ji9))).f2))) (ds := []) (bb 14 0) (by kernel_rfl) rfl rfl ⟨(blk_cell BK159.out 0).trans rfl, (blk_cell BK159.out 1).trans rfl, (blk_cell BK159.out 2).trans rfl, hx160_0, ((HB.out.cell (World.block_lt_of_cell? w _ hw161_0)).trans hw161_0), ((HB.out.cell (World.block_lt_of_cell? w _ hw161_1)).trans hw161_1), ((HB.out.cell (World.block_lt_of_cell? w _ hw161_2)).trans hw161_2)⟩ (fun hHeld => ?_); refine with_tabW spec_sbSort.tab6 spec_sbSort.bits6 (fun HT_ HW_ => ?_)
  generalize wr.drew = w25 at HO_3 BK159 HB hx160_0 hx161_0 hx161_1 hx161_2 hHeld ⊢
  refine pl_ HT_ 0 (some 16) (bb 14 1) (h := ?_)
  refine pl_ HT_ 1 (some 17) (bb 14 3) (h := ?_)
  refine pl_ HT_ 2 (some 18) (bb 14 7) (h := ?_)
  refine pl_ HT_ 4 (some 20) (bb 14 23) (h := ?_)
  refine pl_ HT_ 5 (some 21) (bb 14 55) (h := ?_)
  refine pl_ HT_ 6 (some 22) (bb 14 119) (h := ?_)
  refine pl_ HT_ 7 (some 23) (bb 14 247) (h := ?_)
  refine pl_ HT_ 8 (some 24) (bb 14 503) (h := ?_)
  refine tk_ HT_ HW_ hHeld 3 (some 19) (bb 14 511) (h := ?_)
  refine tk_ HT_ HW_ hHeld 9 (some 25) (bb 14 1023) (h := ?_)
  refine pl_ HT_ 10 (some 26) (bb 14 2047) (h := ?_)
  refine tk_ HT_ HW_ hHeld 11 (some 27) (bb 14 4095) (h := ?_)
  refine one_ (i := 12) (N := some 28) (bb 14 8191) rfl rfl (one_of HT_.out (by kernel_rfl)) (by decide) (fun K hK => ?_)
  refine goes_ Try.func107 (by kernel_rfl) rfl #[.agg #[.int .i64 ((rd_T29 l0 x9_1).f0), .int .i64 ((rd_T29 l0 x9_1).f1), .int .i64 ((rd_T29 l0 x9_1).f2)], .agg #[.int .i64 ((rd_T29 l0 (rd x3_1 (ji9))).f0), .int .i64 ((rd_T29 l0 (rd x3_1 (ji9))).f1), .int .i64 ((rd_T29 l0 (rd x3_1 (ji9))).f2)]] (by rfl) rfl rfl (by (try simp only [List.map_toArray, List.map_cons, List.map_nil]); first | done | (simp only [hji9]; rfl) | rfl | (simp only [List.length_drop, List.length_take]; rfl)) ?_
  with_reducible refine (spec_sbRicher.calls ((rd_T29 l0 x9_1).f0) ((rd_T29 l0 x9_1).f1) ((rd_T29 l0 x9_1).f2) ((rd_T29 l0 (rd x3_1 (ji9))).f0) ((rd_T29 l0 (rd x3_1 (ji9))).f1) ((rd_T29 l0 (rd x3_1 (ji9))).f2) false _ A14.out).mono ?_
  rintro e w26 ⟨rfl, hb⟩
  have HS3_ := (hb.cell (World.block_lt_of_cell? _ _ (hHeld.2.2.2.1))).trans (hHeld.2.2.2.1)
  refine ⟨_, rfl, ?_⟩
  replace HO_3 := Aside0.mk (Kd.R_below (Kd.R_p HO_3) hb)
  replace BK159 := Aside0.mk (blk_below (kp_ BK159) hb)
  replace HB := Aside0.mk (below_step (hb_ HB) hb)
  refine hK.out _ _ ⟨(blk_cell BK159.out 0).trans rfl, (blk_cell BK159.out 1).trans rfl, (blk_cell BK159.out 2).trans rfl, HS3_, ((HB.out.cell (World.block_lt_of_cell? w _ hw161_0)).trans hw161_0), ((HB.out.cell (World.block_lt_of_cell? w _ hw161_1)).trans hw161_1), ((HB.out.cell (World.block_lt_of_cell? w _ hw161_2)).trans hw161_2)⟩ (fun hHeld => ?_)
  clear hK K
  refine nm_ (some 28) (h := ?_)
  refine pl_ HT_ 13 (some 29) (bb 14 16383) (h := ?_)
  refine done_ (done_of HT_.out (by kernel_rfl)) ?_
  try go_wp2
  replace HO_3 := Aside0.mk (Kd.R_drew HO_3.out)
  replace BK159 := Aside0.mk (blk_drew BK159.out)
  replace HB := Aside0.mk (below_drew1 HB.out)
  have q28 : (x6_2 : Int) ≤ ((x3_1.length : Int) : Int) := of_decide_eq_true (by first | (with_reducible assumption) | assumption)
  obtain ⟨i028, hi028, _, hsz28, _⟩ := info_parts info3
  have hroom28 : x3_1.length ≤ co7 := (Kd.R_reads' HO_3.out).2.1
  have hC28 : Kd.C (Kd.int .i64) _ (some ad160) x3_1.length x3_1 := (Kd.R_reads' HO_3.out).2.2
  have hcut28 := cut_to (P := Try.prog) 24 3 .i64 Try.underlying24 hi028 (some ad160) x3_1.length co7 x6_2 (of_decide_eq_true (by first | (with_reducible assumption) | assumption)) q28 hroom28
  have hr28 := Kd.C_take (m := (x6_2 : Int).toNat) hC28 (by omega)
  have hy28 : y163.length = (x6_2 : Int).toNat := (by rw [Ny163.out, List.length_take]; omega)
  rw [← Ny163.out] at hr28
  rw [← hy28] at hcut28
  have HR166 := Aside0.mk hr28
  have HC166 := Aside0.mk (show y163.length ≤ co7 from by omega)
  clear hr28 hC28 hroom28 hi028 hsz28
  have KY28 := Aside0.mk hy28
  clear hy28
  have KL28 := Aside0.mk (show (x6_2 : Int).toNat ≤ x3_1.length from by omega)
  replace q28 := eq_true q28
  have q29 : (x6_2 : Int) ≤ ((x3_1.length : Int) : Int) := of_decide_eq_true (by first | (with_reducible assumption) | assumption)
  obtain ⟨i029, hi029, _, hsz29, _⟩ := info_parts info3
  have hroom29 : x3_1.length ≤ co7 := (Kd.R_reads' HO_3.out).2.1
  have hC29 : Kd.C (Kd.int .i64) _ (some ad160) x3_1.length x3_1 := (Kd.R_reads' HO_3.out).2.2
  have q029 : (0 : Int) ≤ (x6_2 : Int) := of_decide_eq_true (by first | (with_reducible assumption) | assumption)
  have hcut29 := cut_from (P := Try.prog) 24 3 .i64 Try.underlying24 hi029 1 hsz29 (some ad160) x3_1.length co7 x6_2 q029 q29
  have hr29 := Kd.C_drop (m := (x6_2 : Int).toNat) (c := co7) hC29 (by omega) hroom29
  obtain ⟨A29, hA29⟩ : ∃ A1, A1 = (if co7 = (x6_2 : Int).toNat then (some ad160) else ((some ad160) : Option Addr).map (·.add ((x6_2 : Int).toNat * 1))) := ⟨_, rfl⟩
  obtain ⟨c29, hc29⟩ : ∃ c1, c1 = co7 - (x6_2 : Int).toNat := ⟨_, rfl⟩
  have hy29 : y176.length = x3_1.length - (x6_2 : Int).toNat := (by rw [Ny176.out, List.length_drop] <;> omega)
  rw [show (x3_1).drop (x6_2 : Int).toNat = y176 from Ny176.out.symm] at hr29
  replace hr29 : Kd.C (Kd.int .i64) _ A29 y176.length y176 := (by rw [hA29]; exact hr29)
  rw [← hy29, ← hA29, ← hc29] at hcut29
  have HR179 := Aside0.mk hr29
  have HC179 := Aside0.mk (show y176.length ≤ c29 from by rw [hy29, hc29]; exact Nat.sub_le_sub_right hroom29 _)
  clear hr29 hC29 hroom29 hi029 hsz29 hc29
  have KY29 := Aside0.mk hy29
  have KA29 := Aside0.mk hA29
  clear hy29 hA29
  have KL29 := Aside0.mk (show (x6_2 : Int).toNat ≤ x3_1.length from by omega)
  replace q29 := eq_true q29
  refine start_ (n := 12) (S := fun w' => True) (ds := []) (bb 12 0) (by kernel_rfl) rfl rfl trivial (fun hHeld => ?_); refine with_tabW spec_sbSort.tab8 spec_sbSort.bits8 (fun HT_ HW_ => ?_)
  generalize w26.drew = w27 at HO_3 BK159 HB HR166 HR179 hHeld ⊢
  refine pl_ HT_ 0 (some 32) (bb 12 1) (h := ?_)
  refine pl_ HT_ 1 (some 33) (bb 12 3) (h := ?_)
  refine pl_ HT_ 2 (some 34) (bb 12 7) (h := ?_)
  refine pl_ HT_ 4 (some 36) (bb 12 23) (h := ?_)
  refine pl_ HT_ 7 (some 39) (bb 12 151) (h := ?_)
  refine pl_ HT_ 8 (some 40) (bb 12 407) (h := ?_)
  refine pl_ HT_ 9 (some 41) (bb 12 919) (h := ?_)
  refine join_ (σ := Value × Value) 3 (bb 12 959) (fun s_ => [(35, s_.1), (37, s_.2)]) (fun s_ w' => (Kd.R (Kd.int .i64) 3 w' w.heap.size (fun k_ => some k_ ≠ (s_.2 : Value).ownBlock ∧ some k_ ≠ (.slice (some ad160) x3_1.length co7 : Value).ownBlock) s_.1 t167) ∧ (Kd.R (Kd.int .i64) 3 w' w.heap.size (fun k_ => some k_ ≠ (s_.1 : Value).ownBlock ∧ some k_ ≠ (.slice (some ad160) x3_1.length co7 : Value).ownBlock) s_.2 y170) ∧ (Kd.R (Kd.int .i64) 3 w' w.heap.size (fun k_ => some k_ ≠ (s_.1 : Value).ownBlock ∧ some k_ ≠ (s_.2 : Value).ownBlock) (.slice (some ad160) x3_1.length co7) x3_1) ∧ (w'.heap[gb159]? = some (.cells #[.int .i64 ((rd_T29 l0 x9_1).f0), .int .i64 ((rd_T29 l0 x9_1).f1), .int .i64 ((rd_T29 l0 x9_1).f2)] 29 (0, 0))) ∧ (Below w.heap.size w w')) ?_ ?_
  rotate_left
  ·intro hCont
   refine two_ (i := 3) (j := 5) (Ni := some 35) (Nj := some 37) (bb 12 927) (bb 12 951) rfl rfl rfl rfl (two_of HT_.out (by kernel_rfl)) (by decide) (by decide) (fun K hK => ?_) (fun K hK => ?_)
   ·skip
    refine goes_ Try.func108 (by kernel_rfl) rfl #[.slice (some ad160) y163.length co7] (by rfl) rfl rfl (by (try simp only [List.map_toArray, List.map_cons, List.map_nil]); first | done | rfl | (simp only [List.length_drop, List.length_take]; rfl)) ?_
    with_reducible refine (spec_l1Own.calls _ _ y163 t167 _ ?side1 ?side2 A20.out).mono ?_
    (case side1 => repeat (first | exact (by repeat (first | (with_reducible exact HR166.out) | (with_reducible refine Kd.C_alloc ?_ _) | (with_reducible refine Kd.C_drewN ?_ _) | (with_reducible refine Kd.C_drew ?_) | exact HR166.out)) | (with_reducible refine Kd.C_alloc ?_ _) | (with_reducible refine Kd.C_drewN ?_ _) | (with_reducible refine Kd.C_drew ?_)))
    (case side2 => exact HC166.out)
    rintro e w30 ⟨v168, rfl, ho0, hb⟩
    refine ⟨_, rfl, ?_⟩
    have n0_ := Aside0.mk (Kd.R_elder' (Kd.R_p HO_3) (Kd.R_base ho0) hb)
    have n1_ := Aside0.mk (Kd.R_lower (Kd.R_nw ho0 HO_3) (below_size (hb_ HB)))
    have n2_ := Aside0.mk (blk_below (kp_ BK159) hb)
    have n3_ := Aside0.mk (Kd.C_below (by repeat (first | (with_reducible exact HR166.out) | (with_reducible refine Kd.C_alloc ?_ _) | (with_reducible refine Kd.C_drewN ?_ _) | (with_reducible refine Kd.C_drew ?_) | exact HR166.out)) hb)
    have n4_ := Aside0.mk (Kd.C_below (by repeat (first | (with_reducible exact HR179.out) | (with_reducible refine Kd.C_alloc ?_ _) | (with_reducible refine Kd.C_drewN ?_ _) | (with_reducible refine Kd.C_drew ?_) | exact HR179.out)) hb)
    have n5_ := Aside0.mk (below_step (hb_ HB) hb)
    clear HO_3
    clear BK159
    clear HR166
    clear HR179
    clear HB
    have HO_3 := n0_
    have HO169 := n1_
    have BK159 := n2_
    have HR166 := n3_
    have HR179 := n4_
    have HB := n5_
    clear n0_ n1_ n2_ n3_ n4_ n5_
    refine hK.out _ _ trivial (fun hHeld => ?_)
    clear hK K
    refine nm_ (some 35) (h := ?_)
    refine one_ (i := 5) (N := some 37) (bb 12 959) rfl rfl (one_of HT_.out (by kernel_rfl)) (by decide) (fun K hK => ?_)
    refine Kd.R_lit_step (Kd.int .i64) _ 3 ?hg (N := 37) ?hd (xs := ([x9_1] : List Int)) (inner := [.int .i64 x9_1]) (ok := fun _ => True) (okp := fun _ => True) ?hr ?hp (fun _ hk => hk) trivial (Below.refl _ _) (Nat.le_refl _) (by simp) ?_; (case hd => rfl); (case hg => rfl); (case hr => first | (go_simp; done) | (go_simp; rfl)); (case hp => exact (Reps.one (show Kd.M (Kd.int .i64) _ _ _ x9_1 [.int .i64 x9_1] from rfl) (Reps.none _ _)))
    intro v171 w31 ho32 hb hg_ hnew_
    clear hg_ hnew_
    (first | rw [← Ny170.out] at ho32 | (simp only [Int.reduceToNat] at ho32; rw [← Ny170.out] at ho32))
    have n0_ := Aside0.mk (Kd.R_elder' (Kd.R_p HO_3) (Kd.R_base ho32) hb)
    have n1_ := Aside0.mk (Kd.R_elder' (Kd.R_p HO169) (Kd.R_base ho32) hb)
    have n2_ := Aside0.mk (Kd.R_lower (Kd.R_nw (Kd.R_nw ho32 HO_3) HO169) (below_size (hb_ HB)))
    have n3_ := Aside0.mk (blk_below (kp_ BK159) hb)
    have n4_ := Aside0.mk (Kd.C_below (by repeat (first | (with_reducible exact HR166.out) | (with_reducible refine Kd.C_alloc ?_ _) | (with_reducible refine Kd.C_drewN ?_ _) | (with_reducible refine Kd.C_drew ?_) | exact HR166.out)) hb)
    have n5_ := Aside0.mk (Kd.C_below (by repeat (first | (with_reducible exact HR179.out) | (with_reducible refine Kd.C_alloc ?_ _) | (with_reducible refine Kd.C_drewN ?_ _) | (with_reducible refine Kd.C_drew ?_) | exact HR179.out)) hb)
    have n6_ := Aside0.mk (below_step (hb_ HB) hb)
    clear HO_3
    clear HO169
    clear BK159
    clear HR166
    clear HR179
    clear HB
    have HO_3 := n0_
    have HO169 := n1_
    have HO172 := n2_
    have BK159 := n3_
    have HR166 := n4_
    have HR179 := n5_
    have HB := n6_
    clear n0_ n1_ n2_ n3_ n4_ n5_ n6_
    clear hb ho32
    refine hK.out _ _ trivial (fun hHeld => ?_)
    clear hK K
    refine nm_ (some 37) (h := ?_)
    exact norm_ (by simp only [putAll, Act.put, List.setIfInBounds_toArray, List.set_cons_zero, List.set_cons_succ]) (hCont (v168, v171) _ ⟨(rm_ (h := HO169.out)), (rm_ (h := HO172.out)), (rm_ (h := HO_3.out)), (kp_ BK159), (hb_ HB)⟩)
   skip
   refine Kd.R_lit_step (Kd.int .i64) _ 3 ?hg (N := 37) ?hd (xs := ([x9_1] : List Int)) (inner := [.int .i64 x9_1]) (ok := fun _ => True) (okp := fun _ => True) ?hr ?hp (fun _ hk => hk) trivial (Below.refl _ _) (Nat.le_refl _) (by simp) ?_; (case hd => rfl); (case hg => rfl); (case hr => first | (go_simp; done) | (go_simp; rfl)); (case hp => exact (Reps.one (show Kd.M (Kd.int .i64) _ _ _ x9_1 [.int .i64 x9_1] from rfl) (Reps.none _ _)))
   intro v171 w30 ho31 hb hg_ hnew_
   clear hg_ hnew_
   (first | rw [← Ny170.out] at ho31 | (simp only [Int.reduceToNat] at ho31; rw [← Ny170.out] at ho31))
   have n0_ := Aside0.mk (Kd.R_elder' (Kd.R_p HO_3) (Kd.R_base ho31) hb)
   have n1_ := Aside0.mk (Kd.R_lower (Kd.R_nw ho31 HO_3) (below_size (hb_ HB)))
   have n2_ := Aside0.mk (blk_below (kp_ BK159) hb)
   have n3_ := Aside0.mk (Kd.C_below (by repeat (first | (with_reducible exact HR166.out) | (with_reducible refine Kd.C_alloc ?_ _) | (with_reducible refine Kd.C_drewN ?_ _) | (with_reducible refine Kd.C_drew ?_) | exact HR166.out)) hb)
   have n4_ := Aside0.mk (Kd.C_below (by repeat (first | (with_reducible exact HR179.out) | (with_reducible refine Kd.C_alloc ?_ _) | (with_reducible refine Kd.C_drewN ?_ _) | (with_reducible refine Kd.C_drew ?_) | exact HR179.out)) hb)
   have n5_ := Aside0.mk (below_step (hb_ HB) hb)
   clear HO_3
   clear BK159
   clear HR166
   clear HR179
   clear HB
   have HO_3 := n0_
   have HO172 := n1_
   have BK159 := n2_
   have HR166 := n3_
   have HR179 := n4_
   have HB := n5_
   clear n0_ n1_ n2_ n3_ n4_ n5_
   clear hb ho31
   refine hK.out _ _ trivial (fun hHeld => ?_)
   clear hK K
   refine nm_ (some 37) (h := ?_)
   refine one_ (i := 3) (N := some 35) (bb 12 959) rfl rfl (one_of HT_.out (by kernel_rfl)) (by decide) (fun K hK => ?_)
   refine goes_ Try.func108 (by kernel_rfl) rfl #[.slice (some ad160) y163.length co7] (by rfl) rfl rfl (by (try simp only [List.map_toArray, List.map_cons, List.map_nil]); first | done | rfl | (simp only [List.length_drop, List.length_take]; rfl)) ?_
   with_reducible refine (spec_l1Own.calls _ _ y163 t167 _ ?side1 ?side2 A20.out).mono ?_
   (case side1 => repeat (first | exact (by repeat (first | (with_reducible exact HR166.out) | (with_reducible refine Kd.C_alloc ?_ _) | (with_reducible refine Kd.C_drewN ?_ _) | (with_reducible refine Kd.C_drew ?_) | exact HR166.out)) | (with_reducible refine Kd.C_alloc ?_ _) | (with_reducible refine Kd.C_drewN ?_ _) | (with_reducible refine Kd.C_drew ?_)))
   (case side2 => exact HC166.out)
   rintro e w32 ⟨v168, rfl, ho0, hb⟩
   refine ⟨_, rfl, ?_⟩
   have n0_ := Aside0.mk (Kd.R_elder' (Kd.R_p HO_3) (Kd.R_base ho0) hb)
   have n1_ := Aside0.mk (Kd.R_elder' (Kd.R_p HO172) (Kd.R_base ho0) hb)
   have n2_ := Aside0.mk (Kd.R_lower (Kd.R_nw (Kd.R_nw ho0 HO_3) HO172) (below_size (hb_ HB)))
   have n3_ := Aside0.mk (blk_below (kp_ BK159) hb)
   have n4_ := Aside0.mk (Kd.C_below (by repeat (first | (with_reducible exact HR166.out) | (with_reducible refine Kd.C_alloc ?_ _) | (with_reducible refine Kd.C_drewN ?_ _) | (with_reducible refine Kd.C_drew ?_) | exact HR166.out)) hb)
   have n5_ := Aside0.mk (Kd.C_below (by repeat (first | (with_reducible exact HR179.out) | (with_reducible refine Kd.C_alloc ?_ _) | (with_reducible refine Kd.C_drewN ?_ _) | (with_reducible refine Kd.C_drew ?_) | exact HR179.out)) hb)
   have n6_ := Aside0.mk (below_step (hb_ HB) hb)
   clear HO_3
   clear HO172
   clear BK159
   clear HR166
   clear HR179
   clear HB
   have HO_3 := n0_
   have HO172 := n1_
   have HO169 := n2_
   have BK159 := n3_
   have HR166 := n4_
   have HR179 := n5_
   have HB := n6_
   clear n0_ n1_ n2_ n3_ n4_ n5_ n6_
   refine hK.out _ _ trivial (fun hHeld => ?_)
   clear hK K
   refine nm_ (some 35) (h := ?_)
   exact norm_ (by simp only [putAll, Act.put, List.setIfInBounds_toArray, List.set_cons_zero, List.set_cons_succ]) (hCont (v168, v171) _ ⟨(rm_ (h := HO169.out)), (rm_ (h := HO172.out)), (rm_ (h := HO_3.out)), (kp_ BK159), (hb_ HB)⟩)
  rintro ⟨v168, v171⟩ w33 ⟨h0_, h1_, h2_, h3_, h4_⟩
  have n0_ : Aside0 (Kd.R (Kd.int .i64) 3 w33 w.heap.size (fun k_ => some k_ ≠ (v171 : Value).ownBlock ∧ some k_ ≠ (.slice (some ad160) x3_1.length co7 : Value).ownBlock) v168 t167) := ⟨h0_⟩
  have n1_ : Aside0 (Kd.R (Kd.int .i64) 3 w33 w.heap.size (fun k_ => some k_ ≠ (v168 : Value).ownBlock ∧ some k_ ≠ (.slice (some ad160) x3_1.length co7 : Value).ownBlock) v171 y170) := ⟨h1_⟩
  have n2_ : Aside0 (Kd.R (Kd.int .i64) 3 w33 w.heap.size (fun k_ => some k_ ≠ (v168 : Value).ownBlock ∧ some k_ ≠ (v171 : Value).ownBlock) (.slice (some ad160) x3_1.length co7) x3_1) := ⟨h2_⟩
  have n3_ : Aside0 (w33.heap[gb159]? = some (.cells #[.int .i64 ((rd_T29 l0 x9_1).f0), .int .i64 ((rd_T29 l0 x9_1).f1), .int .i64 ((rd_T29 l0 x9_1).f2)] 29 (0, 0))) := ⟨h3_⟩
  have n4_ : Aside0 (Below w.heap.size w w33) := ⟨h4_⟩
  clear HO_3
  clear BK159
  clear HB
  clear h0_ h1_ h2_ h3_ h4_
  have HO169 := n0_
  have HO172 := n1_
  have HO_3 := n2_
  have BK159 := n3_
  have HB := n4_
  clear n0_ n1_ n2_ n3_ n4_
  have hHeld := trivial
  obtain ⟨Ao35, co35, eo35⟩ := Kd.R_slice HO172.out
  (first | subst eo35 | (injection eo35 with f1_ f2_ f3_; have f4_ := f1_.symm; have f5_ := f3_.symm; clear f1_ f2_ f3_; subst f4_; subst f5_))
  refine norm_ (a' := ?_) ?_ ?_
  rotate_left
  ·simp only [putAll, Act.put, List.setIfInBounds_toArray, List.set_cons_zero, List.set_cons_succ]
   rfl
  refine one_ (i := 6) (N := some 38) (bb 12 1023) rfl rfl (one_of HT_.out (by kernel_rfl)) (by decide) (fun K hK => ?_)
  refine Kd.R_append_rows_step (Kd.int .i64) (w0 := w) w.heap.size (by rfl) (.tmp 35) (.tmp 37) 24 3 (.int .i64 0) 8 rfl Try.underlying24 info3 rfl (by decide) (by omega) v168 t167 y170 _ _ _ (fun k_ => some k_ ≠ (.slice (some ad160) x3_1.length co7 : Value).ownBlock ∧ some k_ ≠ (.slice Ao35 y170.length co35 : Value).ownBlock) (fun _ => False) rfl rfl ?aO ?aR (fun _ _ h => h) (fun _ h => h.elim) ?aF ?aB ?aS ?aL ?_
  (case aR => exact Kd.C_o HO172)
  (case aB => exact (hb_ HB))
  (case aF => exact (fun k_ hk => ⟨Kd.fresh' (Kd.R_lt (Kd.R_p HO_3)) k_ hk, Kd.fresh' (Kd.R_lt (Kd.R_p HO172)) k_ hk⟩))
  (case aO => exact (rm_ (h := HO169.out)))
  (case aS => exact (below_size (hb_ HB)))
  (case aL => have := LMc21.out; omega)
  intro v174 w34 ho hb hg hat
  rw [← Ny173.out] at ho
  replace HO_3 := Aside0.mk (Kd.R_after (ok := (fun k_ => some k_ ≠ (.slice Ao35 y170.length co35 : Value).ownBlock)) (rm_ (h := HO_3.out)) hg hat)
  replace BK159 := Aside0.mk (blk_grown (kp_ BK159) hg (Kd.R_ne HO169.out BK159.out (by decide)))
  replace HO172 := Aside0.mk (Kd.R_after (ok := (fun k_ => some k_ ≠ (.slice (some ad160) x3_1.length co7 : Value).ownBlock)) (rm_ (h := HO172.out)) hg hat)
  replace HB := Aside0.mk (hb)
  have HO175 := Aside0.mk (ho)
  clear HO169
  clear ho hb hg hat
  refine hK.out _ _ trivial (fun hHeld => ?_)
  clear hK K
  refine nm_ (some 38) (h := ?_)
  refine one_ (i := 10) (N := some 42) (bb 12 2047) rfl rfl (one_of HT_.out (by kernel_rfl)) (by decide) (fun K hK => ?_)
  refine Kd.R_append_rows_step (Kd.int .i64) (w0 := w) w.heap.size (by rfl) (.tmp 38) (.tmp 41) 24 3 (.int .i64 0) 8 rfl Try.underlying24 info3 rfl (by decide) (by omega) v174 y173 y176 _ _ _ (fun k_ => some k_ ≠ (.slice (some ad160) x3_1.length co7 : Value).ownBlock ∧ some k_ ≠ (.slice Ao35 y170.length co35 : Value).ownBlock) (fun _ => False) rfl rfl ?aO ?aR (fun _ _ h => h) (fun _ h => h.elim) ?aF ?aB ?aS ?aL ?_
  (case aR => exact (show Kd.C (Kd.int .i64) _ A29 y176.length y176 from by rw [Ny176.out, KA29.out]; exact Kd.C_drop (m := (x6_2 : Int).toNat) (c := co7) ((Kd.R_reads' (Kd.R_p HO_3)).2.2) KL29.out ((Kd.R_reads' (Kd.R_p HO_3)).2.1)))
  (case aB => exact (hb_ HB))
  (case aF => exact (fun k_ hk => ⟨Kd.fresh' (Kd.R_lt (Kd.R_p HO_3)) k_ hk, Kd.fresh' (Kd.R_lt (Kd.R_p HO172)) k_ hk⟩))
  (case aO => exact (Kd.R_p HO175))
  (case aS => exact (below_size (hb_ HB)))
  (case aL => have := LMc24.out; omega)
  intro v181 w36 ho hb hg hat
  rw [← Ny180.out] at ho
  replace HO_3 := Aside0.mk (Kd.R_after (ok := (fun k_ => some k_ ≠ (.slice Ao35 y170.length co35 : Value).ownBlock)) (Kd.R_p HO_3) hg hat)
  replace BK159 := Aside0.mk (blk_grown (kp_ BK159) hg (Kd.R_ne HO175.out BK159.out (by decide)))
  replace HO172 := Aside0.mk (Kd.R_after (ok := (fun k_ => some k_ ≠ (.slice (some ad160) x3_1.length co7 : Value).ownBlock)) (Kd.R_p HO172) hg hat)
  replace HB := Aside0.mk (hb)
  have HO182 := Aside0.mk (ho)
  clear HO175
  clear ho hb hg hat
  refine hK.out _ _ trivial (fun hHeld => ?_)
  clear hK K
  refine nm_ (some 42) (h := ?_)
  refine pl_ HT_ 11 (some 3) (bb 12 4095) (h := ?_)
  refine done_ (done_of HT_.out (by kernel_rfl)) ?_
  try go_wp2
  go_roundg k2
  case measure => have := HK1.out; have := HK2.out; omega
  case rel => exact ⟨(y180), (wrap64 (x9_1 + 1)), (by first | rfl | (simp; done) | (simp [*]; done)), H', ⟨by have := HK1.out; have := HK2.out; omega⟩, ⟨rm_ (h := HO182.out)⟩, ⟨hb_ HB⟩⟩
 rw [if_neg c8] at H
 have c8b0 : decide (0 < x6_2) = false := decide_eq_false c8
 clear c8
 by_cases c37 : 0 ≤ x6_2
 case neg => rw [if_neg c37] at H; exact absurd H (by simp)
 rw [if_pos c37] at H
 have c37b0 := eq_true c37
 have c37b1 := decide_eq_true c37
 clear c37
 by_cases c38 : x6_2 ≤ (x3_1.length : Int)
 case neg => rw [if_neg c38] at H; exact absurd H (by simp)
 rw [if_pos c38] at H
 have c38b0 := eq_true c38
 have c38b1 := decide_eq_true c38
 clear c38
 obtain ⟨y183, hy183⟩ : ∃ y_ : List Int, y_ = (x3_1.take (x6_2 : Int).toNat) := ⟨_, rfl⟩
 (try with_reducible replace H := (Option.bind_some _ _).symm.trans H); (try dsimp only at H); (try rw [← hy183] at H)
 have Ny183 := Aside0.mk hy183
 clear hy183
 replace H := Option.bind_eq_some_iff.mp H
 obtain ⟨t187, A390, H⟩ := H
 try dsimp only at H
 have A39 := Aside0.mk A390
 clear A390
 obtain ⟨y190, hy190⟩ : ∃ y_ : List Int, y_ = (([x9_1] : List Int)) := ⟨_, rfl⟩
 (try with_reducible replace H := (Option.bind_some _ _).symm.trans H); (try dsimp only at H); (try rw [← hy190] at H)
 have Ny190 := Aside0.mk hy190
 clear hy190
 by_cases c40 : t187.length + y190.length < 17592186044416
 case neg => rw [if_neg c40] at H; exact absurd H (by simp)
 rw [if_pos c40] at H
 have LMc40 := Aside0.mk c40
 clear c40
 obtain ⟨y193, hy193⟩ : ∃ y_ : List Int, y_ = (t187 ++ y190) := ⟨_, rfl⟩
 (try with_reducible replace H := (Option.bind_some _ _).symm.trans H); (try dsimp only at H); (try rw [← hy193] at H)
 have Ny193 := Aside0.mk hy193
 clear hy193
 have c41b0 := eq_true (of_decide_eq_true (by first | (with_reducible assumption) | assumption) : 0 ≤ x6_2)
 have c42b0 := eq_true (of_decide_eq_true (by first | (with_reducible assumption) | assumption) : x6_2 ≤ (x3_1.length : Int))
 obtain ⟨y196, hy196⟩ : ∃ y_ : List Int, y_ = (x3_1.drop (x6_2 : Int).toNat) := ⟨_, rfl⟩
 (try with_reducible replace H := (Option.bind_some _ _).symm.trans H); (try dsimp only at H); (try rw [← hy196] at H)
 have Ny196 := Aside0.mk hy196
 clear hy196
 by_cases c43 : y193.length + y196.length < 17592186044416
 case neg => rw [if_neg c43] at H; exact absurd H (by simp)
 rw [if_pos c43] at H
 have LMc43 := Aside0.mk c43
 clear c43
 obtain ⟨y200, hy200⟩ : ∃ y_ : List Int, y_ = (y193 ++ y196) := ⟨_, rfl⟩
 (try with_reducible replace H := (Option.bind_some _ _).symm.trans H); (try dsimp only at H); (try rw [← hy200] at H)
 have Ny200 := Aside0.mk hy200
 clear hy200
 have H' := Aside0.mk H
 clear H
 try go_wp2
 replace HO_3 := Aside0.mk (Kd.R_drew HO_3.out)
 replace BK159 := Aside0.mk (blk_drew BK159.out)
 replace HB := Aside0.mk (below_drew1 HB.out)
 refine start_ (n := 14) (S := fun w' => True) (ds := []) (bb 14 0) (by kernel_rfl) rfl rfl trivial (fun hHeld => ?_); refine with_tabW spec_sbSort.tab6 spec_sbSort.bits6 (fun HT_ HW_ => ?_)
 generalize wr.drew = w44 at HO_3 BK159 HB hHeld ⊢
 refine pl_ HT_ 0 (some 16) (bb 14 1) (h := ?_)
 refine pl_ HT_ 1 (some 17) (bb 14 3) (h := ?_)
 refine pl_ HT_ 2 (some 18) (bb 14 7) (h := ?_)
 refine pr_ HT_ 3 (some 19) (bb 14 15) (h := ?_)
 refine pr_ HT_ 4 (some 20) (bb 14 31) (h := ?_)
 refine pr_ HT_ 5 (some 21) (bb 14 63) (h := ?_)
 refine pr_ HT_ 6 (some 22) (bb 14 127) (h := ?_)
 refine pr_ HT_ 7 (some 23) (bb 14 255) (h := ?_)
 refine pr_ HT_ 8 (some 24) (bb 14 511) (h := ?_)
 refine pr_ HT_ 9 (some 25) (bb 14 1023) (h := ?_)
 refine pr_ HT_ 10 (some 26) (bb 14 2047) (h := ?_)
 refine pr_ HT_ 11 (some 27) (bb 14 4095) (h := ?_)
 refine pr_ HT_ 12 (some 28) (bb 14 8191) (h := ?_)
 refine pl_ HT_ 13 (some 29) (bb 14 16383) (h := ?_)
 refine done_ (done_of HT_.out (by kernel_rfl)) ?_
 try go_wp2
 replace HO_3 := Aside0.mk (Kd.R_drew HO_3.out)
 replace BK159 := Aside0.mk (blk_drew BK159.out)
 replace HB := Aside0.mk (below_drew1 HB.out)
 have q46 : (x6_2 : Int) ≤ ((x3_1.length : Int) : Int) := of_decide_eq_true (by first | (with_reducible assumption) | assumption)
 obtain ⟨i046, hi046, _, hsz46, _⟩ := info_parts info3
 have hroom46 : x3_1.length ≤ co7 := (Kd.R_reads' HO_3.out).2.1
 have hC46 : Kd.C (Kd.int .i64) _ Ao7 x3_1.length x3_1 := (Kd.R_reads' HO_3.out).2.2
 have hcut46 := cut_to (P := Try.prog) 24 3 .i64 Try.underlying24 hi046 Ao7 x3_1.length co7 x6_2 (of_decide_eq_true (by first | (with_reducible assumption) | assumption)) q46 hroom46
 have hr46 := Kd.C_take (m := (x6_2 : Int).toNat) hC46 (by omega)
 have hy46 : y183.length = (x6_2 : Int).toNat := (by rw [Ny183.out, List.length_take]; omega)
 rw [← Ny183.out] at hr46
 rw [← hy46] at hcut46
 have HR186 := Aside0.mk hr46
 have HC186 := Aside0.mk (show y183.length ≤ co7 from by omega)
 clear hr46 hC46 hroom46 hi046 hsz46
 have KY46 := Aside0.mk hy46
 clear hy46
 have KL46 := Aside0.mk (show (x6_2 : Int).toNat ≤ x3_1.length from by omega)
 replace q46 := eq_true q46
 have q47 : (x6_2 : Int) ≤ ((x3_1.length : Int) : Int) := of_decide_eq_true (by first | (with_reducible assumption) | assumption)
 obtain ⟨i047, hi047, _, hsz47, _⟩ := info_parts info3
 have hroom47 : x3_1.length ≤ co7 := (Kd.R_reads' HO_3.out).2.1
 have hC47 : Kd.C (Kd.int .i64) _ Ao7 x3_1.length x3_1 := (Kd.R_reads' HO_3.out).2.2
 have q047 : (0 : Int) ≤ (x6_2 : Int) := of_decide_eq_true (by first | (with_reducible assumption) | assumption)
 have hcut47 := cut_from (P := Try.prog) 24 3 .i64 Try.underlying24 hi047 1 hsz47 Ao7 x3_1.length co7 x6_2 q047 q47
 have hr47 := Kd.C_drop (m := (x6_2 : Int).toNat) (c := co7) hC47 (by omega) hroom47
 obtain ⟨A47, hA47⟩ : ∃ A1, A1 = (if co7 = (x6_2 : Int).toNat then Ao7 else (Ao7 : Option Addr).map (·.add ((x6_2 : Int).toNat * 1))) := ⟨_, rfl⟩
 obtain ⟨c47, hc47⟩ : ∃ c1, c1 = co7 - (x6_2 : Int).toNat := ⟨_, rfl⟩
 have hy47 : y196.length = x3_1.length - (x6_2 : Int).toNat := (by rw [Ny196.out, List.length_drop] <;> omega)
 rw [show (x3_1).drop (x6_2 : Int).toNat = y196 from Ny196.out.symm] at hr47
 replace hr47 : Kd.C (Kd.int .i64) _ A47 y196.length y196 := (by rw [hA47]; exact hr47)
 rw [← hy47, ← hA47, ← hc47] at hcut47
 have HR199 := Aside0.mk hr47
 have HC199 := Aside0.mk (show y196.length ≤ c47 from by rw [hy47, hc47]; exact Nat.sub_le_sub_right hroom47 _)
 clear hr47 hC47 hroom47 hi047 hsz47 hc47
 have KY47 := Aside0.mk hy47
 have KA47 := Aside0.mk hA47
 clear hy47 hA47
 have KL47 := Aside0.mk (show (x6_2 : Int).toNat ≤ x3_1.length from by omega)
 replace q47 := eq_true q47
 refine start_ (n := 12) (S := fun w' => True) (ds := []) (bb 12 0) (by kernel_rfl) rfl rfl trivial (fun hHeld => ?_); refine with_tabW spec_sbSort.tab8 spec_sbSort.bits8 (fun HT_ HW_ => ?_)
 generalize w44.drew = w45 at HO_3 BK159 HB HR186 HR199 hHeld ⊢
 refine pl_ HT_ 0 (some 32) (bb 12 1) (h := ?_)
 refine pl_ HT_ 1 (some 33) (bb 12 3) (h := ?_)
 refine pl_ HT_ 2 (some 34) (bb 12 7) (h := ?_)
 refine pl_ HT_ 4 (some 36) (bb 12 23) (h := ?_)
 refine pl_ HT_ 7 (some 39) (bb 12 151) (h := ?_)
 refine pl_ HT_ 8 (some 40) (bb 12 407) (h := ?_)
 refine pl_ HT_ 9 (some 41) (bb 12 919) (h := ?_)
 refine join_ (σ := Value × Value) 3 (bb 12 959) (fun s_ => [(35, s_.1), (37, s_.2)]) (fun s_ w' => (Kd.R (Kd.int .i64) 3 w' w.heap.size (fun k_ => some k_ ≠ (s_.2 : Value).ownBlock ∧ some k_ ≠ (.slice Ao7 x3_1.length co7 : Value).ownBlock) s_.1 t187) ∧ (Kd.R (Kd.int .i64) 3 w' w.heap.size (fun k_ => some k_ ≠ (s_.1 : Value).ownBlock ∧ some k_ ≠ (.slice Ao7 x3_1.length co7 : Value).ownBlock) s_.2 y190) ∧ (Kd.R (Kd.int .i64) 3 w' w.heap.size (fun k_ => some k_ ≠ (s_.1 : Value).ownBlock ∧ some k_ ≠ (s_.2 : Value).ownBlock) (.slice Ao7 x3_1.length co7) x3_1) ∧ (w'.heap[gb159]? = some (.cells #[.int .i64 ((rd_T29 l0 x9_1).f0), .int .i64 ((rd_T29 l0 x9_1).f1), .int .i64 ((rd_T29 l0 x9_1).f2)] 29 (0, 0))) ∧ (Below w.heap.size w w')) ?_ ?_
 rotate_left
 ·intro hCont
  refine two_ (i := 3) (j := 5) (Ni := some 35) (Nj := some 37) (bb 12 927) (bb 12 951) rfl rfl rfl rfl (two_of HT_.out (by kernel_rfl)) (by decide) (by decide) (fun K hK => ?_) (fun K hK => ?_)
  ·skip
   refine goes_ Try.func108 (by kernel_rfl) rfl #[.slice Ao7 y183.length co7] (by rfl) rfl rfl (by (try simp only [List.map_toArray, List.map_cons, List.map_nil]); first | done | rfl | (simp only [List.length_drop, List.length_take]; rfl)) ?_
   with_reducible refine (spec_l1Own.calls _ _ y183 t187 _ ?side1 ?side2 A39.out).mono ?_
   (case side1 => repeat (first | exact (by repeat (first | (with_reducible exact HR186.out) | (with_reducible refine Kd.C_alloc ?_ _) | (with_reducible refine Kd.C_drewN ?_ _) | (with_reducible refine Kd.C_drew ?_) | exact HR186.out)) | (with_reducible refine Kd.C_alloc ?_ _) | (with_reducible refine Kd.C_drewN ?_ _) | (with_reducible refine Kd.C_drew ?_)))
   (case side2 => exact HC186.out)
   rintro e w48 ⟨v188, rfl, ho0, hb⟩
   refine ⟨_, rfl, ?_⟩
   have n0_ := Aside0.mk (Kd.R_elder' (Kd.R_p HO_3) (Kd.R_base ho0) hb)
   have n1_ := Aside0.mk (Kd.R_lower (Kd.R_nw ho0 HO_3) (below_size (hb_ HB)))
   have n2_ := Aside0.mk (blk_below (kp_ BK159) hb)
   have n3_ := Aside0.mk (Kd.C_below (by repeat (first | (with_reducible exact HR186.out) | (with_reducible refine Kd.C_alloc ?_ _) | (with_reducible refine Kd.C_drewN ?_ _) | (with_reducible refine Kd.C_drew ?_) | exact HR186.out)) hb)
   have n4_ := Aside0.mk (Kd.C_below (by repeat (first | (with_reducible exact HR199.out) | (with_reducible refine Kd.C_alloc ?_ _) | (with_reducible refine Kd.C_drewN ?_ _) | (with_reducible refine Kd.C_drew ?_) | exact HR199.out)) hb)
   have n5_ := Aside0.mk (below_step (hb_ HB) hb)
   clear HO_3
   clear BK159
   clear HR186
   clear HR199
   clear HB
   have HO_3 := n0_
   have HO189 := n1_
   have BK159 := n2_
   have HR186 := n3_
   have HR199 := n4_
   have HB := n5_
   clear n0_ n1_ n2_ n3_ n4_ n5_
   refine hK.out _ _ trivial (fun hHeld => ?_)
   clear hK K
   refine nm_ (some 35) (h := ?_)
   refine one_ (i := 5) (N := some 37) (bb 12 959) rfl rfl (one_of HT_.out (by kernel_rfl)) (by decide) (fun K hK => ?_)
   refine Kd.R_lit_step (Kd.int .i64) _ 3 ?hg (N := 37) ?hd (xs := ([x9_1] : List Int)) (inner := [.int .i64 x9_1]) (ok := fun _ => True) (okp := fun _ => True) ?hr ?hp (fun _ hk => hk) trivial (Below.refl _ _) (Nat.le_refl _) (by simp) ?_; (case hd => rfl); (case hg => rfl); (case hr => first | (go_simp; done) | (go_simp; rfl)); (case hp => exact (Reps.one (show Kd.M (Kd.int .i64) _ _ _ x9_1 [.int .i64 x9_1] from rfl) (Reps.none _ _)))
   intro v191 w49 ho50 hb hg_ hnew_
   clear hg_ hnew_
   (first | rw [← Ny190.out] at ho50 | (simp only [Int.reduceToNat] at ho50; rw [← Ny190.out] at ho50))
   have n0_ := Aside0.mk (Kd.R_elder' (Kd.R_p HO_3) (Kd.R_base ho50) hb)
   have n1_ := Aside0.mk (Kd.R_elder' (Kd.R_p HO189) (Kd.R_base ho50) hb)
   have n2_ := Aside0.mk (Kd.R_lower (Kd.R_nw (Kd.R_nw ho50 HO_3) HO189) (below_size (hb_ HB)))
   have n3_ := Aside0.mk (blk_below (kp_ BK159) hb)
   have n4_ := Aside0.mk (Kd.C_below (by repeat (first | (with_reducible exact HR186.out) | (with_reducible refine Kd.C_alloc ?_ _) | (with_reducible refine Kd.C_drewN ?_ _) | (with_reducible refine Kd.C_drew ?_) | exact HR186.out)) hb)
   have n5_ := Aside0.mk (Kd.C_below (by repeat (first | (with_reducible exact HR199.out) | (with_reducible refine Kd.C_alloc ?_ _) | (with_reducible refine Kd.C_drewN ?_ _) | (with_reducible refine Kd.C_drew ?_) | exact HR199.out)) hb)
   have n6_ := Aside0.mk (below_step (hb_ HB) hb)
   clear HO_3
   clear HO189
   clear BK159
   clear HR186
   clear HR199
   clear HB
   have HO_3 := n0_
   have HO189 := n1_
   have HO192 := n2_
   have BK159 := n3_
   have HR186 := n4_
   have HR199 := n5_
   have HB := n6_
   clear n0_ n1_ n2_ n3_ n4_ n5_ n6_
   clear hb ho50
   refine hK.out _ _ trivial (fun hHeld => ?_)
   clear hK K
   refine nm_ (some 37) (h := ?_)
   exact norm_ (by simp only [putAll, Act.put, List.setIfInBounds_toArray, List.set_cons_zero, List.set_cons_succ]) (hCont (v188, v191) _ ⟨(rm_ (h := HO189.out)), (rm_ (h := HO192.out)), (rm_ (h := HO_3.out)), (kp_ BK159), (hb_ HB)⟩)
  skip
  refine Kd.R_lit_step (Kd.int .i64) _ 3 ?hg (N := 37) ?hd (xs := ([x9_1] : List Int)) (inner := [.int .i64 x9_1]) (ok := fun _ => True) (okp := fun _ => True) ?hr ?hp (fun _ hk => hk) trivial (Below.refl _ _) (Nat.le_refl _) (by simp) ?_; (case hd => rfl); (case hg => rfl); (case hr => first | (go_simp; done) | (go_simp; rfl)); (case hp => exact (Reps.one (show Kd.M (Kd.int .i64) _ _ _ x9_1 [.int .i64 x9_1] from rfl) (Reps.none _ _)))
  intro v191 w48 ho49 hb hg_ hnew_
  clear hg_ hnew_
  (first | rw [← Ny190.out] at ho49 | (simp only [Int.reduceToNat] at ho49; rw [← Ny190.out] at ho49))
  have n0_ := Aside0.mk (Kd.R_elder' (Kd.R_p HO_3) (Kd.R_base ho49) hb)
  have n1_ := Aside0.mk (Kd.R_lower (Kd.R_nw ho49 HO_3) (below_size (hb_ HB)))
  have n2_ := Aside0.mk (blk_below (kp_ BK159) hb)
  have n3_ := Aside0.mk (Kd.C_below (by repeat (first | (with_reducible exact HR186.out) | (with_reducible refine Kd.C_alloc ?_ _) | (with_reducible refine Kd.C_drewN ?_ _) | (with_reducible refine Kd.C_drew ?_) | exact HR186.out)) hb)
  have n4_ := Aside0.mk (Kd.C_below (by repeat (first | (with_reducible exact HR199.out) | (with_reducible refine Kd.C_alloc ?_ _) | (with_reducible refine Kd.C_drewN ?_ _) | (with_reducible refine Kd.C_drew ?_) | exact HR199.out)) hb)
  have n5_ := Aside0.mk (below_step (hb_ HB) hb)
  clear HO_3
  clear BK159
  clear HR186
  clear HR199
  clear HB
  have HO_3 := n0_
  have HO192 := n1_
  have BK159 := n2_
  have HR186 := n3_
  have HR199 := n4_
  have HB := n5_
  clear n0_ n1_ n2_ n3_ n4_ n5_
  clear hb ho49
  refine hK.out _ _ trivial (fun hHeld => ?_)
  clear hK K
  refine nm_ (some 37) (h := ?_)
  refine one_ (i := 3) (N := some 35) (bb 12 959) rfl rfl (one_of HT_.out (by kernel_rfl)) (by decide) (fun K hK => ?_)
  refine goes_ Try.func108 (by kernel_rfl) rfl #[.slice Ao7 y183.length co7] (by rfl) rfl rfl (by (try simp only [List.map_toArray, List.map_cons, List.map_nil]); first | done | rfl | (simp only [List.length_drop, List.length_take]; rfl)) ?_
  with_reducible refine (spec_l1Own.calls _ _ y183 t187 _ ?side1 ?side2 A39.out).mono ?_
  (case side1 => repeat (first | exact (by repeat (first | (with_reducible exact HR186.out) | (with_reducible refine Kd.C_alloc ?_ _) | (with_reducible refine Kd.C_drewN ?_ _) | (with_reducible refine Kd.C_drew ?_) | exact HR186.out)) | (with_reducible refine Kd.C_alloc ?_ _) | (with_reducible refine Kd.C_drewN ?_ _) | (with_reducible refine Kd.C_drew ?_)))
  (case side2 => exact HC186.out)
  rintro e w50 ⟨v188, rfl, ho0, hb⟩
  refine ⟨_, rfl, ?_⟩
  have n0_ := Aside0.mk (Kd.R_elder' (Kd.R_p HO_3) (Kd.R_base ho0) hb)
  have n1_ := Aside0.mk (Kd.R_elder' (Kd.R_p HO192) (Kd.R_base ho0) hb)
  have n2_ := Aside0.mk (Kd.R_lower (Kd.R_nw (Kd.R_nw ho0 HO_3) HO192) (below_size (hb_ HB)))
  have n3_ := Aside0.mk (blk_below (kp_ BK159) hb)
  have n4_ := Aside0.mk (Kd.C_below (by repeat (first | (with_reducible exact HR186.out) | (with_reducible refine Kd.C_alloc ?_ _) | (with_reducible refine Kd.C_drewN ?_ _) | (with_reducible refine Kd.C_drew ?_) | exact HR186.out)) hb)
  have n5_ := Aside0.mk (Kd.C_below (by repeat (first | (with_reducible exact HR199.out) | (with_reducible refine Kd.C_alloc ?_ _) | (with_reducible refine Kd.C_drewN ?_ _) | (with_reducible refine Kd.C_drew ?_) | exact HR199.out)) hb)
  have n6_ := Aside0.mk (below_step (hb_ HB) hb)
  clear HO_3
  clear HO192
  clear BK159
  clear HR186
  clear HR199
  clear HB
  have HO_3 := n0_
  have HO192 := n1_
  have HO189 := n2_
  have BK159 := n3_
  have HR186 := n4_
  have HR199 := n5_
  have HB := n6_
  clear n0_ n1_ n2_ n3_ n4_ n5_ n6_
  refine hK.out _ _ trivial (fun hHeld => ?_)
  clear hK K
  refine nm_ (some 35) (h := ?_)
  exact norm_ (by simp only [putAll, Act.put, List.setIfInBounds_toArray, List.set_cons_zero, List.set_cons_succ]) (hCont (v188, v191) _ ⟨(rm_ (h := HO189.out)), (rm_ (h := HO192.out)), (rm_ (h := HO_3.out)), (kp_ BK159), (hb_ HB)⟩)
 rintro ⟨v188, v191⟩ w51 ⟨h0_, h1_, h2_, h3_, h4_⟩
 have n0_ : Aside0 (Kd.R (Kd.int .i64) 3 w51 w.heap.size (fun k_ => some k_ ≠ (v191 : Value).ownBlock ∧ some k_ ≠ (.slice Ao7 x3_1.length co7 : Value).ownBlock) v188 t187) := ⟨h0_⟩
 have n1_ : Aside0 (Kd.R (Kd.int .i64) 3 w51 w.heap.size (fun k_ => some k_ ≠ (v188 : Value).ownBlock ∧ some k_ ≠ (.slice Ao7 x3_1.length co7 : Value).ownBlock) v191 y190) := ⟨h1_⟩
 have n2_ : Aside0 (Kd.R (Kd.int .i64) 3 w51 w.heap.size (fun k_ => some k_ ≠ (v188 : Value).ownBlock ∧ some k_ ≠ (v191 : Value).ownBlock) (.slice Ao7 x3_1.length co7) x3_1) := ⟨h2_⟩
 have n3_ : Aside0 (w51.heap[gb159]? = some (.cells #[.int .i64 ((rd_T29 l0 x9_1).f0), .int .i64 ((rd_T29 l0 x9_1).f1), .int .i64 ((rd_T29 l0 x9_1).f2)] 29 (0, 0))) := ⟨h3_⟩
 have n4_ : Aside0 (Below w.heap.size w w51) := ⟨h4_⟩
 clear HO_3
 clear BK159
 clear HB
 clear h0_ h1_ h2_ h3_ h4_
 have HO189 := n0_
 have HO192 := n1_
 have HO_3 := n2_
 have BK159 := n3_
 have HB := n4_
 clear n0_ n1_ n2_ n3_ n4_
 have hHeld := trivial
 obtain ⟨Ao53, co53, eo53⟩ := Kd.R_slice HO192.out
 (first | subst eo53 | (injection eo53 with f1_ f2_ f3_; have f4_ := f1_.symm; have f5_ := f3_.symm; clear f1_ f2_ f3_; subst f4_; subst f5_))
 refine norm_ (a' := ?_) ?_ ?_
 rotate_left
 ·simp only [putAll, Act.put, List.setIfInBounds_toArray, List.set_cons_zero, List.set_cons_succ]
  rfl
 refine one_ (i := 6) (N := some 38) (bb 12 1023) rfl rfl (one_of HT_.out (by kernel_rfl)) (by decide) (fun K hK => ?_)
 refine Kd.R_append_rows_step (Kd.int .i64) (w0 := w) w.heap.size (by rfl) (.tmp 35) (.tmp 37) 24 3 (.int .i64 0) 8 rfl Try.underlying24 info3 rfl (by decide) (by omega) v188 t187 y190 _ _ _ (fun k_ => some k_ ≠ (.slice Ao7 x3_1.length co7 : Value).ownBlock ∧ some k_ ≠ (.slice Ao53 y190.length co53 : Value).ownBlock) (fun _ => False) rfl rfl ?aO ?aR (fun _ _ h => h) (fun _ h => h.elim) ?aF ?aB ?aS ?aL ?_
 (case aR => exact Kd.C_o HO192)
 (case aB => exact (hb_ HB))
 (case aF => exact (fun k_ hk => ⟨Kd.fresh' (Kd.R_lt (Kd.R_p HO_3)) k_ hk, Kd.fresh' (Kd.R_lt (Kd.R_p HO192)) k_ hk⟩))
 (case aO => exact (rm_ (h := HO189.out)))
 (case aS => exact (below_size (hb_ HB)))
 (case aL => have := LMc40.out; omega)
 intro v194 w52 ho hb hg hat
 rw [← Ny193.out] at ho
 replace HO_3 := Aside0.mk (Kd.R_after (ok := (fun k_ => some k_ ≠ (.slice Ao53 y190.length co53 : Value).ownBlock)) (rm_ (h := HO_3.out)) hg hat)
 replace BK159 := Aside0.mk (blk_grown (kp_ BK159) hg (Kd.R_ne HO189.out BK159.out (by decide)))
 replace HO192 := Aside0.mk (Kd.R_after (ok := (fun k_ => some k_ ≠ (.slice Ao7 x3_1.length co7 : Value).ownBlock)) (rm_ (h := HO192.out)) hg hat)
 replace HB := Aside0.mk (hb)
 have HO195 := Aside0.mk (ho)
 clear HO189
 clear ho hb hg hat
 refine hK.out _ _ trivial (fun hHeld => ?_)
 clear hK K
 refine nm_ (some 38) (h := ?_)
 refine one_ (i := 10) (N := some 42) (bb 12 2047) rfl rfl (one_of HT_.out (by kernel_rfl)) (by decide) (fun K hK => ?_)
 refine Kd.R_append_rows_step (Kd.int .i64) (w0 := w) w.heap.size (by rfl) (.tmp 38) (.tmp 41) 24 3 (.int .i64 0) 8 rfl Try.underlying24 info3 rfl (by decide) (by omega) v194 y193 y196 _ _ _ (fun k_ => some k_ ≠ (.slice Ao7 x3_1.length co7 : Value).ownBlock ∧ some k_ ≠ (.slice Ao53 y190.length co53 : Value).ownBlock) (fun _ => False) rfl rfl ?aO ?aR (fun _ _ h => h) (fun _ h => h.elim) ?aF ?aB ?aS ?aL ?_
 (case aR => exact (show Kd.C (Kd.int .i64) _ A47 y196.length y196 from by rw [Ny196.out, KA47.out]; exact Kd.C_drop (m := (x6_2 : Int).toNat) (c := co7) ((Kd.R_reads' (Kd.R_p HO_3)).2.2) KL47.out ((Kd.R_reads' (Kd.R_p HO_3)).2.1)))
 (case aB => exact (hb_ HB))
 (case aF => exact (fun k_ hk => ⟨Kd.fresh' (Kd.R_lt (Kd.R_p HO_3)) k_ hk, Kd.fresh' (Kd.R_lt (Kd.R_p HO192)) k_ hk⟩))
 (case aO => exact (Kd.R_p HO195))
 (case aS => exact (below_size (hb_ HB)))
 (case aL => have := LMc43.out; omega)
 intro v201 w54 ho hb hg hat
 rw [← Ny200.out] at ho
 replace HO_3 := Aside0.mk (Kd.R_after (ok := (fun k_ => some k_ ≠ (.slice Ao53 y190.length co53 : Value).ownBlock)) (Kd.R_p HO_3) hg hat)
 replace BK159 := Aside0.mk (blk_grown (kp_ BK159) hg (Kd.R_ne HO195.out BK159.out (by decide)))
 replace HO192 := Aside0.mk (Kd.R_after (ok := (fun k_ => some k_ ≠ (.slice Ao7 x3_1.length co7 : Value).ownBlock)) (Kd.R_p HO192) hg hat)
 replace HB := Aside0.mk (hb)
 have HO202 := Aside0.mk (ho)
 clear HO195
 clear ho hb hg hat
 refine hK.out _ _ trivial (fun hHeld => ?_)
 clear hK K
 refine nm_ (some 42) (h := ?_)
 refine pl_ HT_ 11 (some 3) (bb 12 4095) (h := ?_)
 refine done_ (done_of HT_.out (by kernel_rfl)) ?_
 try go_wp2
 go_roundg k2
 case measure => have := HK1.out; have := HK2.out; omega
 case rel => exact ⟨(y200), (wrap64 (x9_1 + 1)), (by first | rfl | (simp; done) | (simp [*]; done)), H', ⟨by have := HK1.out; have := HK2.out; omega⟩, ⟨rm_ (h := HO202.out)⟩, ⟨hb_ HB⟩⟩

end Go.Proofs.Ytceajigggcihnaa.PFnCoarse
