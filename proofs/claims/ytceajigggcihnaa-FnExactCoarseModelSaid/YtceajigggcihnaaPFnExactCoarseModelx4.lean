-- Laid for this claim by wip/tools/print2.sh, a changed copy of the kit's print (wip/tools/patch_print.py): not by print.sh.
import Derived.Test.YtceajigggcihnaaPFnExactCoarseModelx0
import Derived.Test.YtceajigggcihnaaPFnExactCoarseModelx2
import Derived.Test.YtceajigggcihnaaPFnExactCoarseModelx3
namespace Go.Proofs.Ytceajigggcihnaa.PFnExactCoarseModel
open Go.RowKit Go.Proofs.YtceajigggcihnaaW.PrintWords Go.Proofs.YtceajigggcihnaaW.PrintLast Go.Proofs.YtceajigggcihnaaW.PrintMore
attribute [local go_sem] max2_int min2_int max_two min_two max_three min_three max_four min_four   -- for this text's walks alone
set_option linter.unusedVariables false
set_option linter.unusedSimpArgs false

/-! ### spec_CoarseModel: function 33 -/
mutual
def spec_CoarseModel.l0 : Nat → Int → Int → Int → Int → Int → List Int → List Int → List Int → Int → Int → Int → List Int → List Int → List Int → Option (Int × Int × Int × List Int × List Int × List Int × Int × Bool)
 | 0, _, _, _, _, _, _, _, _, _, _, _, _, _, _ => none
 | k + 1, x6, x7, x193000, x193001, x193002, x193003, x193004, x193005, x199000, x199001, x199002, x199003, x199004, x199005 => (spec_grCount.f x199000 x199001 x199002).bind fun t199 => (if x7 < t199 then (spec_CoarseModel.l1 k x6 x7 ([] : List (S29)) (x193003.length : Int) 0 x193000 x193001 x193002 x193003 x193004 x193005 x199000 x199001 x199002 x199003 x199004 x199005) else (some (x199000, x199001, x199002, x199003, x199004, x199005, x6, true)))
def spec_CoarseModel.l1 : Nat → Int → Int → List (S29) → Int → Int → Int → Int → Int → List Int → List Int → List Int → Int → Int → Int → List Int → List Int → List Int → Option (Int × Int × Int × List Int × List Int × List Int × Int × Bool)
 | 0, _, _, _, _, _, _, _, _, _, _, _, _, _, _, _, _, _ => none
 | k + 1, x6, x7, x8, x28, x29, x193000, x193001, x193002, x193003, x193004, x193005, x199000, x199001, x199002, x199003, x199004, x199005 => if x29 < x28 then ((spec_sbCoarse.f x193000 x193001 x193002 x29).bind fun t200 => (if t200 = x7 then ((spec_sbOf.f x193000 x193001 x193002 x193003 x193004 x193005 x29).bind fun bt201 => (if x8.length < 5864062014805 then (spec_CoarseModel.l1 k x6 x7 (x8 ++ [(⟨bt201.1, bt201.2.1, bt201.2.2⟩ : S29)]) x28 (wrap64 (x29 + 1)) x193000 x193001 x193002 x193003 x193004 x193005 x199000 x199001 x199002 x199003 x199004 x199005) else (none))) else (spec_CoarseModel.l1 k x6 x7 x8 x28 (wrap64 (x29 + 1)) x193000 x193001 x193002 x193003 x193004 x193005 x199000 x199001 x199002 x199003 x199004 x199005))) else ((spec_sbJoin.f k x8).bind fun bt207 => ((spec_sbPiece.f bt207.1 bt207.2.1 bt207.2.2).bind fun t211 => (if t211 = true then (if x199003.length < 17592186044416 then ((spec_sbRound.f bt207.1 bt207.2.1 bt207.2.2).bind fun t215 => (if x199004.length < 17592186044416 then (if x199005.length < 17592186044416 then ((spec_sbRound.f bt207.1 bt207.2.1 bt207.2.2).bind fun t222 => (spec_CoarseModel.l0 k (wrap64 (x6 + (wrap64 ((wrap64 (bt207.1 * t222)) - bt207.2.1)))) (wrap64 (x7 + 1)) x193000 x193001 x193002 x193003 x193004 x193005 x199000 x199001 x199002 (x199003 ++ [bt207.1]) (x199004 ++ [t215]) (x199005 ++ [bt207.2.2]))) else (none)) else (none))) else (none)) else (some (0, 0, 0, ([] : List Int), ([] : List Int), ([] : List Int), 0, false)))))
end
def spec_CoarseModel.f (k : Nat) (a0_0 : Int) (a0_1 : Int) (a0_2 : Int) (l0_3 : List Int) (l0_4 : List Int) (l0_5 : List Int) : Option (Int × Int × Int × List Int × List Int × List Int × Int × Bool) := (spec_moGood.f k a0_0 a0_1 a0_2 l0_3 l0_4 l0_5).bind fun t194 => (if t194 = true then ((spec_sbGrid.f a0_0 a0_1 a0_2).bind fun bt195 => (spec_CoarseModel.l0 k 0 0 a0_0 a0_1 a0_2 l0_3 l0_4 l0_5 bt195.1 bt195.2.1 bt195.2.2 ([] : List Int) ([] : List Int) ([] : List Int))) else (some (0, 0, 0, ([] : List Int), ([] : List Int), ([] : List Int), 0, false)))
def spec_CoarseModel.T19 : Bool × List (List Nat × List Nat) := (true, [([], []), ([0], [0]), ([], []), ([2], [2]), ([3], [3]), ([1, 4, 3], [1, 4]), ([0, 1, 2, 3, 4, 5], []), ([6, 5, 5, 0, 1, 2, 3, 4, 5], [5, 6])])
def spec_CoarseModel.B19 : List Nat := [0, 1, 0, 4, 12, 31, 63, 127]
theorem spec_CoarseModel.tab19 : rtab .any (opsOf Try.f33 19) = spec_CoarseModel.T19 := by kernel_rfl
theorem spec_CoarseModel.bits19 : waitsOk spec_CoarseModel.T19.2 spec_CoarseModel.B19 = true := by kernel_rfl
def spec_CoarseModel.T21 : Bool × List (List Nat × List Nat) := (true, [([], []), ([], []), ([1], [1]), ([], []), ([3], [3]), ([2, 4], [2, 4]), ([], []), ([6], [6]), ([5, 7], [5, 7]), ([0, 8], [0, 8]), ([9, 4, 0, 1, 2, 3, 4, 5, 6, 7, 8, 9], [0, 9])])
def spec_CoarseModel.B21 : List Nat := [0, 0, 2, 0, 8, 30, 0, 64, 254, 511, 1023]
theorem spec_CoarseModel.tab21 : rtab .any (opsOf Try.f33 21) = spec_CoarseModel.T21 := by kernel_rfl
theorem spec_CoarseModel.bits21 : waitsOk spec_CoarseModel.T21.2 spec_CoarseModel.B21 = true := by kernel_rfl
set_option maxHeartbeats 8000000 in
set_option maxRecDepth 100000 in
theorem spec_CoarseModel.calls (k : Nat) (a0_0 : Int) (a0_1 : Int) (a0_2 : Int) (A0_3 : Option Addr) (c0_3 : Nat) (l0_3 : List Int) (A0_4 : Option Addr) (c0_4 : Nat) (l0_4 : List Int) (A0_5 : Option Addr) (c0_5 : Nat) (l0_5 : List Int) (r1 : Int) (r2 : Int) (r3 : Int) (r4 : List Int) (r5 : List Int) (r6 : List Int) (r7 : Int) (r8 : Bool) (w : World) (hr0_3 : Kd.C (Kd.int .i64) w A0_3 l0_3.length l0_3) (hc0_3 : l0_3.length ≤ c0_3) (hr0_4 : Kd.C (Kd.int .i64) w A0_4 l0_4.length l0_4) (hc0_4 : l0_4.length ≤ c0_4) (hr0_5 : Kd.C (Kd.int .i64) w A0_5 l0_5.length l0_5) (hc0_5 : l0_5.length ≤ c0_5) (h : spec_CoarseModel.f k a0_0 a0_1 a0_2 l0_3 l0_4 l0_5 = some (r1, r2, r3, r4, r5, r6, r7, r8)) :
  Calls Try.prog 33 #[.agg #[.int .i64 a0_0, .int .i64 a0_1, .int .i64 a0_2, .slice A0_3 l0_3.length c0_3, .slice A0_4 l0_4.length c0_4, .slice A0_5 l0_5.length c0_5]] w fun e w' => ∃ v3_ v4_ v5_ : Value, e = .returned (.tuple #[.agg #[.int .i64 r1, .int .i64 r2, .int .i64 r3, v3_, v4_, v5_], .int .i64 r7, .bool r8]) ∧ Kd.R (Kd.int .i64) 3 w' w.heap.size (fun k_ => some k_ ≠ (v4_ : Value).ownBlock ∧ some k_ ≠ (v5_ : Value).ownBlock) v3_ r4 ∧ Kd.R (Kd.int .i64) 3 w' w.heap.size (fun k_ => some k_ ≠ (v3_ : Value).ownBlock ∧ some k_ ≠ (v5_ : Value).ownBlock) v4_ r5 ∧ Kd.R (Kd.int .i64) 3 w' w.heap.size (fun k_ => some k_ ≠ (v3_ : Value).ownBlock ∧ some k_ ≠ (v4_ : Value).ownBlock) v5_ r6 ∧ Below w.heap.size w w' := by
 have hu34 := Try.underlying34
 have hu32 := Try.underlying32
 have hu29 := Try.underlying29
 have HR0_3 := Aside0.mk hr0_3
 have HC0_3 := Aside0.mk hc0_3
 clear hr0_3 hc0_3
 have HR0_4 := Aside0.mk hr0_4
 have HC0_4 := Aside0.mk hc0_4
 clear hr0_4 hc0_4
 have HR0_5 := Aside0.mk hr0_5
 have HC0_5 := Aside0.mk hc0_5
 clear hr0_5 hc0_5
 have HB := Aside0.mk (Below.refl w.heap.size w)
 have H : ((spec_moGood.f k a0_0 a0_1 a0_2 l0_3 l0_4 l0_5).bind fun t194 => (if t194 = true then ((spec_sbGrid.f a0_0 a0_1 a0_2).bind fun bt195 => (spec_CoarseModel.l0 k 0 0 a0_0 a0_1 a0_2 l0_3 l0_4 l0_5 bt195.1 bt195.2.1 bt195.2.2 ([] : List Int) ([] : List Int) ([] : List Int))) else (some (0, 0, 0, ([] : List Int), ([] : List Int), ([] : List Int), 0, false)))) = some (r1, r2, r3, r4, r5, r6, r7, r8) := h
 clear h
 replace H := Option.bind_eq_some_iff.mp H
 obtain ⟨t194, A20, H⟩ := H
 replace H : (if t194 = true then ((spec_sbGrid.f a0_0 a0_1 a0_2).bind fun bt195 => (spec_CoarseModel.l0 k 0 0 a0_0 a0_1 a0_2 l0_3 l0_4 l0_5 bt195.1 bt195.2.1 bt195.2.2 ([] : List Int) ([] : List Int) ([] : List Int))) else (some (0, 0, 0, ([] : List Int), ([] : List Int), ([] : List Int), 0, false))) = some (r1, r2, r3, r4, r5, r6, r7, r8) := H
 have A2 := Aside0.mk A20
 clear A20
 by_cases c3 : t194 = true
 ·subst c3
  have H1 : ((spec_sbGrid.f a0_0 a0_1 a0_2).bind fun bt195 => (spec_CoarseModel.l0 k 0 0 a0_0 a0_1 a0_2 l0_3 l0_4 l0_5 bt195.1 bt195.2.1 bt195.2.2 ([] : List Int) ([] : List Int) ([] : List Int))) = some (r1, r2, r3, r4, r5, r6, r7, r8) := by rw [if_pos rfl] at H; exact H
  clear H
  have H := H1
  clear H1
  replace H := Option.bind_eq_some_iff.mp H
  obtain ⟨⟨t195, t196, t197⟩, A40, H⟩ := H
  replace H : (spec_CoarseModel.l0 k 0 0 a0_0 a0_1 a0_2 l0_3 l0_4 l0_5 t195 t196 t197 ([] : List Int) ([] : List Int) ([] : List Int)) = some (r1, r2, r3, r4, r5, r6, r7, r8) := H
  have A4 := Aside0.mk A40
  clear A40
  have H' := Aside0.mk H
  clear H
  go_enter Try.func33, Try.ntmps33
  go_wp2_with (first | ((with_reducible refine gate_dst (N := 1) rfl ?_); refine box_event ?hg (N := 1) ?hd (cs := #[.int .i64 a0_0, .int .i64 a0_1, .int .i64 a0_2, .slice A0_3 l0_3.length c0_3, .slice A0_4 l0_4.length c0_4, .slice A0_5 l0_5.length c0_5]) (t := 34) ?hr ?_; (case hd => rfl); (case hg => rfl); (case hr => first | (go_simp; done) | (go_simp; rfl)); intro gb192 hg w5 hbox hb; have BK192 := Aside0.mk (hbox); have GW192 := gs_ hg HB; have GE192 := gs_ hg HB; replace HB := hbs_ HB hb; clear hb hbox hg) | ((with_reducible refine gate_dst (N := 2) rfl ?_); refine box_event ?hg (N := 2) ?hd (cs := #[.int .i64 0, .int .i64 0, .int .i64 0, .slice none 0 0, .slice none 0 0, .slice none 0 0]) (t := 34) ?hr ?_; (case hd => rfl); (case hg => rfl); (case hr => first | (go_simp; done) | (go_simp; rfl)); intro gb193 hg w6 hbox hb; have BK193 := Aside0.mk (hbox); have GW193 := gs_ hg HB; have GE193 := gs_ hg HB; have NB192_193 := nl_ hg BK192; have NB193_192 := ng_ hg BK192; replace BK192 := kb_ BK192 hb; replace HB := hbs_ HB hb; clear hb hbox hg; have hnb7 := NB192_193.out; have hnc7 := NB193_192.out; obtain ⟨hcz8_0, hcz8_1, hcz8_2, hcz8_3, hcz8_4, hcz8_5, hfz8_0, hfz8_1, hfz8_2, hfz8_3, hfz8_4, hfz8_5⟩ := bx6 BK192) | ((with_reducible refine gate_callee (f := 77) rfl ?_); refine gl_ (some 12) Try.func77 #[.agg #[.int .i64 a0_0, .int .i64 a0_1, .int .i64 a0_2, .slice A0_3 l0_3.length c0_3, .slice A0_4 l0_4.length c0_4, .slice A0_5 l0_5.length c0_5]] rfl rfl rfl ?_; (with_reducible refine (spec_moGood.calls k a0_0 a0_1 a0_2 _ _ l0_3 _ _ l0_4 _ _ l0_5 true _ ?side1 ?side2 ?side3 ?side4 ?side5 ?side6 A2.out).mono ?_); (case side1 => exact Kd.C_w HR0_3 HB); (case side2 => exact HC0_3.out); (case side3 => exact Kd.C_w HR0_4 HB); (case side4 => exact HC0_4.out); (case side5 => exact Kd.C_w HR0_5 HB); (case side6 => exact HC0_5.out); rintro e w9 ⟨rfl, hb⟩; refine ⟨_, rfl, ?_⟩; replace BK192 := kb_ BK192 hb; replace BK193 := kb_ BK193 hb; replace HB := hbs_ HB hb; (try clear hb); (try clear hb2); (try clear hk); (try clear hi); obtain ⟨hcz10_0, hcz10_1, hcz10_2, hcz10_3, hcz10_4, hcz10_5, hfz10_0, hfz10_1, hfz10_2, hfz10_3, hfz10_4, hfz10_5⟩ := bx6 BK192) | ((with_reducible refine gate_callee (f := 78) rfl ?_); refine gl_ (some 17) Try.func78 #[.agg #[.int .i64 a0_0, .int .i64 a0_1, .int .i64 a0_2]] rfl rfl rfl ?_; (with_reducible refine (spec_sbGrid.calls a0_0 a0_1 a0_2 t195 t196 t197 _ A4.out).mono ?_); rintro e w11 ⟨rfl, hb⟩; refine ⟨_, rfl, ?_⟩; replace BK192 := kb_ BK192 hb; replace BK193 := kb_ BK193 hb; replace HB := hbs_ HB hb; (try clear hb); (try clear hb2); (try clear hk); (try clear hi)) | ((with_reducible refine gate_dst (N := 5) rfl ?_); refine box_event ?hg (N := 5) ?hd (cs := #[.int .i64 0, .int .i64 0, .int .i64 0, .slice none 0 0, .slice none 0 0, .slice none 0 0]) (t := 34) ?hr ?_; (case hd => rfl); (case hg => rfl); (case hr => first | (go_simp; done) | (go_simp; rfl)); intro gb198 hg w12 hbox hb; have BK198 := Aside0.mk (hbox); have GW198 := gs_ hg HB; have GE198 := gs_ hg HB; have NB192_198 := nl_ hg BK192; have NB198_192 := ng_ hg BK192; have NB193_198 := nl_ hg BK193; have NB198_193 := ng_ hg BK193; replace BK192 := kb_ BK192 hb; replace BK193 := kb_ BK193 hb; replace HB := hbs_ HB hb; clear hb hbox hg; have hnb13 := NB198_192.out; have hnc13 := NB192_198.out; have hnb14 := NB198_193.out; have hnc14 := NB193_198.out; obtain ⟨hcz15_0, hcz15_1, hcz15_2, hcz15_3, hcz15_4, hcz15_5, hfz15_0, hfz15_1, hfz15_2, hfz15_3, hfz15_4, hfz15_5⟩ := bx6 BK198))
  go_loopg [6, 7] k (fun kq v6 v7 w' => ∃ (x6_1 : Int) (x7_1 : Int) (x194000_1 : Int) (x194001_1 : Int) (x194002_1 : Int) (x199003_1 : List Int) (x199004_1 : List Int) (x199005_1 : List Int) (u199003 : Value) (u199004 : Value) (u199005 : Value), v6 = .int .i64 x6_1 ∧ v7 = .int .i64 x7_1 ∧ Aside0 (spec_CoarseModel.l0 kq x6_1 x7_1 a0_0 a0_1 a0_2 l0_3 l0_4 l0_5 t195 t196 t197 x199003_1 x199004_1 x199005_1 = some (r1, r2, r3, r4, r5, r6, r7, r8)) ∧ Aside0 (kq ≤ k) ∧ Aside0 (Kd.R (Kd.int .i64) 3 w' w.heap.size (fun k_ => some k_ ≠ (u199004 : Value).ownBlock ∧ some k_ ≠ (u199005 : Value).ownBlock) u199003 x199003_1) ∧ Aside0 (Kd.R (Kd.int .i64) 3 w' w.heap.size (fun k_ => some k_ ≠ (u199003 : Value).ownBlock ∧ some k_ ≠ (u199005 : Value).ownBlock) u199004 x199004_1) ∧ Aside0 (Kd.R (Kd.int .i64) 3 w' w.heap.size (fun k_ => some k_ ≠ (u199003 : Value).ownBlock ∧ some k_ ≠ (u199004 : Value).ownBlock) u199005 x199005_1) ∧ Aside0 (w'.heap[gb192]? = some (.cells #[.int .i64 a0_0, .int .i64 a0_1, .int .i64 a0_2, (.slice A0_3 l0_3.length c0_3), (.slice A0_4 l0_4.length c0_4), (.slice A0_5 l0_5.length c0_5)] 34 (0, 0))) ∧ Aside0 (w'.heap[gb193]? = some (.cells #[.int .i64 x194000_1, .int .i64 x194001_1, .int .i64 x194002_1, (.slice none 0 0), (.slice none 0 0), (.slice none 0 0)] 34 (0, 0))) ∧ Aside0 (w'.heap[gb198]? = some (.cells #[.int .i64 t195, .int .i64 t196, .int .i64 t197, u199003, u199004, u199005] 34 (0, 0))) ∧ Aside0 (Below w.heap.size w w'))
  case atStart => exact ⟨(0), (0), (0), (0), (0), (([] : List Int)), (([] : List Int)), (([] : List Int)), (.slice none 0 0), (.slice none 0 0), (.slice none 0 0), (by first | rfl | (simp; done) | (simp [*]; done)), (by first | rfl | (simp; done) | (simp [*]; done)), H', ⟨Nat.le_refl _⟩, ⟨by first | exact Kd.R_nil _ _ _ _ _ | exact Kd.N_nil _ _ _ _ _ | exact Kd.V_nil _ _ _ _ _ | exact Kd.Q_nil _ _ _ _ _ | exact Kd.S_nil _ _ _ _ _⟩, ⟨by first | exact Kd.R_nil _ _ _ _ _ | exact Kd.N_nil _ _ _ _ _ | exact Kd.V_nil _ _ _ _ _ | exact Kd.Q_nil _ _ _ _ _ | exact Kd.S_nil _ _ _ _ _⟩, ⟨by first | exact Kd.R_nil _ _ _ _ _ | exact Kd.N_nil _ _ _ _ _ | exact Kd.V_nil _ _ _ _ _ | exact Kd.Q_nil _ _ _ _ _ | exact Kd.S_nil _ _ _ _ _⟩, ⟨kf_ BK192 NB192_198⟩, ⟨kf_ BK193 NB193_198⟩, ⟨kpq_ (kputs BK198 [(0, _), (1, _), (2, _), (3, _), (4, _), (5, _)])⟩, ⟨hb_ HB⟩⟩
  case round =>
   clear H'
   (try clear c1); (try clear p2); (try clear c3); (try clear c7); (try clear c13); (try clear c14); (try clear hcz10_0); (try clear hcz10_1); (try clear hcz10_2); (try clear hcz10_3); (try clear hcz10_4); (try clear hcz10_5); (try clear hcz15_0); (try clear hcz15_1); (try clear hcz15_2); (try clear hcz15_3); (try clear hcz15_4); (try clear hcz15_5); (try clear hcz8_0); (try clear hcz8_1); (try clear hcz8_2); (try clear hcz8_3); (try clear hcz8_4); (try clear hcz8_5); (try clear hfz10_0); (try clear hfz10_1); (try clear hfz10_2); (try clear hfz10_3); (try clear hfz10_4); (try clear hfz10_5); (try clear hfz15_0); (try clear hfz15_1); (try clear hfz15_2); (try clear hfz15_3); (try clear hfz15_4); (try clear hfz15_5); (try clear hfz8_0); (try clear hfz8_1); (try clear hfz8_2); (try clear hfz8_3); (try clear hfz8_4); (try clear hfz8_5)
   obtain ⟨x6_1, x7_1, x194000_1, x194001_1, x194002_1, x199003_1, x199004_1, x199005_1, u199003, u199004, u199005, rfl, rfl, HA, HK1, HO_199003, HO_199004, HO_199005, BK192, BK193, BK198, HB⟩ := hrel
   cases gk with
   | zero => exact absurd HA.out (by simp [spec_CoarseModel.l0])
   | succ k1 =>
    have H := HA.out
    clear HA
    simp only [spec_CoarseModel.l0] at H
    replace H := Option.bind_eq_some_iff.mp H
    obtain ⟨t199, A160, H⟩ := H
    replace H : (if x7_1 < t199 then (spec_CoarseModel.l1 k1 x6_1 x7_1 ([] : List (S29)) (l0_3.length : Int) 0 a0_0 a0_1 a0_2 l0_3 l0_4 l0_5 t195 t196 t197 x199003_1 x199004_1 x199005_1) else (some (t195, t196, t197, x199003_1, x199004_1, x199005_1, x6_1, true))) = some (r1, r2, r3, r4, r5, r6, r7, r8) := H
    have A16 := Aside0.mk A160
    clear A160
    by_cases c17 : x7_1 < t199
    ·rw [if_pos c17] at H
     have c17b0 : decide (x7_1 < t199) = true := decide_eq_true c17
     clear c17
     have H' := Aside0.mk H
     clear H
     have hnb18 := NB198_192.out
     have hnc18 := NB192_198.out
     have hnb19 := NB198_193.out
     have hnc19 := NB193_198.out
     have hcz20_0 : wr.cell? ⟨gb198, 0, none⟩ = some (.int .i64 t195) := (blk_cell BK198.out 0).trans rfl
     have hcz20_1 : wr.cell? ⟨gb198, 1, none⟩ = some (.int .i64 t196) := (blk_cell BK198.out 1).trans rfl
     have hcz20_2 : wr.cell? ⟨gb198, 2, none⟩ = some (.int .i64 t197) := (blk_cell BK198.out 2).trans rfl
     have hcz20_3 : wr.cell? ⟨gb198, 3, none⟩ = some (u199003) := (blk_cell BK198.out 3).trans rfl
     have hcz20_4 : wr.cell? ⟨gb198, 4, none⟩ = some (u199004) := (blk_cell BK198.out 4).trans rfl
     have hcz20_5 : wr.cell? ⟨gb198, 5, none⟩ = some (u199005) := (blk_cell BK198.out 5).trans rfl
     have hfz20_0 := blk_frozen BK198.out 0
     have hfz20_1 := blk_frozen BK198.out 1
     have hfz20_2 := blk_frozen BK198.out 2
     have hfz20_3 := blk_frozen BK198.out 3
     have hfz20_4 := blk_frozen BK198.out 4
     have hfz20_5 := blk_frozen BK198.out 5
     go_wp2_with (first | ((with_reducible refine gate_callee (f := 79) rfl ?_); refine gl_ (some 22) Try.func79 #[.agg #[.int .i64 t195, .int .i64 t196, .int .i64 t197]] rfl rfl rfl ?_; (with_reducible refine (spec_grCount.calls t195 t196 t197 t199 _ A16.out).mono ?_); rintro e w21 ⟨rfl, hb⟩; refine ⟨_, rfl, ?_⟩; replace HO_199003 := Kd.R_b HO_199003 hb; replace HO_199004 := Kd.R_b HO_199004 hb; replace HO_199005 := Kd.R_b HO_199005 hb; replace BK192 := kb_ BK192 hb; replace BK193 := kb_ BK193 hb; replace BK198 := kb_ BK198 hb; replace HB := hbs_ HB hb; (try clear hb); (try clear hb2); (try clear hk); (try clear hi); have hnb22 := NB192_193.out; have hnc22 := NB193_192.out; obtain ⟨hcz23_0, hcz23_1, hcz23_2, hcz23_3, hcz23_4, hcz23_5, hfz23_0, hfz23_1, hfz23_2, hfz23_3, hfz23_4, hfz23_5⟩ := bx6 BK192))
     go_loopg [8, 29] k1 (fun kq v8 v29 w' => ∃ (x8_2 : List (S29)) (x29_2 : Int), v29 = .int .i64 x29_2 ∧ Aside0 (spec_CoarseModel.l1 kq x6_1 x7_1 x8_2 (l0_3.length : Int) x29_2 a0_0 a0_1 a0_2 l0_3 l0_4 l0_5 t195 t196 t197 x199003_1 x199004_1 x199005_1 = some (r1, r2, r3, r4, r5, r6, r7, r8)) ∧ Aside0 (kq ≤ k1) ∧ Aside0 (Kd.R k29 29 w' w.heap.size (fun _ => True) v8 x8_2) ∧ Aside0 (Kd.R (Kd.int .i64) 3 w' w.heap.size (fun k_ => some k_ ≠ (u199004 : Value).ownBlock ∧ some k_ ≠ (u199005 : Value).ownBlock) u199003 x199003_1) ∧ Aside0 (Kd.R (Kd.int .i64) 3 w' w.heap.size (fun k_ => some k_ ≠ (u199003 : Value).ownBlock ∧ some k_ ≠ (u199005 : Value).ownBlock) u199004 x199004_1) ∧ Aside0 (Kd.R (Kd.int .i64) 3 w' w.heap.size (fun k_ => some k_ ≠ (u199003 : Value).ownBlock ∧ some k_ ≠ (u199004 : Value).ownBlock) u199005 x199005_1) ∧ Aside0 (w'.heap[gb192]? = some (.cells #[.int .i64 a0_0, .int .i64 a0_1, .int .i64 a0_2, (.slice A0_3 l0_3.length c0_3), (.slice A0_4 l0_4.length c0_4), (.slice A0_5 l0_5.length c0_5)] 34 (0, 0))) ∧ Aside0 (w'.heap[gb193]? = some (.cells #[.int .i64 x194000_1, .int .i64 x194001_1, .int .i64 x194002_1, (.slice none 0 0), (.slice none 0 0), (.slice none 0 0)] 34 (0, 0))) ∧ Aside0 (w'.heap[gb198]? = some (.cells #[.int .i64 t195, .int .i64 t196, .int .i64 t197, u199003, u199004, u199005] 34 (0, 0))) ∧ Aside0 (Below w.heap.size w w'))
     case atStart => exact ⟨(([] : List (S29))), (0), (by first | rfl | (simp; done) | (simp [*]; done)), H', ⟨Nat.le_refl _⟩, ⟨by first | exact Kd.R_nil _ _ _ _ _ | exact Kd.N_nil _ _ _ _ _ | exact Kd.V_nil _ _ _ _ _ | exact Kd.Q_nil _ _ _ _ _ | exact Kd.S_nil _ _ _ _ _⟩, ⟨Kd.R_p HO_199003⟩, ⟨Kd.R_p HO_199004⟩, ⟨Kd.R_p HO_199005⟩, ⟨kp_ BK192⟩, ⟨kp_ BK193⟩, ⟨kp_ BK198⟩, ⟨hb_ HB⟩⟩
     case round =>
      clear H'
      (try clear c1); (try clear c2); (try clear p2); (try clear c3); (try clear c7); (try clear c13); (try clear c14); (try clear c17); (try clear c17b0); (try clear c18); (try clear c19); (try clear c22); (try clear hcz20_0); (try clear hcz20_1); (try clear hcz20_2); (try clear hcz20_3); (try clear hcz20_4); (try clear hcz20_5); (try clear hcz23_0); (try clear hcz23_1); (try clear hcz23_2); (try clear hcz23_3); (try clear hcz23_4); (try clear hcz23_5); (try clear hfz20_0); (try clear hfz20_1); (try clear hfz20_2); (try clear hfz20_3); (try clear hfz20_4); (try clear hfz20_5); (try clear hfz23_0); (try clear hfz23_1); (try clear hfz23_2); (try clear hfz23_3); (try clear hfz23_4); (try clear hfz23_5)
      obtain ⟨x8_2, x29_2, rfl, HA, HK2, HO_8, HO_199003, HO_199004, HO_199005, BK192, BK193, BK198, HB⟩ := hrel
      cases gk with
      | zero => exact absurd HA.out (by simp [spec_CoarseModel.l1])
      | succ k2 =>
       have H := HA.out
       clear HA
       simp only [spec_CoarseModel.l1] at H
       by_cases c24 : x29_2 < (l0_3.length : Int)
       ·rw [if_pos c24] at H
        have c24b0 : decide (x29_2 < (l0_3.length : Int)) = true := decide_eq_true c24
        clear c24
        replace H := Option.bind_eq_some_iff.mp H
        obtain ⟨t200, A250, H⟩ := H
        replace H : (if t200 = x7_1 then ((spec_sbOf.f a0_0 a0_1 a0_2 l0_3 l0_4 l0_5 x29_2).bind fun bt201 => (if x8_2.length < 5864062014805 then (spec_CoarseModel.l1 k2 x6_1 x7_1 (x8_2 ++ [(⟨bt201.1, bt201.2.1, bt201.2.2⟩ : S29)]) (l0_3.length : Int) (wrap64 (x29_2 + 1)) a0_0 a0_1 a0_2 l0_3 l0_4 l0_5 t195 t196 t197 x199003_1 x199004_1 x199005_1) else (none))) else (spec_CoarseModel.l1 k2 x6_1 x7_1 x8_2 (l0_3.length : Int) (wrap64 (x29_2 + 1)) a0_0 a0_1 a0_2 l0_3 l0_4 l0_5 t195 t196 t197 x199003_1 x199004_1 x199005_1)) = some (r1, r2, r3, r4, r5, r6, r7, r8) := H
        have A25 := Aside0.mk A250
        clear A250
        by_cases c26 : t200 = x7_1
        ·rw [if_pos c26] at H
         have c26b0 : (t200 == x7_1) = true := beq_iff_eq.mpr c26
         have c26b1 : (t200 != x7_1) = false := bne_eq_false_iff_eq.mpr c26
         clear c26
         replace H := Option.bind_eq_some_iff.mp H
         obtain ⟨⟨t201, t202, t203⟩, A270, H⟩ := H
         replace H : (if x8_2.length < 5864062014805 then (spec_CoarseModel.l1 k2 x6_1 x7_1 (x8_2 ++ [(⟨t201, t202, t203⟩ : S29)]) (l0_3.length : Int) (wrap64 (x29_2 + 1)) a0_0 a0_1 a0_2 l0_3 l0_4 l0_5 t195 t196 t197 x199003_1 x199004_1 x199005_1) else (none)) = some (r1, r2, r3, r4, r5, r6, r7, r8) := H
         have A27 := Aside0.mk A270
         clear A270
         by_cases c28 : x8_2.length < 5864062014805
         ·rw [if_pos c28] at H
          have LMc28 := Aside0.mk c28
          clear c28
          obtain ⟨y204, hy204⟩ : ∃ y_ : List (S29), y_ = (x8_2 ++ [(⟨t201, t202, t203⟩ : S29)]) := ⟨_, rfl⟩
          replace H : (spec_CoarseModel.l1 k2 x6_1 x7_1 y204 (l0_3.length : Int) (wrap64 (x29_2 + 1)) a0_0 a0_1 a0_2 l0_3 l0_4 l0_5 t195 t196 t197 x199003_1 x199004_1 x199005_1) = some (r1, r2, r3, r4, r5, r6, r7, r8) := by first | (rw [hy204]; with_reducible exact H) | (have H2_ := (Option.bind_some _ _).symm.trans H; rw [hy204]; with_reducible exact H2_) | (have H2_ := (Option.bind_some _ _).symm.trans H; with_reducible exact H2_) | with_reducible exact H | (rw [hy204]; exact H) | exact H
          have Ny204 := Aside0.mk hy204
          clear hy204
          have H' := Aside0.mk H
          clear H
          have hnb29 := NB192_193.out
          have hnc29 := NB193_192.out
          have hnb30 := NB192_198.out
          have hnc30 := NB198_192.out
          have hcz31_0 : wr.cell? ⟨gb192, 0, none⟩ = some (.int .i64 a0_0) := (blk_cell BK192.out 0).trans rfl
          have hcz31_1 : wr.cell? ⟨gb192, 1, none⟩ = some (.int .i64 a0_1) := (blk_cell BK192.out 1).trans rfl
          have hcz31_2 : wr.cell? ⟨gb192, 2, none⟩ = some (.int .i64 a0_2) := (blk_cell BK192.out 2).trans rfl
          have hcz31_3 : wr.cell? ⟨gb192, 3, none⟩ = some (.slice A0_3 l0_3.length c0_3) := (blk_cell BK192.out 3).trans rfl
          have hcz31_4 : wr.cell? ⟨gb192, 4, none⟩ = some (.slice A0_4 l0_4.length c0_4) := (blk_cell BK192.out 4).trans rfl
          have hcz31_5 : wr.cell? ⟨gb192, 5, none⟩ = some (.slice A0_5 l0_5.length c0_5) := (blk_cell BK192.out 5).trans rfl
          have hfz31_0 := blk_frozen BK192.out 0
          have hfz31_1 := blk_frozen BK192.out 1
          have hfz31_2 := blk_frozen BK192.out 2
          have hfz31_3 := blk_frozen BK192.out 3
          have hfz31_4 := blk_frozen BK192.out 4
          have hfz31_5 := blk_frozen BK192.out 5
          go_wp2_with (first | ((with_reducible refine gate_callee (f := 80) rfl ?_); refine gl_ (some 35) Try.func80 #[.agg #[.int .i64 a0_0, .int .i64 a0_1, .int .i64 a0_2], .int .i64 x29_2] rfl rfl rfl ?_; (with_reducible refine (spec_sbCoarse.calls a0_0 a0_1 a0_2 x29_2 t200 _ A25.out).mono ?_); rintro e w32 ⟨rfl, hb⟩; refine ⟨_, rfl, ?_⟩; replace HO_8 := Kd.R_b HO_8 hb; replace HO_199003 := Kd.R_b HO_199003 hb; replace HO_199004 := Kd.R_b HO_199004 hb; replace HO_199005 := Kd.R_b HO_199005 hb; replace BK192 := kb_ BK192 hb; replace BK193 := kb_ BK193 hb; replace BK198 := kb_ BK198 hb; replace HB := hbs_ HB hb; (try clear hb); (try clear hb2); (try clear hk); (try clear hi); obtain ⟨hcz33_0, hcz33_1, hcz33_2, hcz33_3, hcz33_4, hcz33_5, hfz33_0, hfz33_1, hfz33_2, hfz33_3, hfz33_4, hfz33_5⟩ := bx6 BK192) | ((with_reducible refine gate_callee (f := 62) rfl ?_); refine gl_ (some 41) Try.func62 #[.agg #[.int .i64 a0_0, .int .i64 a0_1, .int .i64 a0_2, .slice A0_3 l0_3.length c0_3, .slice A0_4 l0_4.length c0_4, .slice A0_5 l0_5.length c0_5], .int .i64 x29_2] rfl rfl rfl ?_; (with_reducible refine (spec_sbOf.calls a0_0 a0_1 a0_2 _ _ l0_3 _ _ l0_4 _ _ l0_5 x29_2 t201 t202 t203 _ ?side1 ?side2 ?side3 ?side4 ?side5 ?side6 A27.out).mono ?_); (case side1 => exact Kd.C_w HR0_3 HB); (case side2 => exact HC0_3.out); (case side3 => exact Kd.C_w HR0_4 HB); (case side4 => exact HC0_4.out); (case side5 => exact Kd.C_w HR0_5 HB); (case side6 => exact HC0_5.out); rintro e w34 ⟨rfl, hb⟩; refine ⟨_, rfl, ?_⟩; replace HO_8 := Kd.R_b HO_8 hb; replace HO_199003 := Kd.R_b HO_199003 hb; replace HO_199004 := Kd.R_b HO_199004 hb; replace HO_199005 := Kd.R_b HO_199005 hb; replace BK192 := kb_ BK192 hb; replace BK193 := kb_ BK193 hb; replace BK198 := kb_ BK198 hb; replace HB := hbs_ HB hb; (try clear hb); (try clear hb2); (try clear hk); (try clear hi)) | ((with_reducible refine gate_builtin (b := .append) (xs := #[.tmp 38, .tmp 42]) rfl ?_); at_builtin; refine Kd.R_append k29 (w0 := w) w.heap.size rfl (.tmp 38) (.tmp 42) 42 29 (.agg #[(.int .i64 0), (.int .i64 0), (.int .i64 0)]) 24 rfl Try.underlying42 info29 rfl (by decide) (by omega) u8 x8_2 (⟨t201, t202, t203⟩ : S29) [.int .i64 t201, .int .i64 t202, .int .i64 t203] (fun _ => True) (fun _ => False) rfl rfl ?aP (fun _ hk => hk.elim) ?aF ?aO ?aB ?aS ?aL ?_; (case aP => exact k29_mkM _ _ _ (⟨t201, t202, t203⟩ : S29)); (case aB => exact (hb_ HB)); (case aF => exact (fun _ _ => trivial)); (case aO => exact (Kd.R_p HO_8)); (case aS => exact (below_size (hb_ HB))); (case aL => have := LMc28.out; omega); intro v205 w35 ho hb hg hat; rw [← Ny204.out] at ho; have HO206 := Aside0.mk (ho); replace HO_199003 := Aside0.mk (Kd.R_over' (Kd.R_p HO_199003) (Kd.R_typed (Kd.R_p HO_8)) (by decide) hg); replace HO_199004 := Aside0.mk (Kd.R_over' (Kd.R_p HO_199004) (Kd.R_typed (Kd.R_p HO_8)) (by decide) hg); replace HO_199005 := Aside0.mk (Kd.R_over' (Kd.R_p HO_199005) (Kd.R_typed (Kd.R_p HO_8)) (by decide) hg); replace BK192 := Aside0.mk (blk_grown (kp_ BK192) hg (Kd.R_ne HO_8.out BK192.out (by decide))); replace BK193 := Aside0.mk (blk_grown (kp_ BK193) hg (Kd.R_ne HO_8.out BK193.out (by decide))); replace BK198 := Aside0.mk (blk_grown (kp_ BK198) hg (Kd.R_ne HO_8.out BK198.out (by decide))); replace HB := Aside0.mk (hb); clear HO_8; clear ho hb hg hat))
          go_roundg k2
          case measure => have := HK1.out; have := HK2.out; omega
          case rel => exact ⟨(y204), (wrap64 (x29_2 + 1)), (by first | rfl | (simp; done) | (simp [*]; done)), H', ⟨by have := HK1.out; have := HK2.out; omega⟩, ⟨Kd.R_p HO206⟩, ⟨Kd.R_p HO_199003⟩, ⟨Kd.R_p HO_199004⟩, ⟨Kd.R_p HO_199005⟩, ⟨kp_ BK192⟩, ⟨kp_ BK193⟩, ⟨kp_ BK198⟩, ⟨hb_ HB⟩⟩
         ·rw [if_neg c28] at H
          exact absurd H (by simp)
        ·rw [if_neg c26] at H
         have c26b0 : (t200 == x7_1) = false := beq_eq_false_iff_ne.mpr c26
         have c26b1 : (t200 != x7_1) = true := bne_iff_ne.mpr c26
         have H' := Aside0.mk H
         clear H
         have hnb36 := NB192_193.out
         have hnc36 := NB193_192.out
         have hnb37 := NB192_198.out
         have hnc37 := NB198_192.out
         have hcz38_0 : wr.cell? ⟨gb192, 0, none⟩ = some (.int .i64 a0_0) := (blk_cell BK192.out 0).trans rfl
         have hcz38_1 : wr.cell? ⟨gb192, 1, none⟩ = some (.int .i64 a0_1) := (blk_cell BK192.out 1).trans rfl
         have hcz38_2 : wr.cell? ⟨gb192, 2, none⟩ = some (.int .i64 a0_2) := (blk_cell BK192.out 2).trans rfl
         have hcz38_3 : wr.cell? ⟨gb192, 3, none⟩ = some (.slice A0_3 l0_3.length c0_3) := (blk_cell BK192.out 3).trans rfl
         have hcz38_4 : wr.cell? ⟨gb192, 4, none⟩ = some (.slice A0_4 l0_4.length c0_4) := (blk_cell BK192.out 4).trans rfl
         have hcz38_5 : wr.cell? ⟨gb192, 5, none⟩ = some (.slice A0_5 l0_5.length c0_5) := (blk_cell BK192.out 5).trans rfl
         have hfz38_0 := blk_frozen BK192.out 0
         have hfz38_1 := blk_frozen BK192.out 1
         have hfz38_2 := blk_frozen BK192.out 2
         have hfz38_3 := blk_frozen BK192.out 3
         have hfz38_4 := blk_frozen BK192.out 4
         have hfz38_5 := blk_frozen BK192.out 5
         go_wp2_with (first | ((with_reducible refine gate_callee (f := 80) rfl ?_); refine gl_ (some 35) Try.func80 #[.agg #[.int .i64 a0_0, .int .i64 a0_1, .int .i64 a0_2], .int .i64 x29_2] rfl rfl rfl ?_; (with_reducible refine (spec_sbCoarse.calls a0_0 a0_1 a0_2 x29_2 t200 _ A25.out).mono ?_); rintro e w39 ⟨rfl, hb⟩; refine ⟨_, rfl, ?_⟩; replace HO_8 := Kd.R_b HO_8 hb; replace HO_199003 := Kd.R_b HO_199003 hb; replace HO_199004 := Kd.R_b HO_199004 hb; replace HO_199005 := Kd.R_b HO_199005 hb; replace BK192 := kb_ BK192 hb; replace BK193 := kb_ BK193 hb; replace BK198 := kb_ BK198 hb; replace HB := hbs_ HB hb; (try clear hb); (try clear hb2); (try clear hk); (try clear hi)))
         go_roundg k2
         case measure => have := HK1.out; have := HK2.out; omega
         case rel => exact ⟨(x8_2), (wrap64 (x29_2 + 1)), (by first | rfl | (simp; done) | (simp [*]; done)), H', ⟨by have := HK1.out; have := HK2.out; omega⟩, ⟨Kd.R_p HO_8⟩, ⟨Kd.R_p HO_199003⟩, ⟨Kd.R_p HO_199004⟩, ⟨Kd.R_p HO_199005⟩, ⟨kp_ BK192⟩, ⟨kp_ BK193⟩, ⟨kp_ BK198⟩, ⟨hb_ HB⟩⟩
       ·rw [if_neg c24] at H
        have c24b0 : decide (x29_2 < (l0_3.length : Int)) = false := decide_eq_false c24
        clear c24
        replace H := Option.bind_eq_some_iff.mp H
        obtain ⟨⟨t207, t208, t209⟩, A400, H⟩ := H
        replace H : ((spec_sbPiece.f t207 t208 t209).bind fun t211 => (if t211 = true then (if x199003_1.length < 17592186044416 then ((spec_sbRound.f t207 t208 t209).bind fun t215 => (if x199004_1.length < 17592186044416 then (if x199005_1.length < 17592186044416 then ((spec_sbRound.f t207 t208 t209).bind fun t222 => (spec_CoarseModel.l0 k2 (wrap64 (x6_1 + (wrap64 ((wrap64 (t207 * t222)) - t208)))) (wrap64 (x7_1 + 1)) a0_0 a0_1 a0_2 l0_3 l0_4 l0_5 t195 t196 t197 (x199003_1 ++ [t207]) (x199004_1 ++ [t215]) (x199005_1 ++ [t209]))) else (none)) else (none))) else (none)) else (some (0, 0, 0, ([] : List Int), ([] : List Int), ([] : List Int), 0, false)))) = some (r1, r2, r3, r4, r5, r6, r7, r8) := H
        have A40 := Aside0.mk A400
        clear A400
        replace H := Option.bind_eq_some_iff.mp H
        obtain ⟨t211, A410, H⟩ := H
        replace H : (if t211 = true then (if x199003_1.length < 17592186044416 then ((spec_sbRound.f t207 t208 t209).bind fun t215 => (if x199004_1.length < 17592186044416 then (if x199005_1.length < 17592186044416 then ((spec_sbRound.f t207 t208 t209).bind fun t222 => (spec_CoarseModel.l0 k2 (wrap64 (x6_1 + (wrap64 ((wrap64 (t207 * t222)) - t208)))) (wrap64 (x7_1 + 1)) a0_0 a0_1 a0_2 l0_3 l0_4 l0_5 t195 t196 t197 (x199003_1 ++ [t207]) (x199004_1 ++ [t215]) (x199005_1 ++ [t209]))) else (none)) else (none))) else (none)) else (some (0, 0, 0, ([] : List Int), ([] : List Int), ([] : List Int), 0, false))) = some (r1, r2, r3, r4, r5, r6, r7, r8) := H
        have A41 := Aside0.mk A410
        clear A410
        by_cases c42 : t211 = true
        ·subst c42
         have H1 : (if x199003_1.length < 17592186044416 then ((spec_sbRound.f t207 t208 t209).bind fun t215 => (if x199004_1.length < 17592186044416 then (if x199005_1.length < 17592186044416 then ((spec_sbRound.f t207 t208 t209).bind fun t222 => (spec_CoarseModel.l0 k2 (wrap64 (x6_1 + (wrap64 ((wrap64 (t207 * t222)) - t208)))) (wrap64 (x7_1 + 1)) a0_0 a0_1 a0_2 l0_3 l0_4 l0_5 t195 t196 t197 (x199003_1 ++ [t207]) (x199004_1 ++ [t215]) (x199005_1 ++ [t209]))) else (none)) else (none))) else (none)) = some (r1, r2, r3, r4, r5, r6, r7, r8) := by rw [if_pos rfl] at H; exact H
         clear H
         have H := H1
         clear H1
         by_cases c43 : x199003_1.length < 17592186044416
         ·rw [if_pos c43] at H
          have LMc43 := Aside0.mk c43
          clear c43
          obtain ⟨y212, hy212⟩ : ∃ y_ : List Int, y_ = (x199003_1 ++ [t207]) := ⟨_, rfl⟩
          replace H : ((spec_sbRound.f t207 t208 t209).bind fun t215 => (if x199004_1.length < 17592186044416 then (if x199005_1.length < 17592186044416 then ((spec_sbRound.f t207 t208 t209).bind fun t222 => (spec_CoarseModel.l0 k2 (wrap64 (x6_1 + (wrap64 ((wrap64 (t207 * t222)) - t208)))) (wrap64 (x7_1 + 1)) a0_0 a0_1 a0_2 l0_3 l0_4 l0_5 t195 t196 t197 y212 (x199004_1 ++ [t215]) (x199005_1 ++ [t209]))) else (none)) else (none))) = some (r1, r2, r3, r4, r5, r6, r7, r8) := by first | (rw [hy212]; with_reducible exact H) | (have H2_ := (Option.bind_some _ _).symm.trans H; rw [hy212]; with_reducible exact H2_) | (have H2_ := (Option.bind_some _ _).symm.trans H; with_reducible exact H2_) | with_reducible exact H | (rw [hy212]; exact H) | exact H
          have Ny212 := Aside0.mk hy212
          clear hy212
          replace H := Option.bind_eq_some_iff.mp H
          obtain ⟨t215, A440, H⟩ := H
          replace H : (if x199004_1.length < 17592186044416 then (if x199005_1.length < 17592186044416 then ((spec_sbRound.f t207 t208 t209).bind fun t222 => (spec_CoarseModel.l0 k2 (wrap64 (x6_1 + (wrap64 ((wrap64 (t207 * t222)) - t208)))) (wrap64 (x7_1 + 1)) a0_0 a0_1 a0_2 l0_3 l0_4 l0_5 t195 t196 t197 y212 (x199004_1 ++ [t215]) (x199005_1 ++ [t209]))) else (none)) else (none)) = some (r1, r2, r3, r4, r5, r6, r7, r8) := H
          have A44 := Aside0.mk A440
          clear A440
          by_cases c45 : x199004_1.length < 17592186044416
          ·rw [if_pos c45] at H
           have LMc45 := Aside0.mk c45
           clear c45
           obtain ⟨y216, hy216⟩ : ∃ y_ : List Int, y_ = (x199004_1 ++ [t215]) := ⟨_, rfl⟩
           replace H : (if x199005_1.length < 17592186044416 then ((spec_sbRound.f t207 t208 t209).bind fun t222 => (spec_CoarseModel.l0 k2 (wrap64 (x6_1 + (wrap64 ((wrap64 (t207 * t222)) - t208)))) (wrap64 (x7_1 + 1)) a0_0 a0_1 a0_2 l0_3 l0_4 l0_5 t195 t196 t197 y212 y216 (x199005_1 ++ [t209]))) else (none)) = some (r1, r2, r3, r4, r5, r6, r7, r8) := by first | (rw [hy216]; with_reducible exact H) | (have H2_ := (Option.bind_some _ _).symm.trans H; rw [hy216]; with_reducible exact H2_) | (have H2_ := (Option.bind_some _ _).symm.trans H; with_reducible exact H2_) | with_reducible exact H | (rw [hy216]; exact H) | exact H
           have Ny216 := Aside0.mk hy216
           clear hy216
           by_cases c46 : x199005_1.length < 17592186044416
           ·rw [if_pos c46] at H
            have LMc46 := Aside0.mk c46
            clear c46
            obtain ⟨y219, hy219⟩ : ∃ y_ : List Int, y_ = (x199005_1 ++ [t209]) := ⟨_, rfl⟩
            replace H : ((spec_sbRound.f t207 t208 t209).bind fun t222 => (spec_CoarseModel.l0 k2 (wrap64 (x6_1 + (wrap64 ((wrap64 (t207 * t222)) - t208)))) (wrap64 (x7_1 + 1)) a0_0 a0_1 a0_2 l0_3 l0_4 l0_5 t195 t196 t197 y212 y216 y219)) = some (r1, r2, r3, r4, r5, r6, r7, r8) := by first | (rw [hy219]; with_reducible exact H) | (have H2_ := (Option.bind_some _ _).symm.trans H; rw [hy219]; with_reducible exact H2_) | (have H2_ := (Option.bind_some _ _).symm.trans H; with_reducible exact H2_) | with_reducible exact H | (rw [hy219]; exact H) | exact H
            have Ny219 := Aside0.mk hy219
            clear hy219
            replace H := Option.bind_eq_some_iff.mp H
            obtain ⟨t222, A470, H⟩ := H
            replace H : (spec_CoarseModel.l0 k2 (wrap64 (x6_1 + (wrap64 ((wrap64 (t207 * t222)) - t208)))) (wrap64 (x7_1 + 1)) a0_0 a0_1 a0_2 l0_3 l0_4 l0_5 t195 t196 t197 y212 y216 y219) = some (r1, r2, r3, r4, r5, r6, r7, r8) := H
            have A47 := Aside0.mk A470
            clear A470
            have H' := Aside0.mk H
            clear H
            obtain ⟨Ao48, co48, eo48⟩ := Kd.R_slice HO_8.out
            subst eo48
            try go_wp2_with (first | ((with_reducible refine gate_callee (f := 67) rfl ?_); refine gl_ (some 46) Try.func67 #[.slice Ao48 x8_2.length co48] rfl rfl rfl ?_; (with_reducible refine (spec_sbJoin.calls k2 _ _ x8_2 t207 t208 t209 _ ?side1 ?side2 A40.out).mono ?_); (case side1 => exact Kd.C_o HO_8); (case side2 => exact (Kd.R_reads' HO_8.out).2.1); rintro e w49 ⟨rfl, hb⟩; refine ⟨_, rfl, ?_⟩; replace HO_8 := Kd.R_b HO_8 hb; replace HO_199003 := Kd.R_b HO_199003 hb; replace HO_199004 := Kd.R_b HO_199004 hb; replace HO_199005 := Kd.R_b HO_199005 hb; replace BK192 := kb_ BK192 hb; replace BK193 := kb_ BK193 hb; replace BK198 := kb_ BK198 hb; replace HB := hbs_ HB hb; (try clear hb); (try clear hb2); (try clear hk); (try clear hi)) | ((with_reducible refine gate_dst (N := 10) rfl ?_); refine box_event ?hg (N := 10) ?hd (cs := #[.int .i64 0, .int .i64 0, .int .i64 0]) (t := 29) ?hr ?_; (case hd => rfl); (case hg => rfl); (case hr => first | (go_simp; done) | (go_simp; rfl)); intro gb210 hg w50 hbox hb; have BK210 := Aside0.mk (hbox); have GW210 := gs_ hg HB; have GE210 := gs_ hg HB; have NB192_210 := nl_ hg BK192; have NB210_192 := ng_ hg BK192; have NB193_210 := nl_ hg BK193; have NB210_193 := ng_ hg BK193; have NB198_210 := nl_ hg BK198; have NB210_198 := ng_ hg BK198; replace HO_8 := Aside0.mk (Kd.R_below (Kd.R_elderB (Kd.R_p HO_8) gb210 (Nat.le_of_eq hg.symm)) hb); replace HO_199003 := Kd.R_b HO_199003 hb; replace HO_199004 := Kd.R_b HO_199004 hb; replace HO_199005 := Kd.R_b HO_199005 hb; replace BK192 := kb_ BK192 hb; replace BK193 := kb_ BK193 hb; replace BK198 := kb_ BK198 hb; replace HB := hbs_ HB hb; clear hb hbox hg; have hnb51 := NB210_192.out; have hnc51 := NB192_210.out; have hnb52 := NB210_193.out; have hnc52 := NB193_210.out; have hnb53 := NB210_198.out; have hnc53 := NB198_210.out; obtain ⟨hcz54_0, hcz54_1, hcz54_2, hfz54_0, hfz54_1, hfz54_2⟩ := bx3 BK210) | ((with_reducible refine gate_callee (f := 66) rfl ?_); refine gl_ (some 48) Try.func66 #[.agg #[.int .i64 t207, .int .i64 t208, .int .i64 t209]] rfl rfl rfl ?_; (with_reducible refine (spec_sbPiece.calls t207 t208 t209 true _ A41.out).mono ?_); rintro e w55 ⟨rfl, hb⟩; refine ⟨_, rfl, ?_⟩; replace HO_8 := Aside0.mk (Kd.R_below (Kd.R_pp ((Kd.R_mono (Kd.R_far (p := ⟨gb210, 2, none⟩) (Kd.R_far (p := ⟨gb210, 1, none⟩) (Kd.R_far (p := ⟨gb210, 0, none⟩) (Kd.R_mono HO_8.out (fun k_ hk => (⟨hk, hk.2⟩ : _ ∧ k_ ≠ gb210))) (fun _ hk => hk.2) (.int .i64 t207)) (fun _ hk => hk.2) (.int .i64 t208)) (fun _ hk => hk.2) (.int .i64 t209)) (fun _ h_ => h_.1)))) hb); replace HO_199003 := Kd.R_sb HO_199003 BK210 hb; replace HO_199004 := Kd.R_sb HO_199004 BK210 hb; replace HO_199005 := Kd.R_sb HO_199005 BK210 hb; replace BK192 := kfb_ BK192 NB192_210 hb; replace BK193 := kfb_ BK193 NB193_210 hb; replace BK198 := kfb_ BK198 NB198_210 hb; replace HB := hbs_ HB hb; replace BK210 := Aside0.mk (blk_below (g := gb210) (o := .cells #[.int .i64 t207, .int .i64 t208, .int .i64 t209] 29 (0, 0)) (kpq_ (kputs BK210 [(0, _), (1, _), (2, _)])) hb); (try clear hb); (try clear hb2); (try clear hk); (try clear hi); have hnb56 := NB198_192.out; have hnc56 := NB192_198.out; have hnb57 := NB198_193.out; have hnc57 := NB193_198.out; obtain ⟨hcz58_0, hcz58_1, hcz58_2, hcz58_3, hcz58_4, hcz58_5, hfz58_0, hfz58_1, hfz58_2, hfz58_3, hfz58_4, hfz58_5⟩ := bx6 BK198; obtain ⟨hcz59_0, hcz59_1, hcz59_2, hfz59_0, hfz59_1, hfz59_2⟩ := bx3 BK210) | ((with_reducible refine gate_builtin (b := .append) (xs := #[.tmp 52, .tmp 55]) rfl ?_); at_builtin; refine Kd.R_append (Kd.int .i64) (w0 := w) w.heap.size rfl (.tmp 52) (.tmp 55) 24 3 (.int .i64 0) 8 rfl Try.underlying24 info3 rfl (by decide) (by omega) u199003 x199003_1 t207 [.int .i64 t207] (fun k_ => some k_ ≠ (u199004 : Value).ownBlock ∧ some k_ ≠ (u199005 : Value).ownBlock) (fun _ => False) rfl rfl ?aP (fun _ hk => hk.elim) ?aF ?aO ?aB ?aS ?aL ?_; (case aP => exact rfl); (case aB => exact (hb_ HB)); (case aF => exact (fun k_ hk => ⟨Kd.fresh' (Kd.R_lt (Kd.R_p HO_199004)) k_ hk, Kd.fresh' (Kd.R_lt (Kd.R_p HO_199005)) k_ hk⟩)); (case aO => exact (Kd.R_p HO_199003)); (case aS => exact (below_size (hb_ HB))); (case aL => have := LMc43.out; omega); intro v213 w60 ho hb hg hat; rw [← Ny212.out] at ho; have HO214 := Aside0.mk (ho); replace HO_8 := Aside0.mk (Kd.R_over' (Kd.R_p HO_8) (Kd.R_typed (Kd.R_p HO_199003)) (by decide) hg); replace HO_199004 := Aside0.mk (Kd.R_after (ok := (fun k_ => some k_ ≠ (u199005 : Value).ownBlock)) (Kd.R_pp (Kd.R_mono HO_199004.out (fun _ hk => ⟨hk.2, hk.1⟩))) hg hat); replace HO_199005 := Aside0.mk (Kd.R_after (ok := (fun k_ => some k_ ≠ (u199004 : Value).ownBlock)) (Kd.R_pp (Kd.R_mono HO_199005.out (fun _ hk => ⟨hk.2, hk.1⟩))) hg hat); replace BK192 := Aside0.mk (blk_grown (kp_ BK192) hg (Kd.R_ne HO_199003.out BK192.out (by decide))); replace BK193 := Aside0.mk (blk_grown (kp_ BK193) hg (Kd.R_ne HO_199003.out BK193.out (by decide))); replace BK198 := Aside0.mk (blk_grown (kp_ BK198) hg (Kd.R_ne HO_199003.out BK198.out (by decide))); replace BK210 := Aside0.mk (blk_grown (kp_ BK210) hg (Kd.R_ne HO_199003.out BK210.out (by decide))); replace HB := Aside0.mk (hb); clear HO_199003; clear ho hb hg hat; obtain ⟨Ao61, co61, eo61⟩ := Kd.R_slice HO214.out; subst eo61; obtain ⟨hcz62_0, hcz62_1, hcz62_2, hcz62_3, hcz62_4, hcz62_5, hfz62_0, hfz62_1, hfz62_2, hfz62_3, hfz62_4, hfz62_5⟩ := bx6 BK198))
            have n0_ : Aside0 (Kd.R k29 29 (w60.setCell ⟨gb198, 3, none⟩ (.slice Ao61 y212.length co61)) w.heap.size (fun k_ => k_ ≠ gb210) (.slice Ao48 x8_2.length co48) x8_2) := ⟨Kd.R_mono (Kd.R_s HO_8 BK198) (fun _ hk => hk.2)⟩
            have n1_ : Aside0 (Kd.R (Kd.int .i64) 3 (w60.setCell ⟨gb198, 3, none⟩ (.slice Ao61 y212.length co61)) w.heap.size (fun k_ => some k_ ≠ (u199005 : Value).ownBlock ∧ some k_ ≠ (.slice Ao61 y212.length co61 : Value).ownBlock) u199004 x199004_1) := ⟨Kd.R_mono (Kd.R_s HO_199004 BK198) (fun _ hk => ⟨hk.1, hk.2⟩)⟩
            have n2_ : Aside0 (Kd.R (Kd.int .i64) 3 (w60.setCell ⟨gb198, 3, none⟩ (.slice Ao61 y212.length co61)) w.heap.size (fun k_ => some k_ ≠ (u199004 : Value).ownBlock ∧ some k_ ≠ (.slice Ao61 y212.length co61 : Value).ownBlock) u199005 x199005_1) := ⟨Kd.R_mono (Kd.R_s HO_199005 BK198) (fun _ hk => ⟨hk.1, hk.2⟩)⟩
            have n3_ : Aside0 (Kd.R (Kd.int .i64) 3 (w60.setCell ⟨gb198, 3, none⟩ (.slice Ao61 y212.length co61)) w.heap.size (fun k_ => some k_ ≠ (u199004 : Value).ownBlock ∧ some k_ ≠ (u199005 : Value).ownBlock) (.slice Ao61 y212.length co61) y212) := ⟨Kd.R_mono (Kd.R_s HO214 BK198) (fun _ hk => ⟨hk.1, hk.2⟩)⟩
            have n4_ : Aside0 ((w60.setCell ⟨gb198, 3, none⟩ (.slice Ao61 y212.length co61)).heap[gb192]? = some (.cells #[.int .i64 a0_0, .int .i64 a0_1, .int .i64 a0_2, .slice A0_3 l0_3.length c0_3, .slice A0_4 l0_4.length c0_4, .slice A0_5 l0_5.length c0_5] 34 (0, 0))) := ⟨kf_ BK192 NB192_198⟩
            have n5_ : Aside0 ((w60.setCell ⟨gb198, 3, none⟩ (.slice Ao61 y212.length co61)).heap[gb193]? = some (.cells #[.int .i64 x194000_1, .int .i64 x194001_1, .int .i64 x194002_1, .slice none 0 0, .slice none 0 0, .slice none 0 0] 34 (0, 0))) := ⟨kf_ BK193 NB193_198⟩
            have n6_ : Aside0 ((w60.setCell ⟨gb198, 3, none⟩ (.slice Ao61 y212.length co61)).heap[gb198]? = some (.cells #[.int .i64 t195, .int .i64 t196, .int .i64 t197, .slice Ao61 y212.length co61, u199004, u199005] 34 (0, 0))) := ⟨kpq_ (kputs BK198 [(3, _)])⟩
            have n7_ : Aside0 ((w60.setCell ⟨gb198, 3, none⟩ (.slice Ao61 y212.length co61)).heap[gb210]? = some (.cells #[.int .i64 t207, .int .i64 t208, .int .i64 t209] 29 (0, 0))) := ⟨kf_ BK210 NB210_198⟩
            have n8_ : Aside0 (Below w.heap.size w (w60.setCell ⟨gb198, 3, none⟩ (.slice Ao61 y212.length co61))) := ⟨hb_ HB⟩
            (try clear HO_8)
            (try clear HO_199004)
            (try clear HO_199005)
            (try clear HO214)
            (try clear BK192)
            (try clear BK193)
            (try clear BK198)
            (try clear BK210)
            (try clear HB)
            generalize (w60.setCell ⟨gb198, 3, none⟩ (.slice Ao61 y212.length co61)) = w63 at n0_ n1_ n2_ n3_ n4_ n5_ n6_ n7_ n8_ ⊢
            have HO_8 := n0_
            have HO_199004 := n1_
            have HO_199005 := n2_
            have HO214 := n3_
            have BK192 := n4_
            have BK193 := n5_
            have BK198 := n6_
            have BK210 := n7_
            have HB := n8_
            clear n0_ n1_ n2_ n3_ n4_ n5_ n6_ n7_ n8_
            have n0_ := Aside0.mk (Kd.R_drew HO_8.out)
            have n1_ := Aside0.mk (Kd.R_drew HO_199004.out)
            have n2_ := Aside0.mk (Kd.R_drew HO_199005.out)
            have n3_ := Aside0.mk (Kd.R_drew HO214.out)
            have n4_ := Aside0.mk (blk_drew BK192.out)
            have n5_ := Aside0.mk (blk_drew BK193.out)
            have n6_ := Aside0.mk (blk_drew BK198.out)
            have n7_ := Aside0.mk (blk_drew BK210.out)
            have n8_ := Aside0.mk (below_drew1 HB.out)
            clear HO_8
            clear HO_199004
            clear HO_199005
            clear HO214
            clear BK192
            clear BK193
            clear BK198
            clear BK210
            clear HB
            have HO_8 := n0_
            have HO_199004 := n1_
            have HO_199005 := n2_
            have HO214 := n3_
            have BK192 := n4_
            have BK193 := n5_
            have BK198 := n6_
            have BK210 := n7_
            have HB := n8_
            clear n0_ n1_ n2_ n3_ n4_ n5_ n6_ n7_ n8_
            refine start_ (n := 8) (S := fun w' => w'.cell? ⟨gb198, 0, none⟩ = some (.int .i64 t195) ∧ w'.cell? ⟨gb198, 1, none⟩ = some (.int .i64 t196) ∧ w'.cell? ⟨gb198, 2, none⟩ = some (.int .i64 t197) ∧ w'.cell? ⟨gb198, 3, none⟩ = some (.slice Ao61 y212.length co61) ∧ w'.cell? ⟨gb198, 4, none⟩ = some (u199004) ∧ w'.cell? ⟨gb198, 5, none⟩ = some (u199005) ∧ w'.cell? ⟨gb210, 0, none⟩ = some (.int .i64 t207) ∧ w'.cell? ⟨gb210, 1, none⟩ = some (.int .i64 t208) ∧ w'.cell? ⟨gb210, 2, none⟩ = some (.int .i64 t209)) (ds := [7]) #[false, false, false, false, false, false, false, false] (by kernel_rfl) rfl rfl ⟨(blk_cell BK198.out 0).trans rfl, (blk_cell BK198.out 1).trans rfl, (blk_cell BK198.out 2).trans rfl, (blk_cell BK198.out 3).trans rfl, (blk_cell BK198.out 4).trans rfl, (blk_cell BK198.out 5).trans rfl, (blk_cell BK210.out 0).trans rfl, (blk_cell BK210.out 1).trans rfl, (blk_cell BK210.out 2).trans rfl⟩ (fun hHeld => ?_); refine with_tabW spec_CoarseModel.tab19 spec_CoarseModel.bits19 (fun HT_ HW_ => ?_)
            generalize w63.drew = w64 at HO_8 HO_199004 HO_199005 HO214 BK192 BK193 BK198 BK210 HB hHeld ⊢
            refine pure_ (i := 0) (N := some 58) (v := ?_) (a' := ?_) #[true, false, false, false, false, false, false, false] rfl rfl (any_of HT_.out (by kernel_rfl)) (fun _ _ _ h => h) (Or.inl ⟨by rfl, ?_⟩) ?_ ?_
            rotate_left
            ·intro w'
             go_simp
             with_reducible rfl
            rotate_left
            ·simp only [Act.put, List.setIfInBounds_toArray, List.set_cons_zero, List.set_cons_succ, i64_w, i32_w]
             rfl
            refine take_ (i := 1) (N := some 59) (v := ?_) (a' := ?_) #[true, true, false, false, false, false, false, false] rfl rfl (take_ofW HT_.out HW_.out (by kernel_rfl)) (fun _ _ _ h => h) (Or.inl ⟨by rfl, ?_⟩) hHeld ?_ ?_
            rotate_left
            ·rintro w' ⟨s0, s1, s2, s3, s4, s5, s6, s7, s8⟩
             go_simp
             with_reducible rfl
            rotate_left
            ·simp only [Act.put, List.setIfInBounds_toArray, List.set_cons_zero, List.set_cons_succ, i64_w, i32_w]
             rfl
            refine take_ (i := 2) (N := some 60) (v := ?_) (a' := ?_) #[true, true, true, false, false, false, false, false] rfl rfl (take_ofW HT_.out HW_.out (by kernel_rfl)) (fun _ _ _ h => h) (Or.inl ⟨by rfl, ?_⟩) hHeld ?_ ?_
            rotate_left
            ·rintro w' ⟨s0, s1, s2, s3, s4, s5, s6, s7, s8⟩
             go_simp
             with_reducible rfl
            rotate_left
            ·simp only [Act.put, List.setIfInBounds_toArray, List.set_cons_zero, List.set_cons_succ, i64_w, i32_w]
             rfl
            refine one_ (i := 3) (N := some 61) #[true, true, true, true, false, false, false, false] rfl rfl (one_of HT_.out (by kernel_rfl)) (by decide) (fun K hK => ?_)
            refine goes_ Try.func81 (by kernel_rfl) rfl #[.agg #[.int .i64 t207, .int .i64 t208, .int .i64 t209]] (by rfl) rfl rfl (by (try simp only [List.map_toArray, List.map_cons, List.map_nil]); first | done | rfl | (simp only [List.length_drop, List.length_take]; rfl)) ?_
            with_reducible refine (spec_sbRound.calls t207 t208 t209 t215 _ A44.out).mono ?_
            rintro e w65 ⟨rfl, hb⟩
            refine ⟨_, rfl, ?_⟩
            have n0_ := Aside0.mk (Kd.R_below (Kd.R_p HO_8) hb)
            have n1_ := Aside0.mk (Kd.R_below (Kd.R_p HO_199004) hb)
            have n2_ := Aside0.mk (Kd.R_below (Kd.R_p HO_199005) hb)
            have n3_ := Aside0.mk (Kd.R_below (Kd.R_p HO214) hb)
            have n4_ := Aside0.mk (blk_below (kp_ BK192) hb)
            have n5_ := Aside0.mk (blk_below (kp_ BK193) hb)
            have n6_ := Aside0.mk (blk_below (kp_ BK198) hb)
            have n7_ := Aside0.mk (blk_below (kp_ BK210) hb)
            have n8_ := Aside0.mk (below_step (hb_ HB) hb)
            clear HO_8
            clear HO_199004
            clear HO_199005
            clear HO214
            clear BK192
            clear BK193
            clear BK198
            clear BK210
            clear HB
            have HO_8 := n0_
            have HO_199004 := n1_
            have HO_199005 := n2_
            have HO214 := n3_
            have BK192 := n4_
            have BK193 := n5_
            have BK198 := n6_
            have BK210 := n7_
            have HB := n8_
            clear n0_ n1_ n2_ n3_ n4_ n5_ n6_ n7_ n8_
            (try clear hb)
            (try clear hb2)
            (try clear hk)
            (try clear hi)
            refine hK.out _ _ ⟨(blk_cell BK198.out 0).trans rfl, (blk_cell BK198.out 1).trans rfl, (blk_cell BK198.out 2).trans rfl, (blk_cell BK198.out 3).trans rfl, (blk_cell BK198.out 4).trans rfl, (blk_cell BK198.out 5).trans rfl, (blk_cell BK210.out 0).trans rfl, (blk_cell BK210.out 1).trans rfl, (blk_cell BK210.out 2).trans rfl⟩ (fun hHeld => ?_)
            clear hK K
            refine norm_ (a' := ?_) ?_ ?_
            rotate_left
            ·show Act.put _ (some 61) _ = _
             simp only [Act.put, List.setIfInBounds_toArray, List.set_cons_zero, List.set_cons_succ, i64_w, i32_w]
             rfl
            refine one_ (i := 4) (N := some 62) #[true, true, true, true, true, false, false, false] rfl rfl (one_of HT_.out (by kernel_rfl)) (by decide) (fun K hK => ?_)
            refine value_ (w1 := ?_) (v := ?_) (by rfl) rfl ?_ ?_
            rotate_left 2
            ·go_simp
             constructor
             ·rfl
             ·rfl
            refine hK.out _ _ ⟨(blk_cell (blk_alloc BK198.out _) 0).trans rfl, (blk_cell (blk_alloc BK198.out _) 1).trans rfl, (blk_cell (blk_alloc BK198.out _) 2).trans rfl, (blk_cell (blk_alloc BK198.out _) 3).trans rfl, (blk_cell (blk_alloc BK198.out _) 4).trans rfl, (blk_cell (blk_alloc BK198.out _) 5).trans rfl, (blk_cell (blk_alloc BK210.out _) 0).trans rfl, (blk_cell (blk_alloc BK210.out _) 1).trans rfl, (blk_cell (blk_alloc BK210.out _) 2).trans rfl⟩ (fun hHeld => ?_)
            clear hK K
            refine norm_ (a' := ?_) ?_ ?_
            rotate_left
            ·show Act.put _ (some 62) _ = _
             simp only [Act.put, List.setIfInBounds_toArray, List.set_cons_zero, List.set_cons_succ, i64_w, i32_w]
             rfl
            refine one_ (i := 5) (N := some 63) #[true, true, true, true, true, true, false, false] rfl rfl (one_of HT_.out (by kernel_rfl)) (by decide) (fun K hK => ?_)
            refine Kd.R_append_step (Kd.int .i64) (w0 := w) w.heap.size (by rfl) (.tmp 59) (.tmp 62) 24 3 (.int .i64 0) 8 rfl Try.underlying24 info3 rfl (by decide) (by omega) u199004 x199004_1 t215 [.int .i64 t215] (fun k_ => some k_ ≠ (u199005 : Value).ownBlock ∧ some k_ ≠ (.slice Ao61 y212.length co61 : Value).ownBlock) (fun _ => False) rfl rfl ?aP (fun _ hk => hk.elim) ?aF ?aO ?aB ?aS ?aL ?_
            (case aP => exact rfl)
            (case aB => exact (hb_ HB))
            (case aF => exact (fun k_ hk => ⟨Kd.fresh' (Kd.R_lt (Kd.R_p HO_199005)) k_ hk, Kd.fresh' (Kd.R_lt (Kd.R_p HO214)) k_ hk⟩))
            (case aO => exact (Kd.R_p HO_199004))
            (case aS => exact (below_size (hb_ HB)))
            (case aL => have := LMc45.out; omega)
            intro v217 w66 ho hb hg hat
            rw [← Ny216.out] at ho
            have n0_ := Aside0.mk (Kd.R_over' (Kd.R_p HO_8) (Kd.R_typed (Kd.R_p HO_199004)) (by decide) hg)
            have n1_ := Aside0.mk (Kd.R_after (ok := (fun k_ => some k_ ≠ (.slice Ao61 y212.length co61 : Value).ownBlock)) (Kd.R_pp (Kd.R_mono HO_199005.out (fun _ hk => ⟨hk.2, hk.1⟩))) hg hat)
            have n2_ := Aside0.mk (blk_grown (kp_ BK192) hg (Kd.R_ne HO_199004.out BK192.out (by decide)))
            have n3_ := Aside0.mk (blk_grown (kp_ BK193) hg (Kd.R_ne HO_199004.out BK193.out (by decide)))
            have n4_ := Aside0.mk (blk_grown (kp_ BK198) hg (Kd.R_ne HO_199004.out BK198.out (by decide)))
            have n5_ := Aside0.mk (blk_grown (kp_ BK210) hg (Kd.R_ne HO_199004.out BK210.out (by decide)))
            have n6_ := Aside0.mk (Kd.R_after (ok := (fun k_ => some k_ ≠ (u199005 : Value).ownBlock)) (Kd.R_pp (Kd.R_mono HO214.out (fun _ hk => ⟨hk.2, hk.1⟩))) hg hat)
            have n7_ := Aside0.mk (hb)
            have n8_ := Aside0.mk (ho)
            clear HO_8
            clear HO_199005
            clear BK192
            clear BK193
            clear BK198
            clear BK210
            clear HO214
            clear HB
            clear HO_199004
            have HO_8 := n0_
            have HO_199005 := n1_
            have BK192 := n2_
            have BK193 := n3_
            have BK198 := n4_
            have BK210 := n5_
            have HO214 := n6_
            have HB := n7_
            have HO218 := n8_
            clear n0_ n1_ n2_ n3_ n4_ n5_ n6_ n7_ n8_
            clear ho hb hg hat
            obtain ⟨Ao67, co67, eo67⟩ := Kd.R_slice HO218.out
            (first | subst eo67 | (injection eo67 with f1_ f2_ f3_; have f4_ := f1_.symm; have f5_ := f3_.symm; clear f1_ f2_ f3_; subst f4_; subst f5_))
            refine hK.out _ _ ⟨(blk_cell BK198.out 0).trans rfl, (blk_cell BK198.out 1).trans rfl, (blk_cell BK198.out 2).trans rfl, (blk_cell BK198.out 3).trans rfl, (blk_cell BK198.out 4).trans rfl, (blk_cell BK198.out 5).trans rfl, (blk_cell BK210.out 0).trans rfl, (blk_cell BK210.out 1).trans rfl, (blk_cell BK210.out 2).trans rfl⟩ (fun hHeld => ?_)
            clear hK K
            refine norm_ (a' := ?_) ?_ ?_
            rotate_left
            ·show Act.put _ (some 63) _ = _
             simp only [Act.put, List.setIfInBounds_toArray, List.set_cons_zero, List.set_cons_succ, i64_w, i32_w]
             rfl
            refine pure_ (i := 6) (N := some 64) (v := ?_) (a' := ?_) #[true, true, true, true, true, true, true, false] rfl rfl (any_of HT_.out (by kernel_rfl)) (fun _ _ _ h => h) (Or.inl ⟨by rfl, ?_⟩) ?_ ?_
            rotate_left
            ·intro w'
             go_simp
             with_reducible rfl
            rotate_left
            ·simp only [Act.put, List.setIfInBounds_toArray, List.set_cons_zero, List.set_cons_succ, i64_w, i32_w]
             rfl
            refine last_ (i := 7) (N := none) #[true, true, true, true, true, true, true, true] rfl rfl (one_of HT_.out (by kernel_rfl)) (by decide) (fun K hK => ?_)
            have hs68 : w66.cell? ⟨gb198, 4, none⟩ = some (u199004) := (blk_cell BK198.out 4).trans rfl
            have hfs68 := blk_frozen BK198.out 4
            have hns68_0 := NB192_198.out
            have hns68_1 := NB193_198.out
            have hns68_3 := NB210_198.out
            have hms68_0 := NB198_192.out
            have hms68_1 := NB198_193.out
            have hms68_3 := NB198_210.out
            refine skip_ (w1 := ?_) (by rfl) rfl ?_ ?_
            rotate_left
            ·go_simp
             rfl
            refine hK.out _ _ ?_
            clear hK K
            refine done_ (done_of HT_.out (by kernel_rfl)) ?_
            have hcz69_0 : w66.cell? ⟨gb198, 0, none⟩ = some (.int .i64 t195) := (blk_cell BK198.out 0).trans rfl
            have hcz69_1 : w66.cell? ⟨gb198, 1, none⟩ = some (.int .i64 t196) := (blk_cell BK198.out 1).trans rfl
            have hcz69_2 : w66.cell? ⟨gb198, 2, none⟩ = some (.int .i64 t197) := (blk_cell BK198.out 2).trans rfl
            have hcz69_3 : w66.cell? ⟨gb198, 3, none⟩ = some (.slice Ao61 y212.length co61) := (blk_cell BK198.out 3).trans rfl
            have hcz69_4 : w66.cell? ⟨gb198, 4, none⟩ = some (u199004) := (blk_cell BK198.out 4).trans rfl
            have hcz69_5 : w66.cell? ⟨gb198, 5, none⟩ = some (u199005) := (blk_cell BK198.out 5).trans rfl
            have hfz69_0 := blk_frozen BK198.out 0
            have hfz69_1 := blk_frozen BK198.out 1
            have hfz69_2 := blk_frozen BK198.out 2
            have hfz69_3 := blk_frozen BK198.out 3
            have hfz69_4 := blk_frozen BK198.out 4
            have hfz69_5 := blk_frozen BK198.out 5
            have hcz70_0 : w66.cell? ⟨gb210, 0, none⟩ = some (.int .i64 t207) := (blk_cell BK210.out 0).trans rfl
            have hcz70_1 : w66.cell? ⟨gb210, 1, none⟩ = some (.int .i64 t208) := (blk_cell BK210.out 1).trans rfl
            have hcz70_2 : w66.cell? ⟨gb210, 2, none⟩ = some (.int .i64 t209) := (blk_cell BK210.out 2).trans rfl
            have hfz70_0 := blk_frozen BK210.out 0
            have hfz70_1 := blk_frozen BK210.out 1
            have hfz70_2 := blk_frozen BK210.out 2
            try go_wp2_with (first | ((with_reducible refine gate_builtin (b := .append) (xs := #[.tmp 66, .tmp 69]) rfl ?_); at_builtin; refine Kd.R_append (Kd.int .i64) (w0 := w) w.heap.size rfl (.tmp 66) (.tmp 69) 24 3 (.int .i64 0) 8 rfl Try.underlying24 info3 rfl (by decide) (by omega) u199005 x199005_1 t209 [.int .i64 t209] (fun k_ => some k_ ≠ (.slice Ao61 y212.length co61 : Value).ownBlock ∧ some k_ ≠ (.slice Ao67 y216.length co67 : Value).ownBlock) (fun _ => False) rfl (by first | (go_simp; done) | (go_simp; rfl)) ?aP (fun _ hk => hk.elim) ?aF ?aO ?aB ?aS ?aL ?_; (case aP => exact rfl); (case aB => exact (hb_ HB)); (case aF => exact (fun k_ hk => ⟨Kd.fresh' (Kd.R_lt (Kd.R_s HO214 BK198)) k_ hk, Kd.fresh' (Kd.R_lt (Kd.R_s HO218 BK198)) k_ hk⟩)); (case aO => exact (Kd.R_mono (Kd.R_s HO_199005 BK198) (fun _ hk => ⟨hk.1, hk.2⟩))); (case aS => exact (below_size (hb_ HB))); (case aL => have := LMc46.out; omega); intro v220 w71 ho hb hg hat; rw [← Ny219.out] at ho; have HO221 := Aside0.mk (ho); replace HO_8 := Aside0.mk (Kd.R_over' (Kd.R_s HO_8 BK198) (Kd.R_typed (Kd.R_s HO_199005 BK198)) (by decide) hg); replace BK192 := Aside0.mk (blk_grown (kf_ BK192 NB192_198) hg (Kd.R_ne HO_199005.out BK192.out (by decide))); replace BK193 := Aside0.mk (blk_grown (kf_ BK193 NB193_198) hg (Kd.R_ne HO_199005.out BK193.out (by decide))); replace BK210 := Aside0.mk (blk_grown (kf_ BK210 NB210_198) hg (Kd.R_ne HO_199005.out BK210.out (by decide))); replace HO214 := Aside0.mk (Kd.R_after (ok := (fun k_ => some k_ ≠ (.slice Ao67 y216.length co67 : Value).ownBlock)) (Kd.R_mono (Kd.R_s HO214 BK198) (fun _ hk => ⟨hk.2, hk.1⟩)) hg hat); replace HO218 := Aside0.mk (Kd.R_after (ok := (fun k_ => some k_ ≠ (.slice Ao61 y212.length co61 : Value).ownBlock)) (Kd.R_mono (Kd.R_s HO218 BK198) (fun _ hk => ⟨hk.2, hk.1⟩)) hg hat); replace HB := Aside0.mk (hb); replace BK198 := Aside0.mk (blk_grown (g := gb198) (o := .cells #[.int .i64 t195, .int .i64 t196, .int .i64 t197, .slice Ao61 y212.length co61, .slice Ao67 y216.length co67, u199005] 34 (0, 0)) (kpq_ (kputs BK198 [(4, _)])) hg (Kd.R_ne HO_199005.out BK198.out (by decide))); clear HO_199005; clear ho hb hg hat; obtain ⟨Ao72, co72, eo72⟩ := Kd.R_slice HO221.out; subst eo72; obtain ⟨hcz73_0, hcz73_1, hcz73_2, hcz73_3, hcz73_4, hcz73_5, hfz73_0, hfz73_1, hfz73_2, hfz73_3, hfz73_4, hfz73_5⟩ := bx6 BK198))
            have n0_ : Aside0 (Kd.R k29 29 (w71.setCell ⟨gb198, 5, none⟩ (.slice Ao72 y219.length co72)) w.heap.size (fun k_ => k_ ≠ gb210) (.slice Ao48 x8_2.length co48) x8_2) := ⟨Kd.R_s HO_8 BK198⟩
            have n1_ : Aside0 (Kd.R (Kd.int .i64) 3 (w71.setCell ⟨gb198, 5, none⟩ (.slice Ao72 y219.length co72)) w.heap.size (fun k_ => some k_ ≠ (.slice Ao67 y216.length co67 : Value).ownBlock ∧ some k_ ≠ (.slice Ao72 y219.length co72 : Value).ownBlock) (.slice Ao61 y212.length co61) y212) := ⟨Kd.R_mono (Kd.R_s HO214 BK198) (fun _ hk => ⟨hk.1, hk.2⟩)⟩
            have n2_ : Aside0 (Kd.R (Kd.int .i64) 3 (w71.setCell ⟨gb198, 5, none⟩ (.slice Ao72 y219.length co72)) w.heap.size (fun k_ => some k_ ≠ (.slice Ao61 y212.length co61 : Value).ownBlock ∧ some k_ ≠ (.slice Ao72 y219.length co72 : Value).ownBlock) (.slice Ao67 y216.length co67) y216) := ⟨Kd.R_mono (Kd.R_s HO218 BK198) (fun _ hk => ⟨hk.1, hk.2⟩)⟩
            have n3_ : Aside0 (Kd.R (Kd.int .i64) 3 (w71.setCell ⟨gb198, 5, none⟩ (.slice Ao72 y219.length co72)) w.heap.size (fun k_ => some k_ ≠ (.slice Ao61 y212.length co61 : Value).ownBlock ∧ some k_ ≠ (.slice Ao67 y216.length co67 : Value).ownBlock) (.slice Ao72 y219.length co72) y219) := ⟨Kd.R_mono (Kd.R_s HO221 BK198) (fun _ hk => ⟨hk.1, hk.2⟩)⟩
            have n4_ : Aside0 ((w71.setCell ⟨gb198, 5, none⟩ (.slice Ao72 y219.length co72)).heap[gb192]? = some (.cells #[.int .i64 a0_0, .int .i64 a0_1, .int .i64 a0_2, .slice A0_3 l0_3.length c0_3, .slice A0_4 l0_4.length c0_4, .slice A0_5 l0_5.length c0_5] 34 (0, 0))) := ⟨kf_ BK192 NB192_198⟩
            have n5_ : Aside0 ((w71.setCell ⟨gb198, 5, none⟩ (.slice Ao72 y219.length co72)).heap[gb193]? = some (.cells #[.int .i64 x194000_1, .int .i64 x194001_1, .int .i64 x194002_1, .slice none 0 0, .slice none 0 0, .slice none 0 0] 34 (0, 0))) := ⟨kf_ BK193 NB193_198⟩
            have n6_ : Aside0 ((w71.setCell ⟨gb198, 5, none⟩ (.slice Ao72 y219.length co72)).heap[gb198]? = some (.cells #[.int .i64 t195, .int .i64 t196, .int .i64 t197, .slice Ao61 y212.length co61, .slice Ao67 y216.length co67, .slice Ao72 y219.length co72] 34 (0, 0))) := ⟨kpq_ (kputs BK198 [(5, _)])⟩
            have n7_ : Aside0 ((w71.setCell ⟨gb198, 5, none⟩ (.slice Ao72 y219.length co72)).heap[gb210]? = some (.cells #[.int .i64 t207, .int .i64 t208, .int .i64 t209] 29 (0, 0))) := ⟨kf_ BK210 NB210_198⟩
            have n8_ : Aside0 (Below w.heap.size w (w71.setCell ⟨gb198, 5, none⟩ (.slice Ao72 y219.length co72))) := ⟨hb_ HB⟩
            (try clear HO_8)
            (try clear HO214)
            (try clear HO218)
            (try clear HO221)
            (try clear BK192)
            (try clear BK193)
            (try clear BK198)
            (try clear BK210)
            (try clear HB)
            generalize (w71.setCell ⟨gb198, 5, none⟩ (.slice Ao72 y219.length co72)) = w74 at n0_ n1_ n2_ n3_ n4_ n5_ n6_ n7_ n8_ ⊢
            have HO_8 := n0_
            have HO214 := n1_
            have HO218 := n2_
            have HO221 := n3_
            have BK192 := n4_
            have BK193 := n5_
            have BK198 := n6_
            have BK210 := n7_
            have HB := n8_
            clear n0_ n1_ n2_ n3_ n4_ n5_ n6_ n7_ n8_
            have n0_ := Aside0.mk (Kd.R_drew HO_8.out)
            have n1_ := Aside0.mk (Kd.R_drew HO214.out)
            have n2_ := Aside0.mk (Kd.R_drew HO218.out)
            have n3_ := Aside0.mk (Kd.R_drew HO221.out)
            have n4_ := Aside0.mk (blk_drew BK192.out)
            have n5_ := Aside0.mk (blk_drew BK193.out)
            have n6_ := Aside0.mk (blk_drew BK198.out)
            have n7_ := Aside0.mk (blk_drew BK210.out)
            have n8_ := Aside0.mk (below_drew1 HB.out)
            clear HO_8
            clear HO214
            clear HO218
            clear HO221
            clear BK192
            clear BK193
            clear BK198
            clear BK210
            clear HB
            have HO_8 := n0_
            have HO214 := n1_
            have HO218 := n2_
            have HO221 := n3_
            have BK192 := n4_
            have BK193 := n5_
            have BK198 := n6_
            have BK210 := n7_
            have HB := n8_
            clear n0_ n1_ n2_ n3_ n4_ n5_ n6_ n7_ n8_
            refine start_ (n := 11) (S := fun w' => w'.cell? ⟨gb210, 0, none⟩ = some (.int .i64 t207) ∧ w'.cell? ⟨gb210, 1, none⟩ = some (.int .i64 t208) ∧ w'.cell? ⟨gb210, 2, none⟩ = some (.int .i64 t209)) (ds := []) #[false, false, false, false, false, false, false, false, false, false, false] (by kernel_rfl) rfl rfl ⟨(blk_cell BK210.out 0).trans rfl, (blk_cell BK210.out 1).trans rfl, (blk_cell BK210.out 2).trans rfl⟩ (fun hHeld => ?_); refine with_tabW spec_CoarseModel.tab21 spec_CoarseModel.bits21 (fun HT_ HW_ => ?_)
            generalize w74.drew = w75 at HO_8 HO214 HO218 HO221 BK192 BK193 BK198 BK210 HB hHeld ⊢
            refine pure_ (i := 0) (N := some 72) (v := ?_) (a' := ?_) #[true, false, false, false, false, false, false, false, false, false, false] rfl rfl (any_of HT_.out (by kernel_rfl)) (fun _ _ _ h => h) (Or.inl ⟨by rfl, ?_⟩) ?_ ?_
            rotate_left
            ·intro w'
             go_simp
             with_reducible rfl
            rotate_left
            ·simp only [Act.put, List.setIfInBounds_toArray, List.set_cons_zero, List.set_cons_succ, i64_w, i32_w]
             rfl
            refine pure_ (i := 1) (N := some 73) (v := ?_) (a' := ?_) #[true, true, false, false, false, false, false, false, false, false, false] rfl rfl (any_of HT_.out (by kernel_rfl)) (fun _ _ _ h => h) (Or.inl ⟨by rfl, ?_⟩) ?_ ?_
            rotate_left
            ·intro w'
             go_simp
             with_reducible rfl
            rotate_left
            ·simp only [Act.put, List.setIfInBounds_toArray, List.set_cons_zero, List.set_cons_succ, i64_w, i32_w]
             rfl
            refine pure_ (i := 6) (N := some 78) (v := ?_) (a' := ?_) #[true, true, false, false, false, false, true, false, false, false, false] rfl rfl (any_of HT_.out (by kernel_rfl)) (fun _ _ _ h => h) (Or.inl ⟨by rfl, ?_⟩) ?_ ?_
            rotate_left
            ·intro w'
             go_simp
             with_reducible rfl
            rotate_left
            ·simp only [Act.put, List.setIfInBounds_toArray, List.set_cons_zero, List.set_cons_succ, i64_w, i32_w]
             rfl
            refine take_ (i := 2) (N := some 74) (v := ?_) (a' := ?_) #[true, true, true, false, false, false, true, false, false, false, false] rfl rfl (take_ofW HT_.out HW_.out (by kernel_rfl)) (fun _ _ _ h => h) (Or.inl ⟨by rfl, ?_⟩) hHeld ?_ ?_
            rotate_left
            ·rintro w' ⟨s0, s1, s2⟩
             go_simp
             with_reducible rfl
            rotate_left
            ·simp only [Act.put, List.setIfInBounds_toArray, List.set_cons_zero, List.set_cons_succ, i64_w, i32_w]
             rfl
            refine take_ (i := 3) (N := some 75) (v := ?_) (a' := ?_) #[true, true, true, true, false, false, true, false, false, false, false] rfl rfl (take_ofW HT_.out HW_.out (by kernel_rfl)) (fun _ _ _ h => h) (Or.inl ⟨by rfl, ?_⟩) hHeld ?_ ?_
            rotate_left
            ·rintro w' ⟨s0, s1, s2⟩
             go_simp
             with_reducible rfl
            rotate_left
            ·simp only [Act.put, List.setIfInBounds_toArray, List.set_cons_zero, List.set_cons_succ, i64_w, i32_w]
             rfl
            refine take_ (i := 7) (N := some 79) (v := ?_) (a' := ?_) #[true, true, true, true, false, false, true, true, false, false, false] rfl rfl (take_ofW HT_.out HW_.out (by kernel_rfl)) (fun _ _ _ h => h) (Or.inl ⟨by rfl, ?_⟩) hHeld ?_ ?_
            rotate_left
            ·rintro w' ⟨s0, s1, s2⟩
             go_simp
             with_reducible rfl
            rotate_left
            ·simp only [Act.put, List.setIfInBounds_toArray, List.set_cons_zero, List.set_cons_succ, i64_w, i32_w]
             rfl
            refine one_ (i := 4) (N := some 76) #[true, true, true, true, true, false, true, true, false, false, false] rfl rfl (one_of HT_.out (by kernel_rfl)) (by decide) (fun K hK => ?_)
            refine goes_ Try.func81 (by kernel_rfl) rfl #[.agg #[.int .i64 t207, .int .i64 t208, .int .i64 t209]] (by rfl) rfl rfl (by (try simp only [List.map_toArray, List.map_cons, List.map_nil]); first | done | rfl | (simp only [List.length_drop, List.length_take]; rfl)) ?_
            with_reducible refine (spec_sbRound.calls t207 t208 t209 t222 _ A47.out).mono ?_
            rintro e w76 ⟨rfl, hb⟩
            refine ⟨_, rfl, ?_⟩
            have n0_ := Aside0.mk (Kd.R_below (Kd.R_p HO_8) hb)
            have n1_ := Aside0.mk (Kd.R_below (Kd.R_p HO214) hb)
            have n2_ := Aside0.mk (Kd.R_below (Kd.R_p HO218) hb)
            have n3_ := Aside0.mk (Kd.R_below (Kd.R_p HO221) hb)
            have n4_ := Aside0.mk (blk_below (kp_ BK192) hb)
            have n5_ := Aside0.mk (blk_below (kp_ BK193) hb)
            have n6_ := Aside0.mk (blk_below (kp_ BK198) hb)
            have n7_ := Aside0.mk (blk_below (kp_ BK210) hb)
            have n8_ := Aside0.mk (below_step (hb_ HB) hb)
            clear HO_8
            clear HO214
            clear HO218
            clear HO221
            clear BK192
            clear BK193
            clear BK198
            clear BK210
            clear HB
            have HO_8 := n0_
            have HO214 := n1_
            have HO218 := n2_
            have HO221 := n3_
            have BK192 := n4_
            have BK193 := n5_
            have BK198 := n6_
            have BK210 := n7_
            have HB := n8_
            clear n0_ n1_ n2_ n3_ n4_ n5_ n6_ n7_ n8_
            (try clear hb)
            (try clear hb2)
            (try clear hk)
            (try clear hi)
            refine hK.out _ _ ⟨(blk_cell BK210.out 0).trans rfl, (blk_cell BK210.out 1).trans rfl, (blk_cell BK210.out 2).trans rfl⟩ (fun hHeld => ?_)
            clear hK K
            refine norm_ (a' := ?_) ?_ ?_
            rotate_left
            ·show Act.put _ (some 76) _ = _
             simp only [Act.put, List.setIfInBounds_toArray, List.set_cons_zero, List.set_cons_succ, i64_w, i32_w]
             rfl
            refine pure_ (i := 5) (N := some 77) (v := ?_) (a' := ?_) #[true, true, true, true, true, true, true, true, false, false, false] rfl rfl (any_of HT_.out (by kernel_rfl)) (fun _ _ _ h => h) (Or.inl ⟨by rfl, ?_⟩) ?_ ?_
            rotate_left
            ·intro w'
             go_simp
             with_reducible rfl
            rotate_left
            ·simp only [Act.put, List.setIfInBounds_toArray, List.set_cons_zero, List.set_cons_succ, i64_w, i32_w]
             rfl
            refine pure_ (i := 8) (N := some 80) (v := ?_) (a' := ?_) #[true, true, true, true, true, true, true, true, true, false, false] rfl rfl (any_of HT_.out (by kernel_rfl)) (fun _ _ _ h => h) (Or.inl ⟨by rfl, ?_⟩) ?_ ?_
            rotate_left
            ·intro w'
             go_simp
             with_reducible rfl
            rotate_left
            ·simp only [Act.put, List.setIfInBounds_toArray, List.set_cons_zero, List.set_cons_succ, i64_w, i32_w]
             rfl
            refine pure_ (i := 9) (N := some 81) (v := ?_) (a' := ?_) #[true, true, true, true, true, true, true, true, true, true, false] rfl rfl (any_of HT_.out (by kernel_rfl)) (fun _ _ _ h => h) (Or.inl ⟨by rfl, ?_⟩) ?_ ?_
            rotate_left
            ·intro w'
             go_simp
             with_reducible rfl
            rotate_left
            ·simp only [Act.put, List.setIfInBounds_toArray, List.set_cons_zero, List.set_cons_succ, i64_w, i32_w]
             rfl
            refine pure_ (i := 10) (N := some 6) (v := ?_) (a' := ?_) #[true, true, true, true, true, true, true, true, true, true, true] rfl rfl (any_of HT_.out (by kernel_rfl)) (fun _ _ _ h => h) (Or.inl ⟨by rfl, ?_⟩) ?_ ?_
            rotate_left
            ·intro w'
             go_simp
             with_reducible rfl
            rotate_left
            ·simp only [Act.put, List.setIfInBounds_toArray, List.set_cons_zero, List.set_cons_succ, i64_w, i32_w]
             rfl
            refine done_ (done_of HT_.out (by kernel_rfl)) ?_
            try go_wp2
            go_roundg k2
            case measure => have := HK1.out; have := HK2.out; omega
            case rel => exact ⟨(wrap64 (x6_1 + (wrap64 ((wrap64 (t207 * t222)) - t208)))), (wrap64 (x7_1 + 1)), (x194000_1), (x194001_1), (x194002_1), (y212), (y216), (y219), (.slice Ao61 y212.length co61), (.slice Ao67 y216.length co67), (.slice Ao72 y219.length co72), (by first | rfl | (simp; done) | (simp [*]; done)), (by first | rfl | (simp; done) | (simp [*]; done)), H', ⟨by have := HK1.out; have := HK2.out; omega⟩, ⟨Kd.R_p HO214⟩, ⟨Kd.R_p HO218⟩, ⟨Kd.R_p HO221⟩, ⟨kp_ BK192⟩, ⟨kp_ BK193⟩, ⟨kp_ BK198⟩, ⟨hb_ HB⟩⟩
           ·rw [if_neg c46] at H
            exact absurd H (by simp)
          ·rw [if_neg c45] at H
           exact absurd H (by simp)
         ·rw [if_neg c43] at H
          exact absurd H (by simp)
        ·replace c42 := Bool.eq_false_iff.mpr c42
         subst c42
         have H1 : (some (0, 0, 0, ([] : List Int), ([] : List Int), ([] : List Int), 0, false)) = some (r1, r2, r3, r4, r5, r6, r7, r8) := by rw [if_neg (show ¬ (false = true) by decide)] at H; exact H
         clear H
         have H := H1
         clear H1
         simp only [Option.some.injEq, Prod.mk.injEq] at H
         obtain ⟨rfl, rfl, rfl, rfl, rfl, rfl, rfl, rfl⟩ := H
         (try clear BK192); (try clear GW192); (try clear GE192); (try clear NB192_193); (try clear NB193_192); (try clear NB192_198); (try clear NB198_192); (try clear BK198); (try clear GW198); (try clear GE198); (try clear NB198_192); (try clear NB192_198); (try clear NB198_193); (try clear NB193_198)
         obtain ⟨Ao77, co77, eo77⟩ := Kd.R_slice HO_8.out
         subst eo77
         go_wp2_with (first | ((with_reducible refine gate_callee (f := 67) rfl ?_); refine gl_ (some 46) Try.func67 #[.slice Ao77 x8_2.length co77] rfl rfl rfl ?_; (with_reducible refine (spec_sbJoin.calls k2 _ _ x8_2 t207 t208 t209 _ ?side1 ?side2 A40.out).mono ?_); (case side1 => exact Kd.C_o HO_8); (case side2 => exact (Kd.R_reads' HO_8.out).2.1); rintro e w78 ⟨rfl, hb⟩; refine ⟨_, rfl, ?_⟩; replace HO_8 := Kd.R_b HO_8 hb; replace HO_199003 := Kd.R_b HO_199003 hb; replace HO_199004 := Kd.R_b HO_199004 hb; replace HO_199005 := Kd.R_b HO_199005 hb; replace BK193 := kb_ BK193 hb; replace HB := hbs_ HB hb; (try clear hb); (try clear hb2); (try clear hk); (try clear hi)) | ((with_reducible refine gate_dst (N := 10) rfl ?_); refine box_event ?hg (N := 10) ?hd (cs := #[.int .i64 0, .int .i64 0, .int .i64 0]) (t := 29) ?hr ?_; (case hd => rfl); (case hg => rfl); (case hr => first | (go_simp; done) | (go_simp; rfl)); intro gb210 hg w79 hbox hb; have BK210 := Aside0.mk (hbox); have GW210 := gs_ hg HB; have GE210 := gs_ hg HB; have NB193_210 := nl_ hg BK193; have NB210_193 := ng_ hg BK193; replace HO_8 := Aside0.mk (Kd.R_below (Kd.R_elderB (Kd.R_p HO_8) gb210 (Nat.le_of_eq hg.symm)) hb); replace HO_199003 := Kd.R_b HO_199003 hb; replace HO_199004 := Kd.R_b HO_199004 hb; replace HO_199005 := Kd.R_b HO_199005 hb; replace BK193 := kb_ BK193 hb; replace HB := hbs_ HB hb; clear hb hbox hg; have hnb80 := NB210_193.out; have hnc80 := NB193_210.out; obtain ⟨hcz81_0, hcz81_1, hcz81_2, hfz81_0, hfz81_1, hfz81_2⟩ := bx3 BK210) | ((with_reducible refine gate_callee (f := 66) rfl ?_); refine gl_ (some 48) Try.func66 #[.agg #[.int .i64 t207, .int .i64 t208, .int .i64 t209]] rfl rfl rfl ?_; (with_reducible refine (spec_sbPiece.calls t207 t208 t209 false _ A41.out).mono ?_); rintro e w82 ⟨rfl, hb⟩; refine ⟨_, rfl, ?_⟩; replace HO_8 := Aside0.mk (Kd.R_below (Kd.R_pp ((Kd.R_mono (Kd.R_far (p := ⟨gb210, 2, none⟩) (Kd.R_far (p := ⟨gb210, 1, none⟩) (Kd.R_far (p := ⟨gb210, 0, none⟩) (Kd.R_mono HO_8.out (fun k_ hk => (⟨hk, hk.2⟩ : _ ∧ k_ ≠ gb210))) (fun _ hk => hk.2) (.int .i64 t207)) (fun _ hk => hk.2) (.int .i64 t208)) (fun _ hk => hk.2) (.int .i64 t209)) (fun _ h_ => h_.1)))) hb); replace HO_199003 := Kd.R_sb HO_199003 BK210 hb; replace HO_199004 := Kd.R_sb HO_199004 BK210 hb; replace HO_199005 := Kd.R_sb HO_199005 BK210 hb; replace BK193 := kfb_ BK193 NB193_210 hb; replace HB := hbs_ HB hb; replace BK210 := Aside0.mk (blk_below (g := gb210) (o := .cells #[.int .i64 t207, .int .i64 t208, .int .i64 t209] 29 (0, 0)) (kpq_ (kputs BK210 [(0, _), (1, _), (2, _)])) hb); (try clear hb); (try clear hb2); (try clear hk); (try clear hi); obtain ⟨hcz83_0, hcz83_1, hcz83_2, hcz83_3, hcz83_4, hcz83_5, hfz83_0, hfz83_1, hfz83_2, hfz83_3, hfz83_4, hfz83_5⟩ := bx6 BK193))
         refine bodyPost_ret (results_ctt rfl _ _ gb193 34 #[.int .i64 0, .int .i64 0, .int .i64 0, .slice none 0 0, .slice none 0 0, .slice none 0 0] (0, 0) _ rfl (kpq_ (kputs BK193 [(0, _), (1, _), (2, _), (3, _), (4, _), (5, _)])) Try.underlying34 rfl (by kernel_rfl)) rfl ?_
         exact ⟨_, _, _, by first | rfl | (simp [errW_none, errW_some] <;> rfl) | (simp [*, errW_none, errW_some] <;> rfl), by first | exact Kd.R_nil _ _ _ _ _ | exact Kd.N_nil _ _ _ _ _ | exact Kd.V_nil _ _ _ _ _ | exact Kd.Q_nil _ _ _ _ _ | exact Kd.S_nil _ _ _ _ _, by first | exact Kd.R_nil _ _ _ _ _ | exact Kd.N_nil _ _ _ _ _ | exact Kd.V_nil _ _ _ _ _ | exact Kd.Q_nil _ _ _ _ _ | exact Kd.S_nil _ _ _ _ _, by first | exact Kd.R_nil _ _ _ _ _ | exact Kd.N_nil _ _ _ _ _ | exact Kd.V_nil _ _ _ _ _ | exact Kd.Q_nil _ _ _ _ _ | exact Kd.S_nil _ _ _ _ _, hb_ HB⟩
    ·rw [if_neg c17] at H
     have c17b0 : decide (x7_1 < t199) = false := decide_eq_false c17
     clear c17
     simp only [Option.some.injEq, Prod.mk.injEq] at H
     obtain ⟨rfl, rfl, rfl, rfl, rfl, rfl, rfl, rfl⟩ := H
     have hnb84 := NB198_192.out
     have hnc84 := NB192_198.out
     have hnb85 := NB198_193.out
     have hnc85 := NB193_198.out
     have hcz86_0 : wr.cell? ⟨gb198, 0, none⟩ = some (.int .i64 t195) := (blk_cell BK198.out 0).trans rfl
     have hcz86_1 : wr.cell? ⟨gb198, 1, none⟩ = some (.int .i64 t196) := (blk_cell BK198.out 1).trans rfl
     have hcz86_2 : wr.cell? ⟨gb198, 2, none⟩ = some (.int .i64 t197) := (blk_cell BK198.out 2).trans rfl
     have hcz86_3 : wr.cell? ⟨gb198, 3, none⟩ = some (u199003) := (blk_cell BK198.out 3).trans rfl
     have hcz86_4 : wr.cell? ⟨gb198, 4, none⟩ = some (u199004) := (blk_cell BK198.out 4).trans rfl
     have hcz86_5 : wr.cell? ⟨gb198, 5, none⟩ = some (u199005) := (blk_cell BK198.out 5).trans rfl
     have hfz86_0 := blk_frozen BK198.out 0
     have hfz86_1 := blk_frozen BK198.out 1
     have hfz86_2 := blk_frozen BK198.out 2
     have hfz86_3 := blk_frozen BK198.out 3
     have hfz86_4 := blk_frozen BK198.out 4
     have hfz86_5 := blk_frozen BK198.out 5
     (try clear BK192); (try clear GW192); (try clear GE192); (try clear NB192_193); (try clear NB193_192); (try clear NB192_198); (try clear NB198_192)
     go_wp2_with (first | ((with_reducible refine gate_callee (f := 79) rfl ?_); refine gl_ (some 22) Try.func79 #[.agg #[.int .i64 t195, .int .i64 t196, .int .i64 t197]] rfl rfl rfl ?_; (with_reducible refine (spec_grCount.calls t195 t196 t197 t199 _ A16.out).mono ?_); rintro e w87 ⟨rfl, hb⟩; refine ⟨_, rfl, ?_⟩; replace HO_199003 := Kd.R_b HO_199003 hb; replace HO_199004 := Kd.R_b HO_199004 hb; replace HO_199005 := Kd.R_b HO_199005 hb; replace BK193 := kb_ BK193 hb; replace BK198 := kb_ BK198 hb; replace HB := hbs_ HB hb; (try clear hb); (try clear hb2); (try clear hk); (try clear hi); obtain ⟨hcz88_0, hcz88_1, hcz88_2, hcz88_3, hcz88_4, hcz88_5, hfz88_0, hfz88_1, hfz88_2, hfz88_3, hfz88_4, hfz88_5⟩ := bx6 BK198; obtain ⟨hcz89_0, hcz89_1, hcz89_2, hcz89_3, hcz89_4, hcz89_5, hfz89_0, hfz89_1, hfz89_2, hfz89_3, hfz89_4, hfz89_5⟩ := bx6 BK193; obtain ⟨Ao90, co90, eo90⟩ := Kd.R_slice HO_199003.out; subst eo90; obtain ⟨Ao91, co91, eo91⟩ := Kd.R_slice HO_199004.out; subst eo91; obtain ⟨Ao92, co92, eo92⟩ := Kd.R_slice HO_199005.out; subst eo92))
     refine bodyPost_ret (results_ctt rfl _ _ gb193 34 #[.int .i64 t195, .int .i64 t196, .int .i64 t197, .slice Ao90 x199003_1.length co90, .slice Ao91 x199004_1.length co91, .slice Ao92 x199005_1.length co92] (0, 0) _ rfl (kpq_ (kputs BK193 [(0, _), (1, _), (2, _), (3, _), (4, _), (5, _)])) Try.underlying34 rfl (by kernel_rfl)) rfl ?_
     exact ⟨_, _, _, by first | rfl | (simp [errW_none, errW_some] <;> rfl) | (simp [*, errW_none, errW_some] <;> rfl), Kd.R_mono (Kd.R_s HO_199003 BK193) (fun _ hk => ⟨hk.1, hk.2⟩), Kd.R_mono (Kd.R_s HO_199004 BK193) (fun _ hk => ⟨hk.1, hk.2⟩), Kd.R_mono (Kd.R_s HO_199005 BK193) (fun _ hk => ⟨hk.1, hk.2⟩), hb_ HB⟩
 ·replace c3 := Bool.eq_false_iff.mpr c3
  subst c3
  have H1 : (some (0, 0, 0, ([] : List Int), ([] : List Int), ([] : List Int), 0, false)) = some (r1, r2, r3, r4, r5, r6, r7, r8) := by rw [if_neg (show ¬ (false = true) by decide)] at H; exact H
  clear H
  have H := H1
  clear H1
  simp only [Option.some.injEq, Prod.mk.injEq] at H
  obtain ⟨rfl, rfl, rfl, rfl, rfl, rfl, rfl, rfl⟩ := H
  go_enter Try.func33, Try.ntmps33
  go_wp2_with (first | ((with_reducible refine gate_dst (N := 1) rfl ?_); refine box_event ?hg (N := 1) ?hd (cs := #[.int .i64 a0_0, .int .i64 a0_1, .int .i64 a0_2, .slice A0_3 l0_3.length c0_3, .slice A0_4 l0_4.length c0_4, .slice A0_5 l0_5.length c0_5]) (t := 34) ?hr ?_; (case hd => rfl); (case hg => rfl); (case hr => first | (go_simp; done) | (go_simp; rfl)); intro gb192 hg w93 hbox hb; have BK192 := Aside0.mk (hbox); have GW192 := gs_ hg HB; have GE192 := gs_ hg HB; replace HB := hbs_ HB hb; clear hb hbox hg) | ((with_reducible refine gate_dst (N := 2) rfl ?_); refine box_event ?hg (N := 2) ?hd (cs := #[.int .i64 0, .int .i64 0, .int .i64 0, .slice none 0 0, .slice none 0 0, .slice none 0 0]) (t := 34) ?hr ?_; (case hd => rfl); (case hg => rfl); (case hr => first | (go_simp; done) | (go_simp; rfl)); intro gb193 hg w94 hbox hb; have BK193 := Aside0.mk (hbox); have GW193 := gs_ hg HB; have GE193 := gs_ hg HB; have NB192_193 := nl_ hg BK192; have NB193_192 := ng_ hg BK192; replace BK192 := kb_ BK192 hb; replace HB := hbs_ HB hb; clear hb hbox hg; have hnb95 := NB192_193.out; have hnc95 := NB193_192.out; obtain ⟨hcz96_0, hcz96_1, hcz96_2, hcz96_3, hcz96_4, hcz96_5, hfz96_0, hfz96_1, hfz96_2, hfz96_3, hfz96_4, hfz96_5⟩ := bx6 BK192) | ((with_reducible refine gate_callee (f := 77) rfl ?_); refine gl_ (some 12) Try.func77 #[.agg #[.int .i64 a0_0, .int .i64 a0_1, .int .i64 a0_2, .slice A0_3 l0_3.length c0_3, .slice A0_4 l0_4.length c0_4, .slice A0_5 l0_5.length c0_5]] rfl rfl rfl ?_; (with_reducible refine (spec_moGood.calls k a0_0 a0_1 a0_2 _ _ l0_3 _ _ l0_4 _ _ l0_5 false _ ?side1 ?side2 ?side3 ?side4 ?side5 ?side6 A2.out).mono ?_); (case side1 => exact Kd.C_w HR0_3 HB); (case side2 => exact HC0_3.out); (case side3 => exact Kd.C_w HR0_4 HB); (case side4 => exact HC0_4.out); (case side5 => exact Kd.C_w HR0_5 HB); (case side6 => exact HC0_5.out); rintro e w97 ⟨rfl, hb⟩; refine ⟨_, rfl, ?_⟩; replace BK192 := kb_ BK192 hb; replace BK193 := kb_ BK193 hb; replace HB := hbs_ HB hb; (try clear hb); (try clear hb2); (try clear hk); (try clear hi); obtain ⟨hcz98_0, hcz98_1, hcz98_2, hcz98_3, hcz98_4, hcz98_5, hfz98_0, hfz98_1, hfz98_2, hfz98_3, hfz98_4, hfz98_5⟩ := bx6 BK193))
  refine bodyPost_ret (results_ctt rfl _ _ gb193 34 #[.int .i64 0, .int .i64 0, .int .i64 0, .slice none 0 0, .slice none 0 0, .slice none 0 0] (0, 0) _ rfl (kpq_ (kputs BK193 [(0, _), (1, _), (2, _), (3, _), (4, _), (5, _)])) Try.underlying34 rfl (by kernel_rfl)) rfl ?_
  exact ⟨_, _, _, by first | rfl | (simp [errW_none, errW_some] <;> rfl) | (simp [*, errW_none, errW_some] <;> rfl), by first | exact Kd.R_nil _ _ _ _ _ | exact Kd.N_nil _ _ _ _ _ | exact Kd.V_nil _ _ _ _ _ | exact Kd.Q_nil _ _ _ _ _ | exact Kd.S_nil _ _ _ _ _, by first | exact Kd.R_nil _ _ _ _ _ | exact Kd.N_nil _ _ _ _ _ | exact Kd.V_nil _ _ _ _ _ | exact Kd.Q_nil _ _ _ _ _ | exact Kd.S_nil _ _ _ _ _, by first | exact Kd.R_nil _ _ _ _ _ | exact Kd.N_nil _ _ _ _ _ | exact Kd.V_nil _ _ _ _ _ | exact Kd.Q_nil _ _ _ _ _ | exact Kd.S_nil _ _ _ _ _, hb_ HB⟩

/-! ### impl_blocksOf: function 83 -/
def impl_blocksOf.f (a0_0 : Int) (a0_1 : Int) (a0_2 : Int) : Option (Int) := some (wrap64 ((wrap64 (a0_0 * a0_1)) * a0_2))
set_option maxHeartbeats 8000000 in
set_option maxRecDepth 100000 in
theorem impl_blocksOf.calls (a0_0 : Int) (a0_1 : Int) (a0_2 : Int) (r : Int) (w : World) (h : impl_blocksOf.f a0_0 a0_1 a0_2 = some r) :
  Calls Try.prog 83 #[.agg #[.int .i64 a0_0, .int .i64 a0_1, .int .i64 a0_2]] w fun e w' => e = .returned (.int .i64 r) ∧ Below w.heap.size w w' := by
 have hu32 := Try.underlying32
 have HB := Aside0.mk (Below.refl w.heap.size w)
 have H : (some (wrap64 ((wrap64 (a0_0 * a0_1)) * a0_2))) = some r := h
 clear h
 obtain rfl := Option.some.inj H
 go_enter Try.func83, Try.ntmps83
 go_wp2_with (first | ((with_reducible refine gate_dst (N := 1) rfl ?_); refine box_event ?hg (N := 1) ?hd (cs := #[.int .i64 a0_0, .int .i64 a0_1, .int .i64 a0_2]) (t := 32) ?hr ?_; (case hd => rfl); (case hg => rfl); (case hr => first | (go_simp; done) | (go_simp; rfl)); intro gb223 hg w2 hbox hb; have BK223 := Aside0.mk (hbox); have GW223 := gs_ hg HB; have GE223 := gs_ hg HB; replace HB := hbs_ HB hb; clear hb hbox hg; obtain ⟨hcz3_0, hcz3_1, hcz3_2, hfz3_0, hfz3_1, hfz3_2⟩ := bx3 BK223))
 go_ret
 exact ⟨by first | rfl | (simp [errW_none, errW_some] <;> rfl) | (simp [*, errW_none, errW_some] <;> rfl), hb_ HB⟩

end Go.Proofs.Ytceajigggcihnaa.PFnExactCoarseModel
