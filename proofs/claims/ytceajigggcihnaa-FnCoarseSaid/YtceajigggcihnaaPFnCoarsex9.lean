-- Laid for this claim by wip/tools/print2.sh, a changed copy of the kit's print (wip/tools/patch_print.py): not by print.sh.
import Derived.Test.YtceajigggcihnaaPFnCoarsex8
import Derived.Test.YtceajigggcihnaaVFnCoarse
namespace Go.Proofs.Ytceajigggcihnaa.PFnCoarse
open Go.RowKit Go.Proofs.YtceajigggcihnaaW.PrintWords Go.Proofs.YtceajigggcihnaaW.PrintLast Go.Proofs.YtceajigggcihnaaW.PrintMore
attribute [local go_sem] max2_int min2_int max_two min_two max_three min_three max_four min_four
set_option linter.unusedVariables false
set_option linter.unusedSimpArgs false

/-! ### spec_CoarseModel: function 33 -/
mutual
def spec_CoarseModel.l0 : Nat → Int → Int → Int → Int → Int → List Int → List Int → List Int → Int → Int → Int → List Int → List Int → List Int → Option (Int × Int × Int × List Int × List Int × List Int × Int × Bool)
 | 0, _, _, _, _, _, _, _, _, _, _, _, _, _, _ => none
 | k + 1, x6, x7, x251000, x251001, x251002, x251003, x251004, x251005, x257000, x257001, x257002, x257003, x257004, x257005 => (spec_grCount.f x257000 x257001 x257002).bind fun t257 => (if x7 < t257 then (spec_CoarseModel.l1 k x6 x7 ([] : List (S29)) (x251003.length : Int) 0 x251000 x251001 x251002 x251003 x251004 x251005 x257000 x257001 x257002 x257003 x257004 x257005) else (some (x257000, x257001, x257002, x257003, x257004, x257005, x6, true)))
def spec_CoarseModel.l1 : Nat → Int → Int → List (S29) → Int → Int → Int → Int → Int → List Int → List Int → List Int → Int → Int → Int → List Int → List Int → List Int → Option (Int × Int × Int × List Int × List Int × List Int × Int × Bool)
 | 0, _, _, _, _, _, _, _, _, _, _, _, _, _, _, _, _, _ => none
 | k + 1, x6, x7, x8, x28, x29, x251000, x251001, x251002, x251003, x251004, x251005, x257000, x257001, x257002, x257003, x257004, x257005 => if x29 < x28 then ((spec_sbCoarse.f x251000 x251001 x251002 x29).bind fun t258 => (if t258 = x7 then ((spec_sbOf.f x251000 x251001 x251002 x251003 x251004 x251005 x29).bind fun bt259 => (if x8.length < 5864062014805 then (spec_CoarseModel.l1 k x6 x7 (x8 ++ [(⟨bt259.1, bt259.2.1, bt259.2.2⟩ : S29)]) x28 (wrap64 (x29 + 1)) x251000 x251001 x251002 x251003 x251004 x251005 x257000 x257001 x257002 x257003 x257004 x257005) else (none))) else (spec_CoarseModel.l1 k x6 x7 x8 x28 (wrap64 (x29 + 1)) x251000 x251001 x251002 x251003 x251004 x251005 x257000 x257001 x257002 x257003 x257004 x257005))) else ((spec_sbJoin.f k x8).bind fun bt265 => ((spec_sbPiece.f bt265.1 bt265.2.1 bt265.2.2).bind fun t269 => (if t269 = true then (if x257003.length < 17592186044416 then ((spec_sbRound.f bt265.1 bt265.2.1 bt265.2.2).bind fun t273 => (if x257004.length < 17592186044416 then (if x257005.length < 17592186044416 then ((spec_sbRound.f bt265.1 bt265.2.1 bt265.2.2).bind fun t280 => (spec_CoarseModel.l0 k (wrap64 (x6 + (wrap64 ((wrap64 (bt265.1 * t280)) - bt265.2.1)))) (wrap64 (x7 + 1)) x251000 x251001 x251002 x251003 x251004 x251005 x257000 x257001 x257002 (x257003 ++ [bt265.1]) (x257004 ++ [t273]) (x257005 ++ [bt265.2.2]))) else (none)) else (none))) else (none)) else (some (0, 0, 0, ([] : List Int), ([] : List Int), ([] : List Int), 0, false)))))
end
def spec_CoarseModel.f (k : Nat) (a0_0 : Int) (a0_1 : Int) (a0_2 : Int) (l0_3 : List Int) (l0_4 : List Int) (l0_5 : List Int) : Option (Int × Int × Int × List Int × List Int × List Int × Int × Bool) := (spec_moGood.f k a0_0 a0_1 a0_2 l0_3 l0_4 l0_5).bind fun t252 => (if t252 = true then ((spec_sbGrid.f a0_0 a0_1 a0_2).bind fun bt253 => (spec_CoarseModel.l0 k 0 0 a0_0 a0_1 a0_2 l0_3 l0_4 l0_5 bt253.1 bt253.2.1 bt253.2.2 ([] : List Int) ([] : List Int) ([] : List Int))) else (some (0, 0, 0, ([] : List Int), ([] : List Int), ([] : List Int), 0, false)))
def spec_CoarseModel.T19 : Bool × List (List Nat × List Nat) := (true, [([], []), ([0], [0]), ([], []), ([2], [2]), ([3], [3]), ([1, 4, 3], [1, 4]), ([0, 1, 2, 3, 4, 5], []), ([6, 5, 5, 0, 1, 2, 3, 4, 5], [5, 6])])
def spec_CoarseModel.B19 : List Nat := [0, 1, 0, 4, 12, 31, 63, 127]
theorem spec_CoarseModel.tab19 : rtab .any (opsOf Try.f33 19) = spec_CoarseModel.T19 := by kernel_rfl
theorem spec_CoarseModel.bits19 : waitsOk spec_CoarseModel.T19.2 spec_CoarseModel.B19 = true := by kernel_rfl
def spec_CoarseModel.T21 : Bool × List (List Nat × List Nat) := (true, [([], []), ([], []), ([1], [1]), ([], []), ([3], [3]), ([2, 4], [2, 4]), ([], []), ([6], [6]), ([5, 7], [5, 7]), ([0, 8], [0, 8]), ([9, 4, 0, 1, 2, 3, 4, 5, 6, 7, 8, 9], [0, 9])])
def spec_CoarseModel.B21 : List Nat := [0, 0, 2, 0, 8, 30, 0, 64, 254, 511, 1023]
theorem spec_CoarseModel.tab21 : rtab .any (opsOf Try.f33 21) = spec_CoarseModel.T21 := by kernel_rfl
theorem spec_CoarseModel.bits21 : waitsOk spec_CoarseModel.T21.2 spec_CoarseModel.B21 = true := by kernel_rfl
set_option maxHeartbeats 8000000 in
set_option maxRecDepth 100000 in
theorem spec_CoarseModel.calls (k : Nat) (a0_0 : Int) (a0_1 : Int) (a0_2 : Int) (A0_3 : Option Addr) (c0_3 : Nat) (l0_3 : List Int) (A0_4 : Option Addr) (c0_4 : Nat) (l0_4 : List Int) (A0_5 : Option Addr) (c0_5 : Nat) (l0_5 : List Int) (r1 : Int) (r2 : Int) (r3 : Int) (r4 : List Int) (r5 : List Int) (r6 : List Int) (r7 : Int) (r8 : Bool) (w : World) (hr0_3 : Kd.C (Kd.int .i64) w A0_3 l0_3.length l0_3) (hc0_3 : l0_3.length ≤ c0_3) (hr0_4 : Kd.C (Kd.int .i64) w A0_4 l0_4.length l0_4) (hc0_4 : l0_4.length ≤ c0_4) (hr0_5 : Kd.C (Kd.int .i64) w A0_5 l0_5.length l0_5) (hc0_5 : l0_5.length ≤ c0_5) (h : spec_CoarseModel.f k a0_0 a0_1 a0_2 l0_3 l0_4 l0_5 = some (r1, r2, r3, r4, r5, r6, r7, r8)) :
  Calls Try.prog 33 #[.agg #[.int .i64 a0_0, .int .i64 a0_1, .int .i64 a0_2, .slice A0_3 l0_3.length c0_3, .slice A0_4 l0_4.length c0_4, .slice A0_5 l0_5.length c0_5]] w fun e w' => ∃ v3_ v4_ v5_ : Value, e = .returned (.tuple #[.agg #[.int .i64 r1, .int .i64 r2, .int .i64 r3, v3_, v4_, v5_], .int .i64 r7, .bool r8]) ∧ Kd.R (Kd.int .i64) 3 w' w.heap.size (fun k_ => some k_ ≠ (v4_ : Value).ownBlock ∧ some k_ ≠ (v5_ : Value).ownBlock) v3_ r4 ∧ Kd.R (Kd.int .i64) 3 w' w.heap.size (fun k_ => some k_ ≠ (v3_ : Value).ownBlock ∧ some k_ ≠ (v5_ : Value).ownBlock) v4_ r5 ∧ Kd.R (Kd.int .i64) 3 w' w.heap.size (fun k_ => some k_ ≠ (v3_ : Value).ownBlock ∧ some k_ ≠ (v4_ : Value).ownBlock) v5_ r6 ∧ Below w.heap.size w w' := by
 have hu34 := Try.underlying34
 have hu32 := Try.underlying32
 have hu29 := Try.underlying29
 have HR0_3 := Aside0.mk hr0_3
 have HC0_3 := Aside0.mk hc0_3
 clear hr0_3 hc0_3
 have HR0_4 := Aside0.mk hr0_4
 have HC0_4 := Aside0.mk hc0_4
 clear hr0_4 hc0_4
 have HR0_5 := Aside0.mk hr0_5
 have HC0_5 := Aside0.mk hc0_5
 clear hr0_5 hc0_5
 have HB := Aside0.mk (Below.refl w.heap.size w)
 have H := h
 unfold spec_CoarseModel.f at H
 clear h
 replace H := Option.bind_eq_some_iff.mp H
 obtain ⟨t252, A20, H⟩ := H
 try dsimp only at H
 have A2 := Aside0.mk A20
 clear A20
 by_cases c3 : t252 = true
 ·subst c3
  rw [if_pos rfl] at H
  replace H := Option.bind_eq_some_iff.mp H
  obtain ⟨⟨t253, t254, t255⟩, A40, H⟩ := H
  try dsimp only at H
  have A4 := Aside0.mk A40
  clear A40
  have H' := Aside0.mk H
  clear H
  go_enter Try.func33, Try.ntmps33
  go_wp2_with (first | ((with_reducible refine gate_dst (N := 1) rfl ?_); refine bv_ 1 (cs := #[.int .i64 a0_0, .int .i64 a0_1, .int .i64 a0_2, .slice A0_3 l0_3.length c0_3, .slice A0_4 l0_4.length c0_4, .slice A0_5 l0_5.length c0_5]) (t := 34) ?_; intro gb250 hg w5 hbox hb; have BK250 := Aside0.mk (hbox); have GW250 := gs_ hg HB; have GE250 := gs_ hg HB; replace HB := hbs_ HB hb; clear hb hbox hg) | ((with_reducible refine gate_dst (N := 2) rfl ?_); refine bv_ 2 (cs := #[.int .i64 0, .int .i64 0, .int .i64 0, .slice none 0 0, .slice none 0 0, .slice none 0 0]) (t := 34) ?_; intro gb251 hg w6 hbox hb; have BK251 := Aside0.mk (hbox); have GW251 := gs_ hg HB; have GE251 := gs_ hg HB; have NB250_251 := nl_ hg BK250; have NB251_250 := ng_ hg BK250; replace BK250 := kb_ BK250 hb; replace HB := hbs_ HB hb; clear hb hbox hg; have := NB250_251.out; have := NB251_250.out; obtain ⟨hcz8_0, hcz8_1, hcz8_2, hcz8_3, hcz8_4, hcz8_5, hfz8_0, hfz8_1, hfz8_2, hfz8_3, hfz8_4, hfz8_5⟩ := bx6 BK250) | ((with_reducible refine gate_callee (f := 77) rfl ?_); refine gl_ (some 12) Try.func77 #[.agg #[.int .i64 a0_0, .int .i64 a0_1, .int .i64 a0_2, .slice A0_3 l0_3.length c0_3, .slice A0_4 l0_4.length c0_4, .slice A0_5 l0_5.length c0_5]] rfl rfl rfl ?_; (with_reducible refine (spec_moGood.calls k a0_0 a0_1 a0_2 _ _ l0_3 _ _ l0_4 _ _ l0_5 true _ ?side1 ?side2 ?side3 ?side4 ?side5 ?side6 A2.out).mono ?_); (case side1 => exact Kd.C_w HR0_3 HB); (case side2 => exact HC0_3.out); (case side3 => exact Kd.C_w HR0_4 HB); (case side4 => exact HC0_4.out); (case side5 => exact Kd.C_w HR0_5 HB); (case side6 => exact HC0_5.out); rintro e w9 ⟨rfl, hb⟩; refine ⟨_, rfl, ?_⟩; replace BK250 := kb_ BK250 hb; replace BK251 := kb_ BK251 hb; replace HB := hbs_ HB hb; obtain ⟨hcz10_0, hcz10_1, hcz10_2, hcz10_3, hcz10_4, hcz10_5, hfz10_0, hfz10_1, hfz10_2, hfz10_3, hfz10_4, hfz10_5⟩ := bx6 BK250) | ((with_reducible refine gate_callee (f := 78) rfl ?_); refine gl_ (some 17) Try.func78 #[.agg #[.int .i64 a0_0, .int .i64 a0_1, .int .i64 a0_2]] rfl rfl rfl ?_; (with_reducible refine (spec_sbGrid.calls a0_0 a0_1 a0_2 t253 t254 t255 _ A4.out).mono ?_); rintro e w11 ⟨rfl, hb⟩; refine ⟨_, rfl, ?_⟩; replace BK250 := kb_ BK250 hb; replace BK251 := kb_ BK251 hb; replace HB := hbs_ HB hb) | ((with_reducible refine gate_dst (N := 5) rfl ?_); refine bv_ 5 (cs := #[.int .i64 0, .int .i64 0, .int .i64 0, .slice none 0 0, .slice none 0 0, .slice none 0 0]) (t := 34) ?_; intro gb256 hg w12 hbox hb; have BK256 := Aside0.mk (hbox); have GW256 := gs_ hg HB; have GE256 := gs_ hg HB; have NB250_256 := nl_ hg BK250; have NB256_250 := ng_ hg BK250; have NB251_256 := nl_ hg BK251; have NB256_251 := ng_ hg BK251; replace BK250 := kb_ BK250 hb; replace BK251 := kb_ BK251 hb; replace HB := hbs_ HB hb; clear hb hbox hg; have := NB256_250.out; have := NB250_256.out; have := NB256_251.out; have := NB251_256.out; obtain ⟨hcz15_0, hcz15_1, hcz15_2, hcz15_3, hcz15_4, hcz15_5, hfz15_0, hfz15_1, hfz15_2, hfz15_3, hfz15_4, hfz15_5⟩ := bx6 BK256))
  go_loopg [6, 7] k (fun kq v6 v7 w' => ∃ (x6_1 : Int) (x7_1 : Int) (x252000_1 : Int) (x252001_1 : Int) (x252002_1 : Int) (x257003_1 : List Int) (x257004_1 : List Int) (x257005_1 : List Int) (u257003 : Value) (u257004 : Value) (u257005 : Value), v6 = .int .i64 x6_1 ∧ v7 = .int .i64 x7_1 ∧ Aside0 (spec_CoarseModel.l0 kq x6_1 x7_1 a0_0 a0_1 a0_2 l0_3 l0_4 l0_5 t253 t254 t255 x257003_1 x257004_1 x257005_1 = some (r1, r2, r3, r4, r5, r6, r7, r8)) ∧ Aside0 (kq ≤ k) ∧ Aside0 (Kd.R (Kd.int .i64) 3 w' w.heap.size (fun k_ => some k_ ≠ (u257004 : Value).ownBlock ∧ some k_ ≠ (u257005 : Value).ownBlock) u257003 x257003_1) ∧ Aside0 (Kd.R (Kd.int .i64) 3 w' w.heap.size (fun k_ => some k_ ≠ (u257003 : Value).ownBlock ∧ some k_ ≠ (u257005 : Value).ownBlock) u257004 x257004_1) ∧ Aside0 (Kd.R (Kd.int .i64) 3 w' w.heap.size (fun k_ => some k_ ≠ (u257003 : Value).ownBlock ∧ some k_ ≠ (u257004 : Value).ownBlock) u257005 x257005_1) ∧ Aside0 (w'.heap[gb250]? = some (.cells #[.int .i64 a0_0, .int .i64 a0_1, .int .i64 a0_2, (.slice A0_3 l0_3.length c0_3), (.slice A0_4 l0_4.length c0_4), (.slice A0_5 l0_5.length c0_5)] 34 (0, 0))) ∧ Aside0 (w'.heap[gb251]? = some (.cells #[.int .i64 x252000_1, .int .i64 x252001_1, .int .i64 x252002_1, (.slice none 0 0), (.slice none 0 0), (.slice none 0 0)] 34 (0, 0))) ∧ Aside0 (w'.heap[gb256]? = some (.cells #[.int .i64 t253, .int .i64 t254, .int .i64 t255, u257003, u257004, u257005] 34 (0, 0))) ∧ Aside0 (Below w.heap.size w w'))
  case atStart => exact ⟨(0), (0), (0), (0), (0), (([] : List Int)), (([] : List Int)), (([] : List Int)), (.slice none 0 0), (.slice none 0 0), (.slice none 0 0), (by first | rfl | (simp; done) | (simp [*]; done)), (by first | rfl | (simp; done) | (simp [*]; done)), H', ⟨Nat.le_refl _⟩, ⟨by first | exact Kd.R_nil _ _ _ _ _ | exact Kd.N_nil _ _ _ _ _ | exact Kd.V_nil _ _ _ _ _ | exact Kd.Q_nil _ _ _ _ _ | exact Kd.S_nil _ _ _ _ _⟩, ⟨by first | exact Kd.R_nil _ _ _ _ _ | exact Kd.N_nil _ _ _ _ _ | exact Kd.V_nil _ _ _ _ _ | exact Kd.Q_nil _ _ _ _ _ | exact Kd.S_nil _ _ _ _ _⟩, ⟨by first | exact Kd.R_nil _ _ _ _ _ | exact Kd.N_nil _ _ _ _ _ | exact Kd.V_nil _ _ _ _ _ | exact Kd.Q_nil _ _ _ _ _ | exact Kd.S_nil _ _ _ _ _⟩, ⟨kf_ BK250 NB250_256⟩, ⟨kf_ BK251 NB251_256⟩, ⟨kpq_ (kputs BK256 [(0, _), (1, _), (2, _), (3, _), (4, _), (5, _)])⟩, ⟨hb_ HB⟩⟩
  clear H'
  obtain ⟨x6_1, x7_1, x252000_1, x252001_1, x252002_1, x257003_1, x257004_1, x257005_1, u257003, u257004, u257005, rfl, rfl, HA, HK1, HO_257003, HO_257004, HO_257005, BK250, BK251, BK256, HB⟩ := hrel
  cases gk with
  | zero => exact absurd HA.out (by simp [spec_CoarseModel.l0])
  | succ k1 => ?_
  have H := HA.out
  clear HA
  simp only [spec_CoarseModel.l0] at H
  replace H := Option.bind_eq_some_iff.mp H
  obtain ⟨t257, A160, H⟩ := H
  try dsimp only at H
  have A16 := Aside0.mk A160
  clear A160
  by_cases c17 : x7_1 < t257
  ·rw [if_pos c17] at H
   have c17b0 := decide_eq_true c17
   clear c17
   have H' := Aside0.mk H
   clear H
   have := NB256_250.out
   have := NB250_256.out
   have := NB256_251.out
   have := NB251_256.out
   obtain ⟨hcz20_0, hcz20_1, hcz20_2, hcz20_3, hcz20_4, hcz20_5, hfz20_0, hfz20_1, hfz20_2, hfz20_3, hfz20_4, hfz20_5⟩ := bx6 BK256
   go_wp2_with (first | ((with_reducible refine gate_callee (f := 79) rfl ?_); refine gl_ (some 22) Try.func79 #[.agg #[.int .i64 t253, .int .i64 t254, .int .i64 t255]] rfl rfl rfl ?_; (with_reducible refine (spec_grCount.calls t253 t254 t255 t257 _ A16.out).mono ?_); rintro e w21 ⟨rfl, hb⟩; refine ⟨_, rfl, ?_⟩; replace HO_257003 := Kd.R_b HO_257003 hb; replace HO_257004 := Kd.R_b HO_257004 hb; replace HO_257005 := Kd.R_b HO_257005 hb; replace BK250 := kb_ BK250 hb; replace BK251 := kb_ BK251 hb; replace BK256 := kb_ BK256 hb; replace HB := hbs_ HB hb; have := NB250_251.out; have := NB251_250.out; obtain ⟨hcz23_0, hcz23_1, hcz23_2, hcz23_3, hcz23_4, hcz23_5, hfz23_0, hfz23_1, hfz23_2, hfz23_3, hfz23_4, hfz23_5⟩ := bx6 BK250))
   go_loopg [8, 29] k1 (fun kq v8 v29 w' => ∃ (x8_2 : List (S29)) (x29_2 : Int), v29 = .int .i64 x29_2 ∧ Aside0 (spec_CoarseModel.l1 kq x6_1 x7_1 x8_2 (l0_3.length : Int) x29_2 a0_0 a0_1 a0_2 l0_3 l0_4 l0_5 t253 t254 t255 x257003_1 x257004_1 x257005_1 = some (r1, r2, r3, r4, r5, r6, r7, r8)) ∧ Aside0 (kq ≤ k1) ∧ Aside0 (Kd.R k29 29 w' w.heap.size (fun _ => True) v8 x8_2) ∧ Aside0 (Kd.R (Kd.int .i64) 3 w' w.heap.size (fun k_ => some k_ ≠ (u257004 : Value).ownBlock ∧ some k_ ≠ (u257005 : Value).ownBlock) u257003 x257003_1) ∧ Aside0 (Kd.R (Kd.int .i64) 3 w' w.heap.size (fun k_ => some k_ ≠ (u257003 : Value).ownBlock ∧ some k_ ≠ (u257005 : Value).ownBlock) u257004 x257004_1) ∧ Aside0 (Kd.R (Kd.int .i64) 3 w' w.heap.size (fun k_ => some k_ ≠ (u257003 : Value).ownBlock ∧ some k_ ≠ (u257004 : Value).ownBlock) u257005 x257005_1) ∧ Aside0 (w'.heap[gb250]? = some (.cells #[.int .i64 a0_0, .int .i64 a0_1, .int .i64 a0_2, (.slice A0_3 l0_3.length c0_3), (.slice A0_4 l0_4.length c0_4), (.slice A0_5 l0_5.length c0_5)] 34 (0, 0))) ∧ Aside0 (w'.heap[gb251]? = some (.cells #[.int .i64 x252000_1, .int .i64 x252001_1, .int .i64 x252002_1, (.slice none 0 0), (.slice none 0 0), (.slice none 0 0)] 34 (0, 0))) ∧ Aside0 (w'.heap[gb256]? = some (.cells #[.int .i64 t253, .int .i64 t254, .int .i64 t255, u257003, u257004, u257005] 34 (0, 0))) ∧ Aside0 (Below w.heap.size w w'))
   case atStart => exact ⟨(([] : List (S29))), (0), (by first | rfl | (simp; done) | (simp [*]; done)), H', ⟨Nat.le_refl _⟩, ⟨by first | exact Kd.R_nil _ _ _ _ _ | exact Kd.N_nil _ _ _ _ _ | exact Kd.V_nil _ _ _ _ _ | exact Kd.Q_nil _ _ _ _ _ | exact Kd.S_nil _ _ _ _ _⟩, ⟨Kd.R_p HO_257003⟩, ⟨Kd.R_p HO_257004⟩, ⟨Kd.R_p HO_257005⟩, ⟨kp_ BK250⟩, ⟨kp_ BK251⟩, ⟨kp_ BK256⟩, ⟨hb_ HB⟩⟩
   clear H'
   obtain ⟨x8_2, x29_2, rfl, HA, HK2, HO_8, HO_257003, HO_257004, HO_257005, BK250, BK251, BK256, HB⟩ := hrel
   cases gk with
   | zero => exact absurd HA.out (by simp [spec_CoarseModel.l1])
   | succ k2 => ?_
   have H := HA.out
   clear HA
   simp only [spec_CoarseModel.l1] at H
   by_cases c24 : x29_2 < (l0_3.length : Int)
   ·rw [if_pos c24] at H
    have c24b0 := decide_eq_true c24
    clear c24
    replace H := Option.bind_eq_some_iff.mp H
    obtain ⟨t258, A250, H⟩ := H
    try dsimp only at H
    have A25 := Aside0.mk A250
    clear A250
    by_cases c26 : t258 = x7_1
    ·rw [if_pos c26] at H
     have c26b0 : (t258 == x7_1) = true := beq_iff_eq.mpr c26
     have c26b1 : (t258 != x7_1) = false := bne_eq_false_iff_eq.mpr c26
     clear c26
     replace H := Option.bind_eq_some_iff.mp H
     obtain ⟨⟨t259, t260, t261⟩, A270, H⟩ := H
     try dsimp only at H
     have A27 := Aside0.mk A270
     clear A270
     by_cases c28 : x8_2.length < 5864062014805
     case neg => rw [if_neg c28] at H; exact absurd H (by simp)
     rw [if_pos c28] at H
     have LMc28 := Aside0.mk c28
     clear c28
     obtain ⟨y262, hy262⟩ : ∃ y_ : List (S29), y_ = (x8_2 ++ [(⟨t259, t260, t261⟩ : S29)]) := ⟨_, rfl⟩
     (try with_reducible replace H := (Option.bind_some _ _).symm.trans H); (try dsimp only at H); (try rw [← hy262] at H)
     have Ny262 := Aside0.mk hy262
     clear hy262
     have H' := Aside0.mk H
     clear H
     have := NB250_251.out
     have := NB251_250.out
     have := NB250_256.out
     have := NB256_250.out
     obtain ⟨hcz31_0, hcz31_1, hcz31_2, hcz31_3, hcz31_4, hcz31_5, hfz31_0, hfz31_1, hfz31_2, hfz31_3, hfz31_4, hfz31_5⟩ := bx6 BK250
     go_wp2_with (first | ((with_reducible refine gate_callee (f := 80) rfl ?_); refine gl_ (some 35) Try.func80 #[.agg #[.int .i64 a0_0, .int .i64 a0_1, .int .i64 a0_2], .int .i64 x29_2] rfl rfl rfl ?_; (with_reducible refine (spec_sbCoarse.calls a0_0 a0_1 a0_2 x29_2 t258 _ A25.out).mono ?_); rintro e w32 ⟨rfl, hb⟩; refine ⟨_, rfl, ?_⟩; replace HO_8 := Kd.R_b HO_8 hb; replace HO_257003 := Kd.R_b HO_257003 hb; replace HO_257004 := Kd.R_b HO_257004 hb; replace HO_257005 := Kd.R_b HO_257005 hb; replace BK250 := kb_ BK250 hb; replace BK251 := kb_ BK251 hb; replace BK256 := kb_ BK256 hb; replace HB := hbs_ HB hb; obtain ⟨hcz33_0, hcz33_1, hcz33_2, hcz33_3, hcz33_4, hcz33_5, hfz33_0, hfz33_1, hfz33_2, hfz33_3, hfz33_4, hfz33_5⟩ := bx6 BK250) | ((with_reducible refine gate_callee (f := 62) rfl ?_); refine gl_ (some 41) Try.func62 #[.agg #[.int .i64 a0_0, .int .i64 a0_1, .int .i64 a0_2, .slice A0_3 l0_3.length c0_3, .slice A0_4 l0_4.length c0_4, .slice A0_5 l0_5.length c0_5], .int .i64 x29_2] rfl rfl rfl ?_; (with_reducible refine (spec_sbOf.calls a0_0 a0_1 a0_2 _ _ l0_3 _ _ l0_4 _ _ l0_5 x29_2 t259 t260 t261 _ ?side1 ?side2 ?side3 ?side4 ?side5 ?side6 A27.out).mono ?_); (case side1 => exact Kd.C_w HR0_3 HB); (case side2 => exact HC0_3.out); (case side3 => exact Kd.C_w HR0_4 HB); (case side4 => exact HC0_4.out); (case side5 => exact Kd.C_w HR0_5 HB); (case side6 => exact HC0_5.out); rintro e w34 ⟨rfl, hb⟩; refine ⟨_, rfl, ?_⟩; replace HO_8 := Kd.R_b HO_8 hb; replace HO_257003 := Kd.R_b HO_257003 hb; replace HO_257004 := Kd.R_b HO_257004 hb; replace HO_257005 := Kd.R_b HO_257005 hb; replace BK250 := kb_ BK250 hb; replace BK251 := kb_ BK251 hb; replace BK256 := kb_ BK256 hb; replace HB := hbs_ HB hb) | ((with_reducible refine gate_builtin (b := .append) (xs := #[.tmp 38, .tmp 42]) rfl ?_); at_builtin; refine Kd.R_append k29 (w0 := w) w.heap.size rfl (.tmp 38) (.tmp 42) 42 29 (.agg #[(.int .i64 0), (.int .i64 0), (.int .i64 0)]) 24 rfl Try.underlying42 info29 rfl (by decide) (by omega) u8 x8_2 (⟨t259, t260, t261⟩ : S29) [.int .i64 t259, .int .i64 t260, .int .i64 t261] (fun _ => True) (fun _ => False) rfl rfl ?aP (fun _ hk => hk.elim) ?aF ?aO ?aB ?aS ?aL ?_; (case aP => exact k29_mkM _ _ _ (⟨t259, t260, t261⟩ : S29)); (case aB => exact (hb_ HB)); (case aF => exact (fun _ _ => trivial)); (case aO => exact (Kd.R_p HO_8)); (case aS => exact (below_size (hb_ HB))); (case aL => have := LMc28.out; omega); intro v263 w35 ho hb hg hat; rw [← Ny262.out] at ho; have HO264 := Aside0.mk (ho); replace HO_257003 := Aside0.mk (Kd.R_over' (Kd.R_p HO_257003) (Kd.R_typed (Kd.R_p HO_8)) (by decide) hg); replace HO_257004 := Aside0.mk (Kd.R_over' (Kd.R_p HO_257004) (Kd.R_typed (Kd.R_p HO_8)) (by decide) hg); replace HO_257005 := Aside0.mk (Kd.R_over' (Kd.R_p HO_257005) (Kd.R_typed (Kd.R_p HO_8)) (by decide) hg); replace BK250 := Aside0.mk (blk_grown (kp_ BK250) hg (Kd.R_ne HO_8.out BK250.out (by decide))); replace BK251 := Aside0.mk (blk_grown (kp_ BK251) hg (Kd.R_ne HO_8.out BK251.out (by decide))); replace BK256 := Aside0.mk (blk_grown (kp_ BK256) hg (Kd.R_ne HO_8.out BK256.out (by decide))); replace HB := Aside0.mk (hb); clear HO_8; clear ho hb hg hat))
     go_roundg k2
     case measure => have := HK1.out; have := HK2.out; omega
     case rel => exact ⟨(y262), (wrap64 (x29_2 + 1)), (by first | rfl | (simp; done) | (simp [*]; done)), H', ⟨by have := HK1.out; have := HK2.out; omega⟩, ⟨Kd.R_p HO264⟩, ⟨Kd.R_p HO_257003⟩, ⟨Kd.R_p HO_257004⟩, ⟨Kd.R_p HO_257005⟩, ⟨kp_ BK250⟩, ⟨kp_ BK251⟩, ⟨kp_ BK256⟩, ⟨hb_ HB⟩⟩
    rw [if_neg c26] at H
    have c26b0 : (t258 == x7_1) = false := beq_eq_false_iff_ne.mpr c26
    have c26b1 : (t258 != x7_1) = true := bne_iff_ne.mpr c26
    have H' := Aside0.mk H
    clear H
    have := NB250_251.out
    have := NB251_250.out
    have := NB250_256.out
    have := NB256_250.out
    obtain ⟨hcz38_0, hcz38_1, hcz38_2, hcz38_3, hcz38_4, hcz38_5, hfz38_0, hfz38_1, hfz38_2, hfz38_3, hfz38_4, hfz38_5⟩ := bx6 BK250
    go_wp2_with (first | ((with_reducible refine gate_callee (f := 80) rfl ?_); refine gl_ (some 35) Try.func80 #[.agg #[.int .i64 a0_0, .int .i64 a0_1, .int .i64 a0_2], .int .i64 x29_2] rfl rfl rfl ?_; (with_reducible refine (spec_sbCoarse.calls a0_0 a0_1 a0_2 x29_2 t258 _ A25.out).mono ?_); rintro e w39 ⟨rfl, hb⟩; refine ⟨_, rfl, ?_⟩; replace HO_8 := Kd.R_b HO_8 hb; replace HO_257003 := Kd.R_b HO_257003 hb; replace HO_257004 := Kd.R_b HO_257004 hb; replace HO_257005 := Kd.R_b HO_257005 hb; replace BK250 := kb_ BK250 hb; replace BK251 := kb_ BK251 hb; replace BK256 := kb_ BK256 hb; replace HB := hbs_ HB hb))
    go_roundg k2
    case measure => have := HK1.out; have := HK2.out; omega
    case rel => exact ⟨(x8_2), (wrap64 (x29_2 + 1)), (by first | rfl | (simp; done) | (simp [*]; done)), H', ⟨by have := HK1.out; have := HK2.out; omega⟩, ⟨Kd.R_p HO_8⟩, ⟨Kd.R_p HO_257003⟩, ⟨Kd.R_p HO_257004⟩, ⟨Kd.R_p HO_257005⟩, ⟨kp_ BK250⟩, ⟨kp_ BK251⟩, ⟨kp_ BK256⟩, ⟨hb_ HB⟩⟩
   rw [if_neg c24] at H
   have c24b0 := decide_eq_false c24
   clear c24
   replace H := Option.bind_eq_some_iff.mp H
   obtain ⟨⟨t265, t266, t267⟩, A400, H⟩ := H
   try dsimp only at H
   have A40 := Aside0.mk A400
   clear A400
   replace H := Option.bind_eq_some_iff.mp H
   obtain ⟨t269, A410, H⟩ := H
   try dsimp only at H
   have A41 := Aside0.mk A410
   clear A410
   by_cases c42 : t269 = true
   ·subst c42
    rw [if_pos rfl] at H
    by_cases c43 : x257003_1.length < 17592186044416
    case neg => rw [if_neg c43] at H; exact absurd H (by simp)
    rw [if_pos c43] at H
    have LMc43 := Aside0.mk c43
    clear c43
    obtain ⟨y270, hy270⟩ : ∃ y_ : List Int, y_ = (x257003_1 ++ [t265]) := ⟨_, rfl⟩
    (try with_reducible replace H := (Option.bind_some _ _).symm.trans H); (try dsimp only at H); (try rw [← hy270] at H)
    have Ny270 := Aside0.mk hy270
    clear hy270
    replace H := Option.bind_eq_some_iff.mp H
    obtain ⟨t273, A440, H⟩ := H
    try dsimp only at H
    have A44 := Aside0.mk A440
    clear A440
    by_cases c45 : x257004_1.length < 17592186044416
    case neg => rw [if_neg c45] at H; exact absurd H (by simp)
    rw [if_pos c45] at H
    have LMc45 := Aside0.mk c45
    clear c45
    obtain ⟨y274, hy274⟩ : ∃ y_ : List Int, y_ = (x257004_1 ++ [t273]) := ⟨_, rfl⟩
    (try with_reducible replace H := (Option.bind_some _ _).symm.trans H); (try dsimp only at H); (try rw [← hy274] at H)
    have Ny274 := Aside0.mk hy274
    clear hy274
    by_cases c46 : x257005_1.length < 17592186044416
    case neg => rw [if_neg c46] at H; exact absurd H (by simp)
    rw [if_pos c46] at H
    have LMc46 := Aside0.mk c46
    clear c46
    obtain ⟨y277, hy277⟩ : ∃ y_ : List Int, y_ = (x257005_1 ++ [t267]) := ⟨_, rfl⟩
    (try with_reducible replace H := (Option.bind_some _ _).symm.trans H); (try dsimp only at H); (try rw [← hy277] at H)
    have Ny277 := Aside0.mk hy277
    clear hy277
    replace H := Option.bind_eq_some_iff.mp H
    obtain ⟨t280, A470, H⟩ := H
    try dsimp only at H
    have A47 := Aside0.mk A470
    clear A470
    have H' := Aside0.mk H
    clear H
    obtain ⟨Ao48, co48, eo48⟩ := Kd.R_slice HO_8.out
    subst eo48
    try go_wp2_with (first | ((with_reducible refine gate_callee (f := 67) rfl ?_); refine gl_ (some 46) Try.func67 #[.slice Ao48 x8_2.length co48] rfl rfl rfl ?_; (with_reducible refine (spec_sbJoin.calls k2 _ _ x8_2 t265 t266 t267 _ ?side1 ?side2 A40.out).mono ?_); (case side1 => exact Kd.C_o HO_8); (case side2 => exact (Kd.R_reads' HO_8.out).2.1); rintro e w49 ⟨rfl, hb⟩; refine ⟨_, rfl, ?_⟩; replace HO_8 := Kd.R_b HO_8 hb; replace HO_257003 := Kd.R_b HO_257003 hb; replace HO_257004 := Kd.R_b HO_257004 hb; replace HO_257005 := Kd.R_b HO_257005 hb; replace BK250 := kb_ BK250 hb; replace BK251 := kb_ BK251 hb; replace BK256 := kb_ BK256 hb; replace HB := hbs_ HB hb) | ((with_reducible refine gate_dst (N := 10) rfl ?_); refine bv_ 10 (cs := #[.int .i64 0, .int .i64 0, .int .i64 0]) (t := 29) ?_; intro gb268 hg w50 hbox hb; have BK268 := Aside0.mk (hbox); have GW268 := gs_ hg HB; have GE268 := gs_ hg HB; have NB250_268 := nl_ hg BK250; have NB268_250 := ng_ hg BK250; have NB251_268 := nl_ hg BK251; have NB268_251 := ng_ hg BK251; have NB256_268 := nl_ hg BK256; have NB268_256 := ng_ hg BK256; replace HO_8 := Aside0.mk (Kd.R_below (Kd.R_elderB (Kd.R_p HO_8) gb268 (Nat.le_of_eq hg.symm)) hb); replace HO_257003 := Kd.R_b HO_257003 hb; replace HO_257004 := Kd.R_b HO_257004 hb; replace HO_257005 := Kd.R_b HO_257005 hb; replace BK250 := kb_ BK250 hb; replace BK251 := kb_ BK251 hb; replace BK256 := kb_ BK256 hb; replace HB := hbs_ HB hb; clear hb hbox hg; have := NB268_250.out; have := NB250_268.out; have := NB268_251.out; have := NB251_268.out; have := NB268_256.out; have := NB256_268.out; obtain ⟨hcz54_0, hcz54_1, hcz54_2, hfz54_0, hfz54_1, hfz54_2⟩ := bx3 BK268) | ((with_reducible refine gate_callee (f := 66) rfl ?_); refine gl_ (some 48) Try.func66 #[.agg #[.int .i64 t265, .int .i64 t266, .int .i64 t267]] rfl rfl rfl ?_; (with_reducible refine (spec_sbPiece.calls t265 t266 t267 true _ A41.out).mono ?_); rintro e w55 ⟨rfl, hb⟩; refine ⟨_, rfl, ?_⟩; replace HO_8 := Aside0.mk (Kd.R_below (rq_ (h := rf_ (rf_ (rf_ HO_8.out)))) hb); replace HO_257003 := Kd.R_sb HO_257003 BK268 hb; replace HO_257004 := Kd.R_sb HO_257004 BK268 hb; replace HO_257005 := Kd.R_sb HO_257005 BK268 hb; replace BK250 := kfb_ BK250 NB250_268 hb; replace BK251 := kfb_ BK251 NB251_268 hb; replace BK256 := kfb_ BK256 NB256_268 hb; replace HB := hbs_ HB hb; replace BK268 := Aside0.mk (blk_below (g := gb268) (o := .cells #[.int .i64 t265, .int .i64 t266, .int .i64 t267] 29 (0, 0)) (kpq_ (kputs BK268 [(0, _), (1, _), (2, _)])) hb); have := NB256_250.out; have := NB250_256.out; have := NB256_251.out; have := NB251_256.out; obtain ⟨hcz58_0, hcz58_1, hcz58_2, hcz58_3, hcz58_4, hcz58_5, hfz58_0, hfz58_1, hfz58_2, hfz58_3, hfz58_4, hfz58_5⟩ := bx6 BK256; obtain ⟨hcz59_0, hcz59_1, hcz59_2, hfz59_0, hfz59_1, hfz59_2⟩ := bx3 BK268) | ((with_reducible refine gate_builtin (b := .append) (xs := #[.tmp 52, .tmp 55]) rfl ?_); at_builtin; refine Kd.R_append (Kd.int .i64) (w0 := w) w.heap.size rfl (.tmp 52) (.tmp 55) 24 3 (.int .i64 0) 8 rfl Try.underlying24 info3 rfl (by decide) (by omega) u257003 x257003_1 t265 [.int .i64 t265] (fun k_ => some k_ ≠ (u257004 : Value).ownBlock ∧ some k_ ≠ (u257005 : Value).ownBlock) (fun _ => False) rfl rfl ?aP (fun _ hk => hk.elim) ?aF ?aO ?aB ?aS ?aL ?_; (case aP => exact rfl); (case aB => exact (hb_ HB)); (case aF => exact (fun k_ hk => ⟨Kd.fresh' (Kd.R_lt (Kd.R_p HO_257004)) k_ hk, Kd.fresh' (Kd.R_lt (Kd.R_p HO_257005)) k_ hk⟩)); (case aO => exact (Kd.R_p HO_257003)); (case aS => exact (below_size (hb_ HB))); (case aL => have := LMc43.out; omega); intro v271 w60 ho hb hg hat; rw [← Ny270.out] at ho; have HO272 := Aside0.mk (ho); replace HO_8 := Aside0.mk (Kd.R_over' (Kd.R_p HO_8) (Kd.R_typed (Kd.R_p HO_257003)) (by decide) hg); replace HO_257004 := Aside0.mk (Kd.R_after (ok := (fun k_ => some k_ ≠ (u257005 : Value).ownBlock)) (rm_ (h := HO_257004.out)) hg hat); replace HO_257005 := Aside0.mk (Kd.R_after (ok := (fun k_ => some k_ ≠ (u257004 : Value).ownBlock)) (rm_ (h := HO_257005.out)) hg hat); replace BK250 := Aside0.mk (blk_grown (kp_ BK250) hg (Kd.R_ne HO_257003.out BK250.out (by decide))); replace BK251 := Aside0.mk (blk_grown (kp_ BK251) hg (Kd.R_ne HO_257003.out BK251.out (by decide))); replace BK256 := Aside0.mk (blk_grown (kp_ BK256) hg (Kd.R_ne HO_257003.out BK256.out (by decide))); replace BK268 := Aside0.mk (blk_grown (kp_ BK268) hg (Kd.R_ne HO_257003.out BK268.out (by decide))); replace HB := Aside0.mk (hb); clear HO_257003; clear ho hb hg hat; obtain ⟨Ao61, co61, eo61⟩ := Kd.R_slice HO272.out; subst eo61; obtain ⟨hcz62_0, hcz62_1, hcz62_2, hcz62_3, hcz62_4, hcz62_5, hfz62_0, hfz62_1, hfz62_2, hfz62_3, hfz62_4, hfz62_5⟩ := bx6 BK256))
    have n0_ : Aside0 (Kd.R k29 29 (w60.setCell ⟨gb256, 3, none⟩ (.slice Ao61 y270.length co61)) w.heap.size (fun k_ => k_ ≠ gb268) (.slice Ao48 x8_2.length co48) x8_2) := ⟨Kd.R_mono (Kd.R_s HO_8 BK256) (fun _ hk => hk.2)⟩
    have n1_ : Aside0 (Kd.R (Kd.int .i64) 3 (w60.setCell ⟨gb256, 3, none⟩ (.slice Ao61 y270.length co61)) w.heap.size (fun k_ => some k_ ≠ (u257005 : Value).ownBlock ∧ some k_ ≠ (.slice Ao61 y270.length co61 : Value).ownBlock) u257004 x257004_1) := ⟨Kd.R_mono (Kd.R_s HO_257004 BK256) (fun _ hk => ⟨hk.1, hk.2⟩)⟩
    have n2_ : Aside0 (Kd.R (Kd.int .i64) 3 (w60.setCell ⟨gb256, 3, none⟩ (.slice Ao61 y270.length co61)) w.heap.size (fun k_ => some k_ ≠ (u257004 : Value).ownBlock ∧ some k_ ≠ (.slice Ao61 y270.length co61 : Value).ownBlock) u257005 x257005_1) := ⟨Kd.R_mono (Kd.R_s HO_257005 BK256) (fun _ hk => ⟨hk.1, hk.2⟩)⟩
    have n3_ : Aside0 (Kd.R (Kd.int .i64) 3 (w60.setCell ⟨gb256, 3, none⟩ (.slice Ao61 y270.length co61)) w.heap.size (fun k_ => some k_ ≠ (u257004 : Value).ownBlock ∧ some k_ ≠ (u257005 : Value).ownBlock) (.slice Ao61 y270.length co61) y270) := ⟨Kd.R_mono (Kd.R_s HO272 BK256) (fun _ hk => ⟨hk.1, hk.2⟩)⟩
    have n4_ : Aside0 ((w60.setCell ⟨gb256, 3, none⟩ (.slice Ao61 y270.length co61)).heap[gb250]? = some (.cells #[.int .i64 a0_0, .int .i64 a0_1, .int .i64 a0_2, .slice A0_3 l0_3.length c0_3, .slice A0_4 l0_4.length c0_4, .slice A0_5 l0_5.length c0_5] 34 (0, 0))) := ⟨kf_ BK250 NB250_256⟩
    have n5_ : Aside0 ((w60.setCell ⟨gb256, 3, none⟩ (.slice Ao61 y270.length co61)).heap[gb251]? = some (.cells #[.int .i64 x252000_1, .int .i64 x252001_1, .int .i64 x252002_1, .slice none 0 0, .slice none 0 0, .slice none 0 0] 34 (0, 0))) := ⟨kf_ BK251 NB251_256⟩
    have n6_ : Aside0 ((w60.setCell ⟨gb256, 3, none⟩ (.slice Ao61 y270.length co61)).heap[gb256]? = some (.cells #[.int .i64 t253, .int .i64 t254, .int .i64 t255, .slice Ao61 y270.length co61, u257004, u257005] 34 (0, 0))) := ⟨kpq_ (kputs BK256 [(3, _)])⟩
    have n7_ : Aside0 ((w60.setCell ⟨gb256, 3, none⟩ (.slice Ao61 y270.length co61)).heap[gb268]? = some (.cells #[.int .i64 t265, .int .i64 t266, .int .i64 t267] 29 (0, 0))) := ⟨kf_ BK268 NB268_256⟩
    have n8_ : Aside0 (Below w.heap.size w (w60.setCell ⟨gb256, 3, none⟩ (.slice Ao61 y270.length co61))) := ⟨hb_ HB⟩
    generalize (w60.setCell ⟨gb256, 3, none⟩ (.slice Ao61 y270.length co61)) = w63 at n0_ n1_ n2_ n3_ n4_ n5_ n6_ n7_ n8_ ⊢
    have HO_8 := n0_
    have HO_257004 := n1_
    have HO_257005 := n2_
    have HO272 := n3_
    have BK250 := n4_
    have BK251 := n5_
    have BK256 := n6_
    have BK268 := n7_
    have HB := n8_
    clear n0_ n1_ n2_ n3_ n4_ n5_ n6_ n7_ n8_
    replace HO_8 := Aside0.mk (Kd.R_drew HO_8.out)
    replace HO_257004 := Aside0.mk (Kd.R_drew HO_257004.out)
    replace HO_257005 := Aside0.mk (Kd.R_drew HO_257005.out)
    replace HO272 := Aside0.mk (Kd.R_drew HO272.out)
    replace BK250 := Aside0.mk (blk_drew BK250.out)
    replace BK251 := Aside0.mk (blk_drew BK251.out)
    replace BK256 := Aside0.mk (blk_drew BK256.out)
    replace BK268 := Aside0.mk (blk_drew BK268.out)
    replace HB := Aside0.mk (below_drew1 HB.out)
    refine start_ (n := 8) (S := fun w' => w'.cell? ⟨gb256, 0, none⟩ = some (.int .i64 t253) ∧ w'.cell? ⟨gb256, 1, none⟩ = some (.int .i64 t254) ∧ w'.cell? ⟨gb256, 2, none⟩ = some (.int .i64 t255) ∧ w'.cell? ⟨gb256, 3, none⟩ = some (.slice Ao61 y270.length co61) ∧ w'.cell? ⟨gb256, 4, none⟩ = some (u257004) ∧ w'.cell? ⟨gb256, 5, none⟩ = some (u257005) ∧ w'.cell? ⟨gb268, 0, none⟩ = some (.int .i64 t265) ∧ w'.cell? ⟨gb268, 1, none⟩ = some (.int .i64 t266) ∧ w'.cell? ⟨gb268, 2, none⟩ = some (.int .i64 t267)) (ds := [7]) (bb 8 0) (by kernel_rfl) rfl rfl ⟨(blk_cell BK256.out 0).trans rfl, (blk_cell BK256.out 1).trans rfl, (blk_cell BK256.out 2).trans rfl, (blk_cell BK256.out 3).trans rfl, (blk_cell BK256.out 4).trans rfl, (blk_cell BK256.out 5).trans rfl, (blk_cell BK268.out 0).trans rfl, (blk_cell BK268.out 1).trans rfl, (blk_cell BK268.out 2).trans rfl⟩ (fun hHeld => ?_); refine with_tabW spec_CoarseModel.tab19 spec_CoarseModel.bits19 (fun HT_ HW_ => ?_)
    generalize w63.drew = w64 at HO_8 HO_257004 HO_257005 HO272 BK250 BK251 BK256 BK268 HB hHeld ⊢
    refine pl_ HT_ 0 (some 58) (bb 8 1) (h := ?_)
    refine tk_ HT_ HW_ hHeld 1 (some 59) (bb 8 3) (h := ?_)
    refine tk_ HT_ HW_ hHeld 2 (some 60) (bb 8 7) (h := ?_)
    refine one_ (i := 3) (N := some 61) (bb 8 15) rfl rfl (one_of HT_.out (by kernel_rfl)) (by decide) (fun K hK => ?_)
    refine goes_ Try.func81 (by kernel_rfl) rfl #[.agg #[.int .i64 t265, .int .i64 t266, .int .i64 t267]] (by rfl) rfl rfl (by (try simp only [List.map_toArray, List.map_cons, List.map_nil]); first | done | rfl | (simp only [List.length_drop, List.length_take]; rfl)) ?_
    with_reducible refine (spec_sbRound.calls t265 t266 t267 t273 _ A44.out).mono ?_
    rintro e w65 ⟨rfl, hb⟩
    refine ⟨_, rfl, ?_⟩
    replace HO_8 := Aside0.mk (Kd.R_below (Kd.R_p HO_8) hb)
    replace HO_257004 := Aside0.mk (Kd.R_below (Kd.R_p HO_257004) hb)
    replace HO_257005 := Aside0.mk (Kd.R_below (Kd.R_p HO_257005) hb)
    replace HO272 := Aside0.mk (Kd.R_below (Kd.R_p HO272) hb)
    replace BK250 := Aside0.mk (blk_below (kp_ BK250) hb)
    replace BK251 := Aside0.mk (blk_below (kp_ BK251) hb)
    replace BK256 := Aside0.mk (blk_below (kp_ BK256) hb)
    replace BK268 := Aside0.mk (blk_below (kp_ BK268) hb)
    replace HB := Aside0.mk (below_step (hb_ HB) hb)
    refine hK.out _ _ ⟨(blk_cell BK256.out 0).trans rfl, (blk_cell BK256.out 1).trans rfl, (blk_cell BK256.out 2).trans rfl, (blk_cell BK256.out 3).trans rfl, (blk_cell BK256.out 4).trans rfl, (blk_cell BK256.out 5).trans rfl, (blk_cell BK268.out 0).trans rfl, (blk_cell BK268.out 1).trans rfl, (blk_cell BK268.out 2).trans rfl⟩ (fun hHeld => ?_)
    clear hK K
    refine nm_ (some 61) (h := ?_)
    refine one_ (i := 4) (N := some 62) (bb 8 31) rfl rfl (one_of HT_.out (by kernel_rfl)) (by decide) (fun K hK => ?_)
    refine value_ (w1 := ?_) (v := ?_) (by rfl) rfl ?_ ?_
    rotate_left 2
    ·go_simp
     constructor
     ·rfl
     rfl
    refine hK.out _ _ ⟨(blk_cell (blk_alloc BK256.out _) 0).trans rfl, (blk_cell (blk_alloc BK256.out _) 1).trans rfl, (blk_cell (blk_alloc BK256.out _) 2).trans rfl, (blk_cell (blk_alloc BK256.out _) 3).trans rfl, (blk_cell (blk_alloc BK256.out _) 4).trans rfl, (blk_cell (blk_alloc BK256.out _) 5).trans rfl, (blk_cell (blk_alloc BK268.out _) 0).trans rfl, (blk_cell (blk_alloc BK268.out _) 1).trans rfl, (blk_cell (blk_alloc BK268.out _) 2).trans rfl⟩ (fun hHeld => ?_)
    clear hK K
    refine nm_ (some 62) (h := ?_)
    refine one_ (i := 5) (N := some 63) (bb 8 63) rfl rfl (one_of HT_.out (by kernel_rfl)) (by decide) (fun K hK => ?_)
    refine Kd.R_append_step (Kd.int .i64) (w0 := w) w.heap.size (by rfl) (.tmp 59) (.tmp 62) 24 3 (.int .i64 0) 8 rfl Try.underlying24 info3 rfl (by decide) (by omega) u257004 x257004_1 t273 [.int .i64 t273] (fun k_ => some k_ ≠ (u257005 : Value).ownBlock ∧ some k_ ≠ (.slice Ao61 y270.length co61 : Value).ownBlock) (fun _ => False) rfl rfl ?aP (fun _ hk => hk.elim) ?aF ?aO ?aB ?aS ?aL ?_
    (case aP => exact rfl)
    (case aB => exact (hb_ HB))
    (case aF => exact (fun k_ hk => ⟨Kd.fresh' (Kd.R_lt (Kd.R_p HO_257005)) k_ hk, Kd.fresh' (Kd.R_lt (Kd.R_p HO272)) k_ hk⟩))
    (case aO => exact (Kd.R_p HO_257004))
    (case aS => exact (below_size (hb_ HB)))
    (case aL => have := LMc45.out; omega)
    intro v275 w66 ho hb hg hat
    rw [← Ny274.out] at ho
    replace HO_8 := Aside0.mk (Kd.R_over' (Kd.R_p HO_8) (Kd.R_typed (Kd.R_p HO_257004)) (by decide) hg)
    replace HO_257005 := Aside0.mk (Kd.R_after (ok := (fun k_ => some k_ ≠ (.slice Ao61 y270.length co61 : Value).ownBlock)) (rm_ (h := HO_257005.out)) hg hat)
    replace BK250 := Aside0.mk (blk_grown (kp_ BK250) hg (Kd.R_ne HO_257004.out BK250.out (by decide)))
    replace BK251 := Aside0.mk (blk_grown (kp_ BK251) hg (Kd.R_ne HO_257004.out BK251.out (by decide)))
    replace BK256 := Aside0.mk (blk_grown (kp_ BK256) hg (Kd.R_ne HO_257004.out BK256.out (by decide)))
    replace BK268 := Aside0.mk (blk_grown (kp_ BK268) hg (Kd.R_ne HO_257004.out BK268.out (by decide)))
    replace HO272 := Aside0.mk (Kd.R_after (ok := (fun k_ => some k_ ≠ (u257005 : Value).ownBlock)) (rm_ (h := HO272.out)) hg hat)
    replace HB := Aside0.mk (hb)
    have HO276 := Aside0.mk (ho)
    clear HO_257004
    clear ho hb hg hat
    obtain ⟨Ao67, co67, eo67⟩ := Kd.R_slice HO276.out
    (first | subst eo67 | (injection eo67 with f1_ f2_ f3_; have f4_ := f1_.symm; have f5_ := f3_.symm; clear f1_ f2_ f3_; subst f4_; subst f5_))
    refine hK.out _ _ ⟨(blk_cell BK256.out 0).trans rfl, (blk_cell BK256.out 1).trans rfl, (blk_cell BK256.out 2).trans rfl, (blk_cell BK256.out 3).trans rfl, (blk_cell BK256.out 4).trans rfl, (blk_cell BK256.out 5).trans rfl, (blk_cell BK268.out 0).trans rfl, (blk_cell BK268.out 1).trans rfl, (blk_cell BK268.out 2).trans rfl⟩ (fun hHeld => ?_)
    clear hK K
    refine nm_ (some 63) (h := ?_)
    refine pl_ HT_ 6 (some 64) (bb 8 127) (h := ?_)
    refine last_ (i := 7) (N := none) (bb 8 255) rfl rfl (one_of HT_.out (by kernel_rfl)) (by decide) (fun K hK => ?_)
    have hs68 : w66.cell? ⟨gb256, 4, none⟩ = some (u257004) := (blk_cell BK256.out 4).trans rfl
    have hfs68 := blk_frozen BK256.out 4
    have hns68_0 := NB250_256.out
    have hns68_1 := NB251_256.out
    have hns68_3 := NB268_256.out
    have hms68_0 := NB256_250.out
    have hms68_1 := NB256_251.out
    have hms68_3 := NB256_268.out
    refine skip_ (w1 := ?_) (by rfl) rfl ?_ ?_
    rotate_left
    ·go_simp
     rfl
    refine hK.out _ _ ?_
    clear hK K
    refine done_ (done_of HT_.out (by kernel_rfl)) ?_
    obtain ⟨hcz69_0, hcz69_1, hcz69_2, hcz69_3, hcz69_4, hcz69_5, hfz69_0, hfz69_1, hfz69_2, hfz69_3, hfz69_4, hfz69_5⟩ := bx6 BK256
    obtain ⟨hcz70_0, hcz70_1, hcz70_2, hfz70_0, hfz70_1, hfz70_2⟩ := bx3 BK268
    try go_wp2_with (first | ((with_reducible refine gate_builtin (b := .append) (xs := #[.tmp 66, .tmp 69]) rfl ?_); at_builtin; refine Kd.R_append (Kd.int .i64) (w0 := w) w.heap.size rfl (.tmp 66) (.tmp 69) 24 3 (.int .i64 0) 8 rfl Try.underlying24 info3 rfl (by decide) (by omega) u257005 x257005_1 t267 [.int .i64 t267] (fun k_ => some k_ ≠ (.slice Ao61 y270.length co61 : Value).ownBlock ∧ some k_ ≠ (.slice Ao67 y274.length co67 : Value).ownBlock) (fun _ => False) rfl (by first | (go_simp; done) | (go_simp; rfl)) ?aP (fun _ hk => hk.elim) ?aF ?aO ?aB ?aS ?aL ?_; (case aP => exact rfl); (case aB => exact (hb_ HB)); (case aF => exact (fun k_ hk => ⟨Kd.fresh' (Kd.R_lt (Kd.R_s HO272 BK256)) k_ hk, Kd.fresh' (Kd.R_lt (Kd.R_s HO276 BK256)) k_ hk⟩)); (case aO => exact (Kd.R_mono (Kd.R_s HO_257005 BK256) (fun _ hk => ⟨hk.1, hk.2⟩))); (case aS => exact (below_size (hb_ HB))); (case aL => have := LMc46.out; omega); intro v278 w71 ho hb hg hat; rw [← Ny277.out] at ho; have HO279 := Aside0.mk (ho); replace HO_8 := Aside0.mk (Kd.R_over' (Kd.R_s HO_8 BK256) (Kd.R_typed (Kd.R_s HO_257005 BK256)) (by decide) hg); replace BK250 := Aside0.mk (blk_grown (kf_ BK250 NB250_256) hg (Kd.R_ne HO_257005.out BK250.out (by decide))); replace BK251 := Aside0.mk (blk_grown (kf_ BK251 NB251_256) hg (Kd.R_ne HO_257005.out BK251.out (by decide))); replace BK268 := Aside0.mk (blk_grown (kf_ BK268 NB268_256) hg (Kd.R_ne HO_257005.out BK268.out (by decide))); replace HO272 := Aside0.mk (Kd.R_after (ok := (fun k_ => some k_ ≠ (.slice Ao67 y274.length co67 : Value).ownBlock)) (Kd.R_mono (Kd.R_s HO272 BK256) (fun _ hk => ⟨hk.2, hk.1⟩)) hg hat); replace HO276 := Aside0.mk (Kd.R_after (ok := (fun k_ => some k_ ≠ (.slice Ao61 y270.length co61 : Value).ownBlock)) (Kd.R_mono (Kd.R_s HO276 BK256) (fun _ hk => ⟨hk.2, hk.1⟩)) hg hat); replace HB := Aside0.mk (hb); replace BK256 := Aside0.mk (blk_grown (g := gb256) (o := .cells #[.int .i64 t253, .int .i64 t254, .int .i64 t255, .slice Ao61 y270.length co61, .slice Ao67 y274.length co67, u257005] 34 (0, 0)) (kpq_ (kputs BK256 [(4, _)])) hg (Kd.R_ne HO_257005.out BK256.out (by decide))); clear HO_257005; clear ho hb hg hat; obtain ⟨Ao72, co72, eo72⟩ := Kd.R_slice HO279.out; subst eo72; obtain ⟨hcz73_0, hcz73_1, hcz73_2, hcz73_3, hcz73_4, hcz73_5, hfz73_0, hfz73_1, hfz73_2, hfz73_3, hfz73_4, hfz73_5⟩ := bx6 BK256))
    have n0_ : Aside0 (Kd.R k29 29 (w71.setCell ⟨gb256, 5, none⟩ (.slice Ao72 y277.length co72)) w.heap.size (fun k_ => k_ ≠ gb268) (.slice Ao48 x8_2.length co48) x8_2) := ⟨Kd.R_s HO_8 BK256⟩
    have n1_ : Aside0 (Kd.R (Kd.int .i64) 3 (w71.setCell ⟨gb256, 5, none⟩ (.slice Ao72 y277.length co72)) w.heap.size (fun k_ => some k_ ≠ (.slice Ao67 y274.length co67 : Value).ownBlock ∧ some k_ ≠ (.slice Ao72 y277.length co72 : Value).ownBlock) (.slice Ao61 y270.length co61) y270) := ⟨Kd.R_mono (Kd.R_s HO272 BK256) (fun _ hk => ⟨hk.1, hk.2⟩)⟩
    have n2_ : Aside0 (Kd.R (Kd.int .i64) 3 (w71.setCell ⟨gb256, 5, none⟩ (.slice Ao72 y277.length co72)) w.heap.size (fun k_ => some k_ ≠ (.slice Ao61 y270.length co61 : Value).ownBlock ∧ some k_ ≠ (.slice Ao72 y277.length co72 : Value).ownBlock) (.slice Ao67 y274.length co67) y274) := ⟨Kd.R_mono (Kd.R_s HO276 BK256) (fun _ hk => ⟨hk.1, hk.2⟩)⟩
    have n3_ : Aside0 (Kd.R (Kd.int .i64) 3 (w71.setCell ⟨gb256, 5, none⟩ (.slice Ao72 y277.length co72)) w.heap.size (fun k_ => some k_ ≠ (.slice Ao61 y270.length co61 : Value).ownBlock ∧ some k_ ≠ (.slice Ao67 y274.length co67 : Value).ownBlock) (.slice Ao72 y277.length co72) y277) := ⟨Kd.R_mono (Kd.R_s HO279 BK256) (fun _ hk => ⟨hk.1, hk.2⟩)⟩
    have n4_ : Aside0 ((w71.setCell ⟨gb256, 5, none⟩ (.slice Ao72 y277.length co72)).heap[gb250]? = some (.cells #[.int .i64 a0_0, .int .i64 a0_1, .int .i64 a0_2, .slice A0_3 l0_3.length c0_3, .slice A0_4 l0_4.length c0_4, .slice A0_5 l0_5.length c0_5] 34 (0, 0))) := ⟨kf_ BK250 NB250_256⟩
    have n5_ : Aside0 ((w71.setCell ⟨gb256, 5, none⟩ (.slice Ao72 y277.length co72)).heap[gb251]? = some (.cells #[.int .i64 x252000_1, .int .i64 x252001_1, .int .i64 x252002_1, .slice none 0 0, .slice none 0 0, .slice none 0 0] 34 (0, 0))) := ⟨kf_ BK251 NB251_256⟩
    have n6_ : Aside0 ((w71.setCell ⟨gb256, 5, none⟩ (.slice Ao72 y277.length co72)).heap[gb256]? = some (.cells #[.int .i64 t253, .int .i64 t254, .int .i64 t255, .slice Ao61 y270.length co61, .slice Ao67 y274.length co67, .slice Ao72 y277.length co72] 34 (0, 0))) := ⟨kpq_ (kputs BK256 [(5, _)])⟩
    have n7_ : Aside0 ((w71.setCell ⟨gb256, 5, none⟩ (.slice Ao72 y277.length co72)).heap[gb268]? = some (.cells #[.int .i64 t265, .int .i64 t266, .int .i64 t267] 29 (0, 0))) := ⟨kf_ BK268 NB268_256⟩
    have n8_ : Aside0 (Below w.heap.size w (w71.setCell ⟨gb256, 5, none⟩ (.slice Ao72 y277.length co72))) := ⟨hb_ HB⟩
    generalize (w71.setCell ⟨gb256, 5, none⟩ (.slice Ao72 y277.length co72)) = w74 at n0_ n1_ n2_ n3_ n4_ n5_ n6_ n7_ n8_ ⊢
    have HO_8 := n0_
    have HO272 := n1_
    have HO276 := n2_
    have HO279 := n3_
    have BK250 := n4_
    have BK251 := n5_
    have BK256 := n6_
    have BK268 := n7_
    have HB := n8_
    clear n0_ n1_ n2_ n3_ n4_ n5_ n6_ n7_ n8_
    replace HO_8 := Aside0.mk (Kd.R_drew HO_8.out)
    replace HO272 := Aside0.mk (Kd.R_drew HO272.out)
    replace HO276 := Aside0.mk (Kd.R_drew HO276.out)
    replace HO279 := Aside0.mk (Kd.R_drew HO279.out)
    replace BK250 := Aside0.mk (blk_drew BK250.out)
    replace BK251 := Aside0.mk (blk_drew BK251.out)
    replace BK256 := Aside0.mk (blk_drew BK256.out)
    replace BK268 := Aside0.mk (blk_drew BK268.out)
    replace HB := Aside0.mk (below_drew1 HB.out)
    refine start_ (n := 11) (S := fun w' => w'.cell? ⟨gb268, 0, none⟩ = some (.int .i64 t265) ∧ w'.cell? ⟨gb268, 1, none⟩ = some (.int .i64 t266) ∧ w'.cell? ⟨gb268, 2, none⟩ = some (.int .i64 t267)) (ds := []) (bb 11 0) (by kernel_rfl) rfl rfl ⟨(blk_cell BK268.out 0).trans rfl, (blk_cell BK268.out 1).trans rfl, (blk_cell BK268.out 2).trans rfl⟩ (fun hHeld => ?_); refine with_tabW spec_CoarseModel.tab21 spec_CoarseModel.bits21 (fun HT_ HW_ => ?_)
    generalize w74.drew = w75 at HO_8 HO272 HO276 HO279 BK250 BK251 BK256 BK268 HB hHeld ⊢
    refine pl_ HT_ 0 (some 72) (bb 11 1) (h := ?_)
    refine pl_ HT_ 1 (some 73) (bb 11 3) (h := ?_)
    refine pl_ HT_ 6 (some 78) (bb 11 67) (h := ?_)
    refine tk_ HT_ HW_ hHeld 2 (some 74) (bb 11 71) (h := ?_)
    refine tk_ HT_ HW_ hHeld 3 (some 75) (bb 11 79) (h := ?_)
    refine tk_ HT_ HW_ hHeld 7 (some 79) (bb 11 207) (h := ?_)
    refine one_ (i := 4) (N := some 76) (bb 11 223) rfl rfl (one_of HT_.out (by kernel_rfl)) (by decide) (fun K hK => ?_)
    refine goes_ Try.func81 (by kernel_rfl) rfl #[.agg #[.int .i64 t265, .int .i64 t266, .int .i64 t267]] (by rfl) rfl rfl (by (try simp only [List.map_toArray, List.map_cons, List.map_nil]); first | done | rfl | (simp only [List.length_drop, List.length_take]; rfl)) ?_
    with_reducible refine (spec_sbRound.calls t265 t266 t267 t280 _ A47.out).mono ?_
    rintro e w76 ⟨rfl, hb⟩
    refine ⟨_, rfl, ?_⟩
    replace HO_8 := Aside0.mk (Kd.R_below (Kd.R_p HO_8) hb)
    replace HO272 := Aside0.mk (Kd.R_below (Kd.R_p HO272) hb)
    replace HO276 := Aside0.mk (Kd.R_below (Kd.R_p HO276) hb)
    replace HO279 := Aside0.mk (Kd.R_below (Kd.R_p HO279) hb)
    replace BK250 := Aside0.mk (blk_below (kp_ BK250) hb)
    replace BK251 := Aside0.mk (blk_below (kp_ BK251) hb)
    replace BK256 := Aside0.mk (blk_below (kp_ BK256) hb)
    replace BK268 := Aside0.mk (blk_below (kp_ BK268) hb)
    replace HB := Aside0.mk (below_step (hb_ HB) hb)
    refine hK.out _ _ ⟨(blk_cell BK268.out 0).trans rfl, (blk_cell BK268.out 1).trans rfl, (blk_cell BK268.out 2).trans rfl⟩ (fun hHeld => ?_)
    clear hK K
    refine nm_ (some 76) (h := ?_)
    refine pl_ HT_ 5 (some 77) (bb 11 255) (h := ?_)
    refine pl_ HT_ 8 (some 80) (bb 11 511) (h := ?_)
    refine pl_ HT_ 9 (some 81) (bb 11 1023) (h := ?_)
    refine pl_ HT_ 10 (some 6) (bb 11 2047) (h := ?_)
    refine done_ (done_of HT_.out (by kernel_rfl)) ?_
    try go_wp2
    go_roundg k2
    case measure => have := HK1.out; have := HK2.out; omega
    case rel => exact ⟨(wrap64 (x6_1 + (wrap64 ((wrap64 (t265 * t280)) - t266)))), (wrap64 (x7_1 + 1)), (x252000_1), (x252001_1), (x252002_1), (y270), (y274), (y277), (.slice Ao61 y270.length co61), (.slice Ao67 y274.length co67), (.slice Ao72 y277.length co72), (by first | rfl | (simp; done) | (simp [*]; done)), (by first | rfl | (simp; done) | (simp [*]; done)), H', ⟨by have := HK1.out; have := HK2.out; omega⟩, ⟨Kd.R_p HO272⟩, ⟨Kd.R_p HO276⟩, ⟨Kd.R_p HO279⟩, ⟨kp_ BK250⟩, ⟨kp_ BK251⟩, ⟨kp_ BK256⟩, ⟨hb_ HB⟩⟩
   replace c42 := Bool.eq_false_iff.mpr c42
   subst c42
   rw [if_neg (show ¬ (false = true) by decide)] at H
   simp only [Option.some.injEq, Prod.mk.injEq] at H
   obtain ⟨rfl, rfl, rfl, rfl, rfl, rfl, rfl, rfl⟩ := H
   obtain ⟨Ao77, co77, eo77⟩ := Kd.R_slice HO_8.out
   subst eo77
   go_wp2_with (first | ((with_reducible refine gate_callee (f := 67) rfl ?_); refine gl_ (some 46) Try.func67 #[.slice Ao77 x8_2.length co77] rfl rfl rfl ?_; (with_reducible refine (spec_sbJoin.calls k2 _ _ x8_2 t265 t266 t267 _ ?side1 ?side2 A40.out).mono ?_); (case side1 => exact Kd.C_o HO_8); (case side2 => exact (Kd.R_reads' HO_8.out).2.1); rintro e w78 ⟨rfl, hb⟩; refine ⟨_, rfl, ?_⟩; replace HO_8 := Kd.R_b HO_8 hb; replace HO_257003 := Kd.R_b HO_257003 hb; replace HO_257004 := Kd.R_b HO_257004 hb; replace HO_257005 := Kd.R_b HO_257005 hb; replace BK251 := kb_ BK251 hb; replace HB := hbs_ HB hb) | ((with_reducible refine gate_dst (N := 10) rfl ?_); refine bv_ 10 (cs := #[.int .i64 0, .int .i64 0, .int .i64 0]) (t := 29) ?_; intro gb268 hg w79 hbox hb; have BK268 := Aside0.mk (hbox); have GW268 := gs_ hg HB; have GE268 := gs_ hg HB; have NB251_268 := nl_ hg BK251; have NB268_251 := ng_ hg BK251; replace HO_8 := Aside0.mk (Kd.R_below (Kd.R_elderB (Kd.R_p HO_8) gb268 (Nat.le_of_eq hg.symm)) hb); replace HO_257003 := Kd.R_b HO_257003 hb; replace HO_257004 := Kd.R_b HO_257004 hb; replace HO_257005 := Kd.R_b HO_257005 hb; replace BK251 := kb_ BK251 hb; replace HB := hbs_ HB hb; clear hb hbox hg; have := NB268_251.out; have := NB251_268.out; obtain ⟨hcz81_0, hcz81_1, hcz81_2, hfz81_0, hfz81_1, hfz81_2⟩ := bx3 BK268) | ((with_reducible refine gate_callee (f := 66) rfl ?_); refine gl_ (some 48) Try.func66 #[.agg #[.int .i64 t265, .int .i64 t266, .int .i64 t267]] rfl rfl rfl ?_; (with_reducible refine (spec_sbPiece.calls t265 t266 t267 false _ A41.out).mono ?_); rintro e w82 ⟨rfl, hb⟩; refine ⟨_, rfl, ?_⟩; replace HO_8 := Aside0.mk (Kd.R_below (rq_ (h := rf_ (rf_ (rf_ HO_8.out)))) hb); replace HO_257003 := Kd.R_sb HO_257003 BK268 hb; replace HO_257004 := Kd.R_sb HO_257004 BK268 hb; replace HO_257005 := Kd.R_sb HO_257005 BK268 hb; replace BK251 := kfb_ BK251 NB251_268 hb; replace HB := hbs_ HB hb; replace BK268 := Aside0.mk (blk_below (g := gb268) (o := .cells #[.int .i64 t265, .int .i64 t266, .int .i64 t267] 29 (0, 0)) (kpq_ (kputs BK268 [(0, _), (1, _), (2, _)])) hb); obtain ⟨hcz83_0, hcz83_1, hcz83_2, hcz83_3, hcz83_4, hcz83_5, hfz83_0, hfz83_1, hfz83_2, hfz83_3, hfz83_4, hfz83_5⟩ := bx6 BK251))
   refine bodyPost_ret (results_ctt rfl _ _ gb251 34 #[.int .i64 0, .int .i64 0, .int .i64 0, .slice none 0 0, .slice none 0 0, .slice none 0 0] (0, 0) _ rfl (kpq_ (kputs BK251 [(0, _), (1, _), (2, _), (3, _), (4, _), (5, _)])) Try.underlying34 rfl (by kernel_rfl)) rfl ?_
   exact ⟨_, _, _, by first | rfl | (simp [errW_none, errW_some] <;> rfl) | (simp [*, errW_none, errW_some] <;> rfl), by first | exact Kd.R_nil _ _ _ _ _ | exact Kd.N_nil _ _ _ _ _ | exact Kd.V_nil _ _ _ _ _ | exact Kd.Q_nil _ _ _ _ _ | exact Kd.S_nil _ _ _ _ _, by first | exact Kd.R_nil _ _ _ _ _ | exact Kd.N_nil _ _ _ _ _ | exact Kd.V_nil _ _ _ _ _ | exact Kd.Q_nil _ _ _ _ _ | exact Kd.S_nil _ _ _ _ _, by first | exact Kd.R_nil _ _ _ _ _ | exact Kd.N_nil _ _ _ _ _ | exact Kd.V_nil _ _ _ _ _ | exact Kd.Q_nil _ _ _ _ _ | exact Kd.S_nil _ _ _ _ _, hb_ HB⟩
  rw [if_neg c17] at H
  have c17b0 := decide_eq_false c17
  clear c17
  simp only [Option.some.injEq, Prod.mk.injEq] at H
  obtain ⟨rfl, rfl, rfl, rfl, rfl, rfl, rfl, rfl⟩ := H
  have := NB256_250.out
  have := NB250_256.out
  have := NB256_251.out
  have := NB251_256.out
  obtain ⟨hcz86_0, hcz86_1, hcz86_2, hcz86_3, hcz86_4, hcz86_5, hfz86_0, hfz86_1, hfz86_2, hfz86_3, hfz86_4, hfz86_5⟩ := bx6 BK256
  go_wp2_with (first | ((with_reducible refine gate_callee (f := 79) rfl ?_); refine gl_ (some 22) Try.func79 #[.agg #[.int .i64 t253, .int .i64 t254, .int .i64 t255]] rfl rfl rfl ?_; (with_reducible refine (spec_grCount.calls t253 t254 t255 t257 _ A16.out).mono ?_); rintro e w87 ⟨rfl, hb⟩; refine ⟨_, rfl, ?_⟩; replace HO_257003 := Kd.R_b HO_257003 hb; replace HO_257004 := Kd.R_b HO_257004 hb; replace HO_257005 := Kd.R_b HO_257005 hb; replace BK251 := kb_ BK251 hb; replace BK256 := kb_ BK256 hb; replace HB := hbs_ HB hb; obtain ⟨hcz88_0, hcz88_1, hcz88_2, hcz88_3, hcz88_4, hcz88_5, hfz88_0, hfz88_1, hfz88_2, hfz88_3, hfz88_4, hfz88_5⟩ := bx6 BK256; obtain ⟨hcz89_0, hcz89_1, hcz89_2, hcz89_3, hcz89_4, hcz89_5, hfz89_0, hfz89_1, hfz89_2, hfz89_3, hfz89_4, hfz89_5⟩ := bx6 BK251; obtain ⟨Ao90, co90, eo90⟩ := Kd.R_slice HO_257003.out; subst eo90; obtain ⟨Ao91, co91, eo91⟩ := Kd.R_slice HO_257004.out; subst eo91; obtain ⟨Ao92, co92, eo92⟩ := Kd.R_slice HO_257005.out; subst eo92))
  refine bodyPost_ret (results_ctt rfl _ _ gb251 34 #[.int .i64 t253, .int .i64 t254, .int .i64 t255, .slice Ao90 x257003_1.length co90, .slice Ao91 x257004_1.length co91, .slice Ao92 x257005_1.length co92] (0, 0) _ rfl (kpq_ (kputs BK251 [(0, _), (1, _), (2, _), (3, _), (4, _), (5, _)])) Try.underlying34 rfl (by kernel_rfl)) rfl ?_
  exact ⟨_, _, _, by first | rfl | (simp [errW_none, errW_some] <;> rfl) | (simp [*, errW_none, errW_some] <;> rfl), Kd.R_mono (Kd.R_s HO_257003 BK251) (fun _ hk => ⟨hk.1, hk.2⟩), Kd.R_mono (Kd.R_s HO_257004 BK251) (fun _ hk => ⟨hk.1, hk.2⟩), Kd.R_mono (Kd.R_s HO_257005 BK251) (fun _ hk => ⟨hk.1, hk.2⟩), hb_ HB⟩
 replace c3 := Bool.eq_false_iff.mpr c3
 subst c3
 rw [if_neg (show ¬ (false = true) by decide)] at H
 simp only [Option.some.injEq, Prod.mk.injEq] at H
 obtain ⟨rfl, rfl, rfl, rfl, rfl, rfl, rfl, rfl⟩ := H
 go_enter Try.func33, Try.ntmps33
 go_wp2_with (first | ((with_reducible refine gate_dst (N := 1) rfl ?_); refine bv_ 1 (cs := #[.int .i64 a0_0, .int .i64 a0_1, .int .i64 a0_2, .slice A0_3 l0_3.length c0_3, .slice A0_4 l0_4.length c0_4, .slice A0_5 l0_5.length c0_5]) (t := 34) ?_; intro gb250 hg w93 hbox hb; have BK250 := Aside0.mk (hbox); have GW250 := gs_ hg HB; have GE250 := gs_ hg HB; replace HB := hbs_ HB hb; clear hb hbox hg) | ((with_reducible refine gate_dst (N := 2) rfl ?_); refine bv_ 2 (cs := #[.int .i64 0, .int .i64 0, .int .i64 0, .slice none 0 0, .slice none 0 0, .slice none 0 0]) (t := 34) ?_; intro gb251 hg w94 hbox hb; have BK251 := Aside0.mk (hbox); have GW251 := gs_ hg HB; have GE251 := gs_ hg HB; have NB250_251 := nl_ hg BK250; have NB251_250 := ng_ hg BK250; replace BK250 := kb_ BK250 hb; replace HB := hbs_ HB hb; clear hb hbox hg; have := NB250_251.out; have := NB251_250.out; obtain ⟨hcz96_0, hcz96_1, hcz96_2, hcz96_3, hcz96_4, hcz96_5, hfz96_0, hfz96_1, hfz96_2, hfz96_3, hfz96_4, hfz96_5⟩ := bx6 BK250) | ((with_reducible refine gate_callee (f := 77) rfl ?_); refine gl_ (some 12) Try.func77 #[.agg #[.int .i64 a0_0, .int .i64 a0_1, .int .i64 a0_2, .slice A0_3 l0_3.length c0_3, .slice A0_4 l0_4.length c0_4, .slice A0_5 l0_5.length c0_5]] rfl rfl rfl ?_; (with_reducible refine (spec_moGood.calls k a0_0 a0_1 a0_2 _ _ l0_3 _ _ l0_4 _ _ l0_5 false _ ?side1 ?side2 ?side3 ?side4 ?side5 ?side6 A2.out).mono ?_); (case side1 => exact Kd.C_w HR0_3 HB); (case side2 => exact HC0_3.out); (case side3 => exact Kd.C_w HR0_4 HB); (case side4 => exact HC0_4.out); (case side5 => exact Kd.C_w HR0_5 HB); (case side6 => exact HC0_5.out); rintro e w97 ⟨rfl, hb⟩; refine ⟨_, rfl, ?_⟩; replace BK250 := kb_ BK250 hb; replace BK251 := kb_ BK251 hb; replace HB := hbs_ HB hb; obtain ⟨hcz98_0, hcz98_1, hcz98_2, hcz98_3, hcz98_4, hcz98_5, hfz98_0, hfz98_1, hfz98_2, hfz98_3, hfz98_4, hfz98_5⟩ := bx6 BK251))
 refine bodyPost_ret (results_ctt rfl _ _ gb251 34 #[.int .i64 0, .int .i64 0, .int .i64 0, .slice none 0 0, .slice none 0 0, .slice none 0 0] (0, 0) _ rfl (kpq_ (kputs BK251 [(0, _), (1, _), (2, _), (3, _), (4, _), (5, _)])) Try.underlying34 rfl (by kernel_rfl)) rfl ?_
 exact ⟨_, _, _, by first | rfl | (simp [errW_none, errW_some] <;> rfl) | (simp [*, errW_none, errW_some] <;> rfl), by first | exact Kd.R_nil _ _ _ _ _ | exact Kd.N_nil _ _ _ _ _ | exact Kd.V_nil _ _ _ _ _ | exact Kd.Q_nil _ _ _ _ _ | exact Kd.S_nil _ _ _ _ _, by first | exact Kd.R_nil _ _ _ _ _ | exact Kd.N_nil _ _ _ _ _ | exact Kd.V_nil _ _ _ _ _ | exact Kd.Q_nil _ _ _ _ _ | exact Kd.S_nil _ _ _ _ _, by first | exact Kd.R_nil _ _ _ _ _ | exact Kd.N_nil _ _ _ _ _ | exact Kd.V_nil _ _ _ _ _ | exact Kd.Q_nil _ _ _ _ _ | exact Kd.S_nil _ _ _ _ _, hb_ HB⟩

/-! ### impl_blocksOf: function 83 -/
def impl_blocksOf.f (a0_0 : Int) (a0_1 : Int) (a0_2 : Int) : Option (Int) := some (wrap64 ((wrap64 (a0_0 * a0_1)) * a0_2))
set_option maxHeartbeats 8000000 in
set_option maxRecDepth 100000 in
theorem impl_blocksOf.calls (a0_0 : Int) (a0_1 : Int) (a0_2 : Int) (r : Int) (w : World) (h : impl_blocksOf.f a0_0 a0_1 a0_2 = some r) :
  Calls Try.prog 83 #[.agg #[.int .i64 a0_0, .int .i64 a0_1, .int .i64 a0_2]] w fun e w' => e = .returned (.int .i64 r) ∧ Below w.heap.size w w' := by
 have hu32 := Try.underlying32
 have HB := Aside0.mk (Below.refl w.heap.size w)
 have H := h
 unfold impl_blocksOf.f at H
 clear h
 obtain rfl := Option.some.inj H
 go_enter Try.func83, Try.ntmps83
 go_wp2_with (first | ((with_reducible refine gate_dst (N := 1) rfl ?_); refine bv_ 1 (cs := #[.int .i64 a0_0, .int .i64 a0_1, .int .i64 a0_2]) (t := 32) ?_; intro gb281 hg w2 hbox hb; have BK281 := Aside0.mk (hbox); have GW281 := gs_ hg HB; have GE281 := gs_ hg HB; replace HB := hbs_ HB hb; clear hb hbox hg; obtain ⟨hcz3_0, hcz3_1, hcz3_2, hfz3_0, hfz3_1, hfz3_2⟩ := bx3 BK281))
 go_ret
 exact ad_ (hb_ HB)

end Go.Proofs.Ytceajigggcihnaa.PFnCoarse
