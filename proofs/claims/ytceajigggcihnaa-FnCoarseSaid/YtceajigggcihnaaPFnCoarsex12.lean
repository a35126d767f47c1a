-- Laid for this claim by wip/tools/print2.sh, a changed copy of the kit's print (wip/tools/patch_print.py): not by print.sh. Changed by wip/fix/coarse.py. Changed by wip/fix/fncoarse.py.
import Derived.Test.YtceajigggcihnaaPFnCoarsex11
import Derived.Test.YtceajigggcihnaaVFnCoarse
namespace Go.Proofs.Ytceajigggcihnaa.PFnCoarse
open Go.RowKit Go.Proofs.YtceajigggcihnaaW.PrintWords Go.Proofs.YtceajigggcihnaaW.PrintLast Go.Proofs.YtceajigggcihnaaW.PrintMore
attribute [local go_sem] max2_int min2_int max_two min_two max_three min_three max_four min_four
set_option linter.unusedVariables false
set_option linter.unusedSimpArgs false

/-! ### impl_CoarseModel: function 34 -/
mutual
def impl_CoarseModel.l0 : Nat → List (List (S29)) → Int → Int → Int → Int → Int → Int → List Int → List Int → List Int → Int → Int → Int → Option (Int × Int × Int × List Int × List Int × List Int × Int × Bool)
 | 0, _, _, _, _, _, _, _, _, _, _, _, _, _ => none
 | k + 1, x6, x7, x31, x32, x317000, x317001, x317002, x317003, x317004, x317005, x323000, x323001, x323002 => if x32 < x31 then ((impl_PieceOf.f k x317000 x317001 x317002 x317003 x317004 x317005 x32).bind fun bt327 => ((impl_CoarseBlock.f x317000 x317001 x317002 x32).bind fun bt332 => (if 0 ≤ bt332.1 then (if bt332.1 < (x6.length : Int) then (if (rd_L2 x6 bt332.1).length < 5864062014805 then (impl_CoarseModel.l0 k (x6.set (bt332.1 : Int).toNat ((rd_L2 x6 bt332.1) ++ [(⟨bt327.1, bt327.2.1, bt327.2.2.1⟩ : S29)])) (wrap64 (x7 - bt327.2.1)) x31 (wrap64 (x32 + 1)) x317000 x317001 x317002 x317003 x317004 x317005 x323000 x323001 x323002) else (none)) else (none)) else (none)))) else (impl_CoarseModel.l1 k x7 x6 (x6.length : Int) 0 x323000 x323001 x323002 ([] : List Int) ([] : List Int) ([] : List Int))
def impl_CoarseModel.l1 : Nat → Int → List (List (S29)) → Int → Int → Int → Int → Int → List Int → List Int → List Int → Option (Int × Int × Int × List Int × List Int × List Int × Int × Bool)
 | 0, _, _, _, _, _, _, _, _, _, _ => none
 | k + 1, x7, x63, x64, x65, x323000, x323001, x323002, x323003, x323004, x323005 => if x65 < x64 then (if 0 ≤ x65 then (if x65 < (x63.length : Int) then ((impl_joinPieces.f k (rd_L2 x63 x65)).bind fun bt340 => (if bt340.2.2.2 = true then (if x323003.length < 17592186044416 then ((impl_roundedGrade.f bt340.1 bt340.2.1 bt340.2.2.1).bind fun t348 => (if x323004.length < 17592186044416 then (if x323005.length < 17592186044416 then ((impl_roundedGrade.f bt340.1 bt340.2.1 bt340.2.2.1).bind fun t355 => (impl_CoarseModel.l1 k (wrap64 (x7 + (wrap64 (bt340.1 * t355)))) x63 x64 (wrap64 (x65 + 1)) x323000 x323001 x323002 (x323003 ++ [bt340.1]) (x323004 ++ [t348]) (x323005 ++ [bt340.2.2.1]))) else (none)) else (none))) else (none)) else (some (0, 0, 0, ([] : List Int), ([] : List Int), ([] : List Int), 0, false)))) else (none)) else (none)) else (some (x323000, x323001, x323002, x323003, x323004, x323005, x7, true))
end
def impl_CoarseModel.f (k : Nat) (a0_0 : Int) (a0_1 : Int) (a0_2 : Int) (l0_3 : List Int) (l0_4 : List Int) (l0_5 : List Int) : Option (Int × Int × Int × List Int × List Int × List Int × Int × Bool) := (impl_IsModel.f k a0_0 a0_1 a0_2 l0_3 l0_4 l0_5).bind fun t318 => (if t318 = true then ((impl_coarseGrid.f a0_0 a0_1 a0_2).bind fun bt319 => ((impl_blocksOf.f bt319.1 bt319.2.1 bt319.2.2).bind fun t323 => (if 0 ≤ t323 then (if (t323 : Int).toNat ≤ 11728124029610 then (impl_CoarseModel.l0 k (List.replicate (t323 : Int).toNat []) 0 (l0_3.length : Int) 0 a0_0 a0_1 a0_2 l0_3 l0_4 l0_5 bt319.1 bt319.2.1 bt319.2.2) else (none)) else (none)))) else (some (0, 0, 0, ([] : List Int), ([] : List Int), ([] : List Int), 0, false)))
def impl_CoarseModel.T11 : Bool × List (List Nat × List Nat) := (true, [([], []), ([], []), ([], []), ([], []), ([2, 3], [2, 3]), ([4], [4]), ([], []), ([6], [6]), ([5, 7], [5, 7]), ([0, 1, 0, 1, 2, 3, 4, 5, 6, 7, 8], [0, 1]), ([9, 8, 8, 0, 1, 2, 3, 4, 5, 6, 7, 8], [8, 9])])
def impl_CoarseModel.B11 : List Nat := [0, 0, 0, 0, 12, 28, 0, 64, 252, 511, 1023]
theorem impl_CoarseModel.tab11 : rtab .any (opsOf Try.f34 11) = impl_CoarseModel.T11 := by kernel_rfl
theorem impl_CoarseModel.bits11 : waitsOk impl_CoarseModel.T11.2 impl_CoarseModel.B11 = true := by kernel_rfl
def impl_CoarseModel.T21 : Bool × List (List Nat × List Nat) := (true, [([], []), ([0], [0]), ([], []), ([2], [2]), ([3], [3]), ([1, 4, 3], [1, 4]), ([0, 1, 2, 3, 4, 5], []), ([6, 5, 5, 0, 1, 2, 3, 4, 5], [5, 6])])
def impl_CoarseModel.B21 : List Nat := [0, 1, 0, 4, 12, 31, 63, 127]
theorem impl_CoarseModel.tab21 : rtab .any (opsOf Try.f34 21) = impl_CoarseModel.T21 := by kernel_rfl
theorem impl_CoarseModel.bits21 : waitsOk impl_CoarseModel.T21.2 impl_CoarseModel.B21 = true := by kernel_rfl
def impl_CoarseModel.T23 : Bool × List (List Nat × List Nat) := (true, [([], []), ([], []), ([1], [1]), ([], []), ([3], [3]), ([2, 4], [2, 4]), ([0, 5], [0, 5]), ([6, 4, 0, 1, 2, 3, 4, 5, 6], [0, 6])])
def impl_CoarseModel.B23 : List Nat := [0, 0, 2, 0, 8, 30, 63, 127]
theorem impl_CoarseModel.tab23 : rtab .any (opsOf Try.f34 23) = impl_CoarseModel.T23 := by kernel_rfl
theorem impl_CoarseModel.bits23 : waitsOk impl_CoarseModel.T23.2 impl_CoarseModel.B23 = true := by kernel_rfl
set_option maxHeartbeats 8000000 in
set_option maxRecDepth 100000 in
theorem impl_CoarseModel.calls (k : Nat) (a0_0 : Int) (a0_1 : Int) (a0_2 : Int) (A0_3 : Option Addr) (c0_3 : Nat) (l0_3 : List Int) (A0_4 : Option Addr) (c0_4 : Nat) (l0_4 : List Int) (A0_5 : Option Addr) (c0_5 : Nat) (l0_5 : List Int) (r1 : Int) (r2 : Int) (r3 : Int) (r4 : List Int) (r5 : List Int) (r6 : List Int) (r7 : Int) (r8 : Bool) (w : World) (hr0_3 : Kd.C (Kd.int .i64) w A0_3 l0_3.length l0_3) (hc0_3 : l0_3.length ≤ c0_3) (hr0_4 : Kd.C (Kd.int .i64) w A0_4 l0_4.length l0_4) (hc0_4 : l0_4.length ≤ c0_4) (hr0_5 : Kd.C (Kd.int .i64) w A0_5 l0_5.length l0_5) (hc0_5 : l0_5.length ≤ c0_5) (h : impl_CoarseModel.f k a0_0 a0_1 a0_2 l0_3 l0_4 l0_5 = some (r1, r2, r3, r4, r5, r6, r7, r8)) :
  Calls Try.prog 34 #[.agg #[.int .i64 a0_0, .int .i64 a0_1, .int .i64 a0_2, .slice A0_3 l0_3.length c0_3, .slice A0_4 l0_4.length c0_4, .slice A0_5 l0_5.length c0_5]] w fun e w' => ∃ v3_ v4_ v5_ : Value, e = .returned (.tuple #[.agg #[.int .i64 r1, .int .i64 r2, .int .i64 r3, v3_, v4_, v5_], .int .i64 r7, .bool r8]) ∧ Kd.R (Kd.int .i64) 3 w' w.heap.size (fun k_ => some k_ ≠ (v4_ : Value).ownBlock ∧ some k_ ≠ (v5_ : Value).ownBlock) v3_ r4 ∧ Kd.R (Kd.int .i64) 3 w' w.heap.size (fun k_ => some k_ ≠ (v3_ : Value).ownBlock ∧ some k_ ≠ (v5_ : Value).ownBlock) v4_ r5 ∧ Kd.R (Kd.int .i64) 3 w' w.heap.size (fun k_ => some k_ ≠ (v3_ : Value).ownBlock ∧ some k_ ≠ (v4_ : Value).ownBlock) v5_ r6 ∧ Below w.heap.size w w' := by
 have hu34 := Try.underlying34
 have hu32 := Try.underlying32
 have hu29 := Try.underlying29
 have HR0_3 := Aside0.mk hr0_3
 have HC0_3 := Aside0.mk hc0_3
 clear hr0_3 hc0_3
 have HR0_4 := Aside0.mk hr0_4
 have HC0_4 := Aside0.mk hc0_4
 clear hr0_4 hc0_4
 have HR0_5 := Aside0.mk hr0_5
 have HC0_5 := Aside0.mk hc0_5
 clear hr0_5 hc0_5
 have HB := Aside0.mk (Below.refl w.heap.size w)
 have H := h
 unfold impl_CoarseModel.f at H
 clear h
 replace H := Option.bind_eq_some_iff.mp H
 obtain ⟨t318, A20, H⟩ := H
 try dsimp only at H
 have A2 := Aside0.mk A20
 clear A20
 by_cases c3 : t318 = true
 ·subst c3
  rw [if_pos rfl] at H
  replace H := Option.bind_eq_some_iff.mp H
  obtain ⟨⟨t319, t320, t321⟩, A40, H⟩ := H
  try dsimp only at H
  have A4 := Aside0.mk A40
  clear A40
  replace H := Option.bind_eq_some_iff.mp H
  obtain ⟨t323, A50, H⟩ := H
  try dsimp only at H
  have A5 := Aside0.mk A50
  clear A50
  by_cases c6 : 0 ≤ t323
  case neg => rw [if_neg c6] at H; exact absurd H (by simp)
  rw [if_pos c6] at H
  have c6b0 := eq_true c6
  have c6b1 := decide_eq_true c6
  clear c6
  by_cases c7 : (t323 : Int).toNat ≤ 11728124029610
  case neg => rw [if_neg c7] at H; exact absurd H (by simp)
  rw [if_pos c7] at H
  have c7b0 := eq_true c7
  have c7b1 := decide_eq_true c7
  clear c7
  obtain ⟨y324, hy324⟩ : ∃ y_ : List (List (S29)), y_ = (List.replicate (t323 : Int).toNat []) := ⟨_, rfl⟩
  (try with_reducible replace H := (Option.bind_some _ _).symm.trans H); (try dsimp only at H); (try rw [← hy324] at H)
  have Ny324 := Aside0.mk hy324
  clear hy324
  have H' := Aside0.mk H
  clear H
  go_enter Try.func34, Try.ntmps34
  go_wp2_with (first | ((with_reducible refine gate_dst (N := 1) rfl ?_); refine bv_ 1 (cs := #[.int .i64 a0_0, .int .i64 a0_1, .int .i64 a0_2, .slice A0_3 l0_3.length c0_3, .slice A0_4 l0_4.length c0_4, .slice A0_5 l0_5.length c0_5]) (t := 34) ?_; intro gb316 hg w8 hbox hb; have BK316 := Aside0.mk (hbox); have GW316 := gs_ hg HB; have GE316 := gs_ hg HB; replace HB := hbs_ HB hb; clear hb hbox hg) | ((with_reducible refine gate_dst (N := 2) rfl ?_); refine bv_ 2 (cs := #[.int .i64 0, .int .i64 0, .int .i64 0, .slice none 0 0, .slice none 0 0, .slice none 0 0]) (t := 34) ?_; intro gb317 hg w9 hbox hb; have BK317 := Aside0.mk (hbox); have GW317 := gs_ hg HB; have GE317 := gs_ hg HB; have NB316_317 := nl_ hg BK316; have NB317_316 := ng_ hg BK316; replace BK316 := kb_ BK316 hb; replace HB := hbs_ HB hb; clear hb hbox hg; have := NB316_317.out; have := NB317_316.out; obtain ⟨hcz11_0, hcz11_1, hcz11_2, hcz11_3, hcz11_4, hcz11_5, hfz11_0, hfz11_1, hfz11_2, hfz11_3, hfz11_4, hfz11_5⟩ := bx6 BK316) | ((with_reducible refine gate_callee (f := 59) rfl ?_); refine gl_ (some 18) Try.func59 #[.agg #[.int .i64 a0_0, .int .i64 a0_1, .int .i64 a0_2, .slice A0_3 l0_3.length c0_3, .slice A0_4 l0_4.length c0_4, .slice A0_5 l0_5.length c0_5]] rfl rfl rfl ?_; (with_reducible refine (impl_IsModel.calls k a0_0 a0_1 a0_2 _ _ l0_3 _ _ l0_4 _ _ l0_5 true _ ?side1 ?side2 ?side3 ?side4 ?side5 ?side6 A2.out).mono ?_); (case side1 => exact Kd.C_w HR0_3 HB); (case side2 => exact HC0_3.out); (case side3 => exact Kd.C_w HR0_4 HB); (case side4 => exact HC0_4.out); (case side5 => exact Kd.C_w HR0_5 HB); (case side6 => exact HC0_5.out); rintro e w12 ⟨rfl, hb⟩; refine ⟨_, rfl, ?_⟩; replace BK316 := kb_ BK316 hb; replace BK317 := kb_ BK317 hb; replace HB := hbs_ HB hb; obtain ⟨hcz13_0, hcz13_1, hcz13_2, hcz13_3, hcz13_4, hcz13_5, hfz13_0, hfz13_1, hfz13_2, hfz13_3, hfz13_4, hfz13_5⟩ := bx6 BK316) | ((with_reducible refine gate_callee (f := 82) rfl ?_); refine gl_ (some 23) Try.func82 #[.agg #[.int .i64 a0_0, .int .i64 a0_1, .int .i64 a0_2]] rfl rfl rfl ?_; (with_reducible refine (impl_coarseGrid.calls a0_0 a0_1 a0_2 t319 t320 t321 _ A4.out).mono ?_); rintro e w14 ⟨rfl, hb⟩; refine ⟨_, rfl, ?_⟩; replace BK316 := kb_ BK316 hb; replace BK317 := kb_ BK317 hb; replace HB := hbs_ HB hb) | ((with_reducible refine gate_dst (N := 5) rfl ?_); refine bv_ 5 (cs := #[.int .i64 0, .int .i64 0, .int .i64 0, .slice none 0 0, .slice none 0 0, .slice none 0 0]) (t := 34) ?_; intro gb322 hg w15 hbox hb; have BK322 := Aside0.mk (hbox); have GW322 := gs_ hg HB; have GE322 := gs_ hg HB; have NB316_322 := nl_ hg BK316; have NB322_316 := ng_ hg BK316; have NB317_322 := nl_ hg BK317; have NB322_317 := ng_ hg BK317; replace BK316 := kb_ BK316 hb; replace BK317 := kb_ BK317 hb; replace HB := hbs_ HB hb; clear hb hbox hg; have := NB322_316.out; have := NB316_322.out; have := NB322_317.out; have := NB317_322.out; obtain ⟨hcz18_0, hcz18_1, hcz18_2, hcz18_3, hcz18_4, hcz18_5, hfz18_0, hfz18_1, hfz18_2, hfz18_3, hfz18_4, hfz18_5⟩ := bx6 BK322) | ((with_reducible refine gate_callee (f := 83) rfl ?_); refine gl_ (some 27) Try.func83 #[.agg #[.int .i64 t319, .int .i64 t320, .int .i64 t321]] rfl rfl rfl ?_; (with_reducible refine (impl_blocksOf.calls t319 t320 t321 t323 _ A5.out).mono ?_); rintro e w19 ⟨rfl, hb⟩; refine ⟨_, rfl, ?_⟩; replace BK316 := kfb_ BK316 NB316_322 hb; replace BK317 := kfb_ BK317 NB317_322 hb; replace BK322 := Aside0.mk (blk_below (g := gb322) (o := .cells #[.int .i64 t319, .int .i64 t320, .int .i64 t321, .slice none 0 0, .slice none 0 0, .slice none 0 0] 34 (0, 0)) (kpq_ (kputs BK322 [(0, _), (1, _), (2, _), (3, _), (4, _), (5, _)])) hb); replace HB := hbs_ HB hb) | ((with_reducible refine gate_dst (N := 28) rfl ?_); refine Kd.S_make (Kd.slice 29 k29) _ 42 rfl (N := 28) rfl 100 _ _ rfl t323 rfl rfl Try.underlying100 (.slice none 0 0) 24 info42 rfl (by decide) (by omega) [] (ok := fun _ => True) (okp := fun _ => True) ⟨_, rfl, Kd.R_nil _ _ _ _ _⟩ (fun _ hk => hk) trivial (of_decide_eq_true (by first | (with_reducible assumption) | assumption)) (Nat.le_trans (Nat.mul_le_mul_right _ (of_decide_eq_true (by first | (with_reducible assumption) | assumption) : t323.toNat ≤ 11728124029610)) (by omega)) (Below.refl _ _) (Nat.le_refl _) ?_; intro v325 w20 ho21 hb hg_ hnew_; clear hg_ hnew_; (first | rw [← Ny324.out] at ho21 | (simp only [Int.reduceToNat] at ho21; rw [← Ny324.out] at ho21)); have HO326 := Aside0.mk (Kd.S_lower ho21 (below_size (hb_ HB))); replace BK316 := kb_ BK316 hb; replace BK317 := kb_ BK317 hb; replace BK322 := kb_ BK322 hb; replace HB := hbs_ HB hb; clear hb ho21; obtain ⟨hcz22_0, hcz22_1, hcz22_2, hcz22_3, hcz22_4, hcz22_5, hfz22_0, hfz22_1, hfz22_2, hfz22_3, hfz22_4, hfz22_5⟩ := bx6 BK316))
  go_loopg [7, 32] k (fun kq v7 v32 w' => ∃ (x6_1 : List (List (S29))) (x7_1 : Int) (x32_1 : Int), v7 = .int .i64 x7_1 ∧ v32 = .int .i64 x32_1 ∧ Aside0 (impl_CoarseModel.l0 kq x6_1 x7_1 (l0_3.length : Int) x32_1 a0_0 a0_1 a0_2 l0_3 l0_4 l0_5 t319 t320 t321 = some (r1, r2, r3, r4, r5, r6, r7, r8)) ∧ Aside0 (kq ≤ k) ∧ Aside0 (Kd.S (Kd.slice 29 k29) 42 w' w.heap.size (fun _ => True) v325 x6_1) ∧ Aside0 (w'.heap[gb316]? = some (.cells #[.int .i64 a0_0, .int .i64 a0_1, .int .i64 a0_2, (.slice A0_3 l0_3.length c0_3), (.slice A0_4 l0_4.length c0_4), (.slice A0_5 l0_5.length c0_5)] 34 (0, 0))) ∧ Aside0 (w'.heap[gb317]? = some (.cells #[.int .i64 0, .int .i64 0, .int .i64 0, (.slice none 0 0), (.slice none 0 0), (.slice none 0 0)] 34 (0, 0))) ∧ Aside0 (w'.heap[gb322]? = some (.cells #[.int .i64 t319, .int .i64 t320, .int .i64 t321, (.slice none 0 0), (.slice none 0 0), (.slice none 0 0)] 34 (0, 0))) ∧ Aside0 (Below w.heap.size w w'))
  case atStart => exact ⟨(y324), (0), (0), (by first | rfl | (simp; done) | (simp [*]; done)), (by first | rfl | (simp; done) | (simp [*]; done)), H', ⟨Nat.le_refl _⟩, ⟨by (with_reducible repeat (first | apply Kd.S_alloc | apply Kd.S_drewN | apply Kd.S_drew)); exact HO326.out⟩, ⟨kp_ BK316⟩, ⟨kp_ BK317⟩, ⟨kp_ BK322⟩, ⟨hb_ HB⟩⟩
  clear H'
  obtain ⟨x6_1, x7_1, x32_1, rfl, rfl, HA, HK1, HO_6, BK316, BK317, BK322, HB⟩ := hrel
  cases gk with
  | zero => exact absurd HA.out (by simp [impl_CoarseModel.l0])
  | succ k1 => ?_
  have H := HA.out
  clear HA
  simp only [impl_CoarseModel.l0] at H
  by_cases c23 : x32_1 < (l0_3.length : Int)
  ·rw [if_pos c23] at H
   have c23b0 := decide_eq_true c23
   clear c23
   replace H := Option.bind_eq_some_iff.mp H
   obtain ⟨⟨t327, t328, t329, t330⟩, A240, H⟩ := H
   try dsimp only at H
   have A24 := Aside0.mk A240
   clear A240
   replace H := Option.bind_eq_some_iff.mp H
   obtain ⟨⟨t332, t333⟩, A250, H⟩ := H
   try dsimp only at H
   have A25 := Aside0.mk A250
   clear A250
   by_cases c26 : 0 ≤ t332
   case neg => rw [if_neg c26] at H; exact absurd H (by simp)
   rw [if_pos c26] at H
   have c26b0 := decide_eq_true c26
   clear c26
   by_cases c27 : t332 < (x6_1.length : Int)
   case neg => rw [if_neg c27] at H; exact absurd H (by simp)
   rw [if_pos c27] at H
   have c27b0 := decide_eq_true c27
   clear c27
   by_cases c28 : (rd_L2 x6_1 t332).length < 5864062014805
   case neg => rw [if_neg c28] at H; exact absurd H (by simp)
   rw [if_pos c28] at H
   have LMc28 := Aside0.mk c28
   clear c28
   obtain ⟨y335, hy335⟩ : ∃ y_ : List (S29), y_ = ((rd_L2 x6_1 t332) ++ [(⟨t327, t328, t329⟩ : S29)]) := ⟨_, rfl⟩
   (try with_reducible replace H := (Option.bind_some _ _).symm.trans H); (try dsimp only at H); (try rw [← hy335] at H)
   have Ny335 := Aside0.mk hy335
   clear hy335
   obtain ⟨y338, hy338⟩ : ∃ y_ : List (List (S29)), y_ = (x6_1.set (t332 : Int).toNat y335) := ⟨_, rfl⟩
   (try with_reducible replace H := (Option.bind_some _ _).symm.trans H); (try dsimp only at H); (try rw [← hy338] at H)
   have Ny338 := Aside0.mk hy338
   clear hy338
   have H' := Aside0.mk H
   clear H
   have := NB316_317.out
   have := NB317_316.out
   have := NB316_322.out
   have := NB322_316.out
   obtain ⟨hcz32_0, hcz32_1, hcz32_2, hcz32_3, hcz32_4, hcz32_5, hfz32_0, hfz32_1, hfz32_2, hfz32_3, hfz32_4, hfz32_5⟩ := bx6 BK316
   try go_wp2_with (first | ((with_reducible refine gate_callee (f := 14) rfl ?_); refine gl_ (some 38) Try.func14 #[.agg #[.int .i64 a0_0, .int .i64 a0_1, .int .i64 a0_2, .slice A0_3 l0_3.length c0_3, .slice A0_4 l0_4.length c0_4, .slice A0_5 l0_5.length c0_5], .int .i64 x32_1] rfl rfl rfl ?_; (with_reducible refine (impl_PieceOf.calls k1 a0_0 a0_1 a0_2 _ _ l0_3 _ _ l0_4 _ _ l0_5 x32_1 t327 t328 t329 t330 _ ?side1 ?side2 ?side3 ?side4 ?side5 ?side6 A24.out).mono ?_); (case side1 => exact Kd.C_w HR0_3 HB); (case side2 => exact HC0_3.out); (case side3 => exact Kd.C_w HR0_4 HB); (case side4 => exact HC0_4.out); (case side5 => exact Kd.C_w HR0_5 HB); (case side6 => exact HC0_5.out); rintro e w33 ⟨rfl, hb⟩; refine ⟨_, rfl, ?_⟩; replace HO_6 := Aside0.mk (Kd.S_below (by (with_reducible repeat (first | apply Kd.S_alloc | apply Kd.S_drewN | apply Kd.S_drew)); exact HO_6.out) hb); replace BK316 := kb_ BK316 hb; replace BK317 := kb_ BK317 hb; replace BK322 := kb_ BK322 hb; replace HB := hbs_ HB hb) | ((with_reducible refine gate_dst (N := 9) rfl ?_); refine bv_ 9 (cs := #[.int .i64 0, .int .i64 0, .int .i64 0]) (t := 29) ?_; intro gb331 hg w34 hbox hb; have BK331 := Aside0.mk (hbox); have GW331 := gs_ hg HB; have GE331 := gs_ hg HB; have NB316_331 := nl_ hg BK316; have NB331_316 := ng_ hg BK316; have NB317_331 := nl_ hg BK317; have NB331_317 := ng_ hg BK317; have NB322_331 := nl_ hg BK322; have NB331_322 := ng_ hg BK322; replace HO_6 := Aside0.mk (Kd.S_below (Kd.S_elderB (by (with_reducible repeat (first | apply Kd.S_alloc | apply Kd.S_drewN | apply Kd.S_drew)); exact HO_6.out) gb331 (Nat.le_of_eq hg.symm)) hb); replace BK316 := kb_ BK316 hb; replace BK317 := kb_ BK317 hb; replace BK322 := kb_ BK322 hb; replace HB := hbs_ HB hb; clear hb hbox hg; have := NB331_316.out; have := NB316_331.out; have := NB331_317.out; have := NB317_331.out; have := NB331_322.out; have := NB322_331.out; obtain ⟨hcz38_0, hcz38_1, hcz38_2, hfz38_0, hfz38_1, hfz38_2⟩ := bx3 BK331; obtain ⟨hcz39_0, hcz39_1, hcz39_2, hcz39_3, hcz39_4, hcz39_5, hfz39_0, hfz39_1, hfz39_2, hfz39_3, hfz39_4, hfz39_5⟩ := bx6 BK316) | ((with_reducible refine gate_callee (f := 53) rfl ?_); refine gl_ (some 45) Try.func53 #[.agg #[.int .i64 a0_0, .int .i64 a0_1, .int .i64 a0_2], .int .i64 x32_1] rfl rfl rfl ?_; (with_reducible refine (impl_CoarseBlock.calls a0_0 a0_1 a0_2 x32_1 t332 t333 _ A25.out).mono ?_); rintro e w40 ⟨rfl, hb⟩; refine ⟨_, rfl, ?_⟩; replace HO_6 := Aside0.mk (Kd.S_below (by (with_reducible repeat (first | apply Kd.S_alloc | apply Kd.S_drewN | apply Kd.S_drew)); exact (Kd.S_mono (Kd.S_far (p := ⟨gb331, 2, none⟩) (Kd.S_far (p := ⟨gb331, 1, none⟩) (Kd.S_far (p := ⟨gb331, 0, none⟩) (Kd.S_mono HO_6.out (fun k_ hk => (⟨hk, hk.2⟩ : _ ∧ k_ ≠ gb331))) (fun _ hk => hk.2) (.int .i64 t327)) (fun _ hk => hk.2) (.int .i64 t328)) (fun _ hk => hk.2) (.int .i64 t329)) (fun _ h_ => h_.1))) hb); replace BK316 := kfb_ BK316 NB316_331 hb; replace BK317 := kfb_ BK317 NB317_331 hb; replace BK322 := kfb_ BK322 NB322_331 hb; replace BK331 := Aside0.mk (blk_below (g := gb331) (o := .cells #[.int .i64 t327, .int .i64 t328, .int .i64 t329] 29 (0, 0)) (kpq_ (kputs BK331 [(0, _), (1, _), (2, _)])) hb); replace HB := hbs_ HB hb))
   replace HO_6 := Aside0.mk (Kd.S_drew HO_6.out)
   replace BK316 := Aside0.mk (blk_drew BK316.out)
   replace BK317 := Aside0.mk (blk_drew BK317.out)
   replace BK322 := Aside0.mk (blk_drew BK322.out)
   replace BK331 := Aside0.mk (blk_drew BK331.out)
   replace HB := Aside0.mk (below_drew1 HB.out)
   obtain ⟨Ao42, co42, eo42⟩ := Kd.S_slice HO_6.out
   (first | subst eo42 | (injection eo42 with f1_ f2_ f3_; have f4_ := f1_.symm; have f5_ := f3_.symm; clear f1_ f2_ f3_; subst f4_; subst f5_))
   have p334 : 0 ≤ (t332 : Int) := of_decide_eq_true (by first | (with_reducible assumption) | assumption)
   have q334 : t332 < (x6_1.length : Int) := of_decide_eq_true (by first | (with_reducible assumption) | assumption)
   obtain ⟨ad334, A334_0, c334_0, e334, hx334_0, hl334_0, hi334_0⟩ := at_L2 (Kd.S_reads' HO_6.out).2.2 t332 p334 q334
   cases e334
   obtain ⟨ce334, hce334, hMe334, hcc334⟩ := Kd.S_get HO_6.out [] t332 p334 (by first | exact q334 | exact of_decide_eq_true (by first | (with_reducible assumption) | assumption) | (have e_ := (Kd.S_reads' HO_6.out).1; omega))
   obtain ⟨ve334_0, rfl, ge334_0⟩ := hMe334
   have hv334_0 := hcc334 0 _ rfl
   rw [Nat.add_zero, show ((Kd.slice 29 k29)).sz = 1 from rfl, Nat.mul_one] at hv334_0
   replace hv334_0 := Option.some.inj (hv334_0.symm.trans hx334_0)
   rw [hv334_0] at ge334_0
   have HL334_0 := Aside0.mk (show Kd.R k29 29 _ _ _ _ (rd_L2 x6_1 t332) from ge334_0)
   clear hv334_0 ge334_0
   have HX334_0 := Aside0.mk hx334_0
   clear hcc334 hce334
   have HR334_0 := Aside0.mk hi334_0
   have HC334_0 := Aside0.mk hl334_0
   clear hi334_0 hl334_0
   replace p334 := eq_true p334
   replace q334 := eq_true q334
   have n_ := Aside0.mk (Kd.S_mono (ok' := (fun k_ => k_ ≠ gb331)) HO_6.out (fun k_ hk => hk.2))
   clear HO_6
   have HO_6 := n_
   clear n_
   obtain ⟨go43, co43, eo43, gb43, gl43, cl43, HG43⟩ := Kd.S_form HO_6.out (by have h_ : (t332 : Int) < ((x6_1.length : Int) : Int) := of_decide_eq_true (by first | (with_reducible assumption) | assumption); have h2_ : 0 ≤ (t332 : Int) := (of_decide_eq_true (by first | (with_reducible assumption) | assumption)); omega)
   (first | cases eo43 | (injection eo43 with ea_ en_ ec_; (first | subst ea_ | (injection ea_ with ea_; subst ea_)); subst ec_; clear en_))
   have GB43 := Aside0.mk gb43
   have GG43 := Aside0.mk HG43
   clear gb43 gl43 HG43
   (first | simp only [add_plain] at hx334_0 | skip)
   obtain ⟨oki43, ce43, hcl43, hM43, hcc43, _, _, hH43⟩ := Kd.S_elem HO_6.out [] (t332 : Int) (of_decide_eq_true (by first | (with_reducible assumption) | assumption)) (by have h_ : (t332 : Int) < ((x6_1.length : Int) : Int) := of_decide_eq_true (by first | (with_reducible assumption) | assumption); first | exact h_ | (have e_ := (Kd.S_reads' HO_6.out).1; omega) | simpa using h_)
   obtain ⟨ve43_0, rfl, ge43_0⟩ := hM43
   have hv43 := hcc43 0 _ rfl
   have hX43 := HX334_0.out
   (try simp only [add_plain] at hX43)
   (try simp only [Nat.add_zero] at hv43)
   (try rw [show ((Kd.slice 29 k29)).sz = 1 from rfl, Nat.mul_one] at hv43)
   replace hv43 := Option.some.inj (hv43.symm.trans hX43)
   subst hv43
   clear hX43 hcc43 hcl43
   have UU43 := Aside0.mk (show Kd.R k29 29 _ w.heap.size oki43 (.slice A334_0 (rd_L2 x6_1 t332).length c334_0) (rd_L2 x6_1 t332) from ge43_0)
   have HH43 := Aside0.mk hH43
   have HN43 := Aside0.mk (Kd.S_reads' HO_6.out).1
   clear hH43 ge43_0
   refine start_ (n := 11) (S := fun w' => w'.cell? ⟨gb331, 0, none⟩ = some (.int .i64 t327) ∧ w'.cell? ⟨gb331, 1, none⟩ = some (.int .i64 t328) ∧ w'.cell? ⟨gb331, 2, none⟩ = some (.int .i64 t329) ∧ w'.cell? ⟨go43, (t332).toNat, none⟩ = some (.slice A334_0 (rd_L2 x6_1 t332).length c334_0)) (ds := [10]) (bb 11 0) (by kernel_rfl) rfl rfl ⟨(blk_cell BK331.out 0).trans rfl, (blk_cell BK331.out 1).trans rfl, (blk_cell BK331.out 2).trans rfl, hx334_0⟩ (fun hHeld => ?_); refine with_tabW impl_CoarseModel.tab11 impl_CoarseModel.bits11 (fun HT_ HW_ => ?_)
   generalize w40.drew = w41 at HO_6 BK316 BK317 BK322 BK331 HB GG43 HH43 HL334_0 HR334_0 HX334_0 UU43 hx334_0 hHeld ⊢
   refine pl_ HT_ 0 (some 48) (bb 11 1) (h := ?_)
   refine pl_ HT_ 1 (some 49) (bb 11 3) (h := ?_)
   refine pl_ HT_ 2 (some 50) (bb 11 7) (h := ?_)
   refine pl_ HT_ 3 (some 51) (bb 11 15) (h := ?_)
   refine pl_ HT_ 4 (some 52) (bb 11 31) (h := ?_)
   refine tk_ HT_ HW_ hHeld 5 (some 53) (bb 11 63) (h := ?_)
   refine tk_ HT_ HW_ hHeld 6 (some 54) (bb 11 127) (h := ?_)
   refine one_ (i := 7) (N := some 55) (bb 11 255) rfl rfl (one_of HT_.out (by kernel_rfl)) (by decide) (fun K hK => ?_)
   refine value_ (w1 := ?_) (v := ?_) (by rfl) rfl ?_ ?_
   rotate_left 2
   ·go_simp
    constructor
    ·rfl
    rfl
   refine hK.out _ _ ⟨(blk_cell (blk_alloc BK331.out _) 0).trans rfl, (blk_cell (blk_alloc BK331.out _) 1).trans rfl, (blk_cell (blk_alloc BK331.out _) 2).trans rfl, (World.cell?_alloc_lt _ _ _ (World.block_lt_of_cell? _ _ (hHeld.2.2.2))).trans (hHeld.2.2.2)⟩ (fun hHeld => ?_)
   clear hK K
   refine nm_ (some 55) (h := ?_)
   refine one_ (i := 8) (N := some 56) (bb 11 511) rfl rfl (one_of HT_.out (by kernel_rfl)) (by decide) (fun K hK => ?_)
   refine Kd.R_append_step k29 (w0 := w) w.heap.size (by rfl) (.tmp 53) (.tmp 55) 42 29 (.agg #[(.int .i64 0), (.int .i64 0), (.int .i64 0)]) 24 rfl Try.underlying42 info29 rfl (by decide) (by omega) (.slice A334_0 (rd_L2 x6_1 t332).length c334_0) (rd_L2 x6_1 t332) (⟨t327, t328, t329⟩ : S29) [.int .i64 t327, .int .i64 t328, .int .i64 t329] (fun k_ => oki43 k_ ∨ ((fun k_ => k_ ≠ gb331)) k_ ∧ w41.heap.size ≤ k_) (fun _ => False) rfl rfl ?aP (fun _ hk => hk.elim) ?aF ?aO ?aB ?aS ?aL ?_
   (case aP => exact k29_mkM _ _ _ (⟨t327, t328, t329⟩ : S29))
   (case aB => exact (hb_ HB))
   (case aF => exact (fun k_ hk => .inr ⟨Kd.freshB (g := gb331) (o := .cells #[.int .i64 t327, .int .i64 t328, .int .i64 t329] 29 (0, 0)) (kp_ BK331) k_ hk, hk⟩))
   (case aO => exact (Kd.R_pp (Kd.R_mono UU43.out (fun _ hk => .inl hk))))
   (case aS => exact (below_size (hb_ HB)))
   (case aL => have := LMc28.out; omega)
   intro v336 w44 ho hb hg hat
   (first | have HS3_ := YtceajigggcihnaaW.PrintWords.cell_grown hg (hHeld.2.2.2) (by first | (rw [add_block]; exact (fun e_ => ((HL334_0.out.1 _ e_.symm).2) rfl)) | (show some (Addr.add _ _).block ≠ _; rw [add_block]; exact (fun e_ => ((HL334_0.out.1 _ e_.symm).2) rfl)) | exact (fun e_ => ((HL334_0.out.1 _ e_.symm).2) rfl)) | have HS3_ := YtceajigggcihnaaW.PrintWords.cell_grown hg (cell_unalloc (hHeld.2.2.2) (by first | (rw [add_block]; exact Kd.S_lt HO_6.out _ rfl) | (show (Addr.add _ _).block < _; rw [add_block]; exact Kd.S_lt HO_6.out _ rfl) | exact Kd.S_lt HO_6.out _ rfl)) (by first | (rw [add_block]; exact (fun e_ => ((HL334_0.out.1 _ e_.symm).2) rfl)) | (show some (Addr.add _ _).block ≠ _; rw [add_block]; exact (fun e_ => ((HL334_0.out.1 _ e_.symm).2) rfl)) | exact (fun e_ => ((HL334_0.out.1 _ e_.symm).2) rfl)))
   rw [← Ny335.out] at ho
   replace BK316 := Aside0.mk (blk_grown (kp_ BK316) hg (Kd.R_ne HL334_0.out BK316.out (by decide)))
   replace BK317 := Aside0.mk (blk_grown (kp_ BK317) hg (Kd.R_ne HL334_0.out BK317.out (by decide)))
   replace BK322 := Aside0.mk (blk_grown (kp_ BK322) hg (Kd.R_ne HL334_0.out BK322.out (by decide)))
   replace BK331 := Aside0.mk (blk_grown (kp_ BK331) hg (Kd.R_away HL334_0.out (fun _ hk => hk.1.2)))
   replace HB := Aside0.mk (hb)
   replace HH43 := Aside0.mk (Kd.H_grown (Kd.H_widen (by repeat (first | exact HH43.out | refine Kd.H_alloc ?_ _ | refine Kd.H_drewN ?_ _ | refine Kd.H_drew ?_))) hg (fun k_ e_ => .inl (UU43.out.1 k_ e_)))
   have HO337 := Aside0.mk (ho)
   clear HO_6 UU43 HL334_0
   clear ho hb hg hat
   have p29 : 0 ≤ (t332 : Int) := of_decide_eq_true (by first | (with_reducible assumption) | assumption)
   have q29 : (t332 : Int) < ((x6_1.length : Int) : Int) := of_decide_eq_true (by first | (with_reducible assumption) | assumption)
   replace p29 := eq_true p29
   replace q29 := eq_true q29
   obtain ⟨Ao47, co47, eo47⟩ := Kd.R_slice HO337.out
   (first | subst eo47 | (injection eo47 with f1_ f2_ f3_; have f4_ := f1_.symm; have f5_ := f3_.symm; clear f1_ f2_ f3_; subst f4_; subst f5_))
   obtain ⟨_, _, hraw45, _, _, hcc45, _⟩ := Kd.H_raw HH43.out (of_decide_eq_true (by first | (with_reducible assumption) | assumption)) (by have h_ : (t332 : Int) < ((x6_1.length : Int) : Int) := of_decide_eq_true (by first | (with_reducible assumption) | assumption); first | exact h_ | (have e_ := (HN43.out); omega) | simpa using h_)
   obtain ⟨_, hfr45⟩ := Kd.H_at HH43.out (of_decide_eq_true (by first | (with_reducible assumption) | assumption)) (by have h_ : (t332 : Int) < ((x6_1.length : Int) : Int) := of_decide_eq_true (by first | (with_reducible assumption) | assumption); first | exact h_ | (have e_ := (HN43.out); omega) | simpa using h_)
   have hx45_0 := hcc45 0 _ rfl
   have hf45_0 := hfr45 0
   (try simp only [Nat.add_zero] at hx45_0 hf45_0)
   (try rw [show ((Kd.slice 29 k29)).sz = 1 from rfl, Nat.mul_one] at hx45_0)
   (try rw [show ((Kd.slice 29 k29)).sz = 1 from rfl, Nat.mul_one] at hf45_0)
   have HP45 := Kd.S_seg0 HH43.out (of_decide_eq_true (by first | (with_reducible assumption) | assumption)) (by have h_ : (t332 : Int) < ((x6_1.length : Int) : Int) := of_decide_eq_true (by first | (with_reducible assumption) | assumption); first | exact h_ | (have e_ := (HN43.out); omega) | simpa using h_) (seg := [.slice Ao47 y335.length co47]) (j := 0) (show 1 ≤ 1 from by decide) (x' := y335) (Kd.M_row HO337.out) (fun _ hk => hk)
   (try simp only [show ((Kd.slice 29 k29)).sz = 1 from rfl, Nat.mul_one, Nat.add_zero] at HP45)
   clear hcc45 hfr45
   have HNB316_go43 := Aside0.mk (show gb316 ≠ go43 from by have h_ := Kd.R_ne hraw45 BK316.out (by decide); intro e_; exact h_ (by rw [e_]; rfl))
   have HNB317_go43 := Aside0.mk (show gb317 ≠ go43 from by have h_ := Kd.R_ne hraw45 BK317.out (by decide); intro e_; exact h_ (by rw [e_]; rfl))
   have HNB322_go43 := Aside0.mk (show gb322 ≠ go43 from by have h_ := Kd.R_ne hraw45 BK322.out (by decide); intro e_; exact h_ (by rw [e_]; rfl))
   have HNB331_go43 := Aside0.mk (show gb331 ≠ go43 from by have h_ := Kd.R_ne hraw45 BK331.out (by decide); intro e_; exact h_ (by rw [e_]; rfl))
   have HS45 := HP45.1
   rw [← Ny338.out] at HS45
   have HQ45 := Aside0.mk HS45
   obtain ⟨_, hgg45⟩ := Kd.R_typed hraw45 go43 rfl
   have GG45_ := Aside0.mk hgg45
   clear HP45 HS45 hgg45
   refine hK.out _ _ ⟨(blk_cell BK331.out 0).trans rfl, (blk_cell BK331.out 1).trans rfl, (blk_cell BK331.out 2).trans rfl, HS3_⟩ (fun hHeld => ?_)
   clear hK K
   refine nm_ (some 56) (h := ?_)
   refine pl_ HT_ 9 (some 57) (bb 11 1023) (h := ?_)
   refine last_ (i := 10) (N := none) (bb 11 2047) rfl rfl (one_of HT_.out (by kernel_rfl)) (by decide) (fun K hK => ?_)
   refine skip_ (w1 := ?_) (by rfl) rfl ?_ ?_
   rotate_left
   ·go_simp
    rfl
   refine hK.out _ _ ?_
   clear hK K
   refine done_ (done_of HT_.out (by kernel_rfl)) ?_
   obtain ⟨hcz48_0, hcz48_1, hcz48_2, hfz48_0, hfz48_1, hfz48_2⟩ := bx3 BK331
   have hnb48 := HNB331_go43.out
   have := Ne.symm hnb48
   try go_wp2
   go_roundg k1
   case measure => have := HK1.out; omega
   case rel => exact ⟨(y338), (wrap64 (x7_1 - t328)), (wrap64 (x32_1 + 1)), (by first | rfl | (simp; done) | (simp [*]; done)), (by first | rfl | (simp; done) | (simp [*]; done)), H', ⟨by have := HK1.out; omega⟩, ⟨by (with_reducible repeat (first | apply Kd.S_alloc | apply Kd.S_drewN | apply Kd.S_drew)); exact Kd.S_mono HQ45.out (fun _ hk => trivial)⟩, ⟨kq_ (h := bf_ (hn := HNB316_go43) (h := BK316.out))⟩, ⟨kq_ (h := bf_ (hn := HNB317_go43) (h := BK317.out))⟩, ⟨kq_ (h := bf_ (hn := HNB322_go43) (h := BK322.out))⟩, ⟨by repeat (first | (with_reducible first | exact HB.out | apply below_alloc | apply pw_below_drewN | apply below_drew1 | refine below_set ?_ GB43.out | refine below_set ?_ GE316.out | refine below_set ?_ GE317.out | refine below_set ?_ GE322.out | refine below_set ?_ GE331.out) | exact HB.out)⟩⟩
  rw [if_neg c23] at H
  have c23b0 := decide_eq_false c23
  clear c23
  have H' := Aside0.mk H
  clear H
  obtain ⟨Ao49, co49, eo49⟩ := Kd.S_slice HO_6.out
  subst eo49
  go_wp2
  go_loopg [7, 65] k1 (fun kq v7 v65 w' => ∃ (x7_2 : Int) (x65_2 : Int) (x318000_2 : Int) (x318001_2 : Int) (x318002_2 : Int) (x323003_2 : List Int) (x323004_2 : List Int) (x323005_2 : List Int) (u323003 : Value) (u323004 : Value) (u323005 : Value), v7 = .int .i64 x7_2 ∧ v65 = .int .i64 x65_2 ∧ Aside0 (impl_CoarseModel.l1 kq x7_2 x6_1 (x6_1.length : Int) x65_2 t319 t320 t321 x323003_2 x323004_2 x323005_2 = some (r1, r2, r3, r4, r5, r6, r7, r8)) ∧ Aside0 (kq ≤ k1) ∧ Aside0 (Kd.S (Kd.slice 29 k29) 42 w' w.heap.size (fun _ => True) (.slice Ao49 x6_1.length co49) x6_1) ∧ Aside0 (Kd.R (Kd.int .i64) 3 w' w.heap.size (fun k_ => some k_ ≠ (u323004 : Value).ownBlock ∧ some k_ ≠ (u323005 : Value).ownBlock) u323003 x323003_2) ∧ Aside0 (Kd.R (Kd.int .i64) 3 w' w.heap.size (fun k_ => some k_ ≠ (u323003 : Value).ownBlock ∧ some k_ ≠ (u323005 : Value).ownBlock) u323004 x323004_2) ∧ Aside0 (Kd.R (Kd.int .i64) 3 w' w.heap.size (fun k_ => some k_ ≠ (u323003 : Value).ownBlock ∧ some k_ ≠ (u323004 : Value).ownBlock) u323005 x323005_2) ∧ Aside0 (w'.heap[gb317]? = some (.cells #[.int .i64 x318000_2, .int .i64 x318001_2, .int .i64 x318002_2, (.slice none 0 0), (.slice none 0 0), (.slice none 0 0)] 34 (0, 0))) ∧ Aside0 (w'.heap[gb322]? = some (.cells #[.int .i64 t319, .int .i64 t320, .int .i64 t321, u323003, u323004, u323005] 34 (0, 0))) ∧ Aside0 (Below w.heap.size w w'))
  case atStart => exact ⟨(x7_1), (0), (0), (0), (0), (([] : List Int)), (([] : List Int)), (([] : List Int)), (.slice none 0 0), (.slice none 0 0), (.slice none 0 0), (by first | rfl | (simp; done) | (simp [*]; done)), (by first | rfl | (simp; done) | (simp [*]; done)), H', ⟨Nat.le_refl _⟩, ⟨by (with_reducible repeat (first | apply Kd.S_alloc | apply Kd.S_drewN | apply Kd.S_drew)); exact HO_6.out⟩, ⟨by first | exact Kd.R_nil _ _ _ _ _ | exact Kd.N_nil _ _ _ _ _ | exact Kd.V_nil _ _ _ _ _ | exact Kd.Q_nil _ _ _ _ _ | exact Kd.S_nil _ _ _ _ _⟩, ⟨by first | exact Kd.R_nil _ _ _ _ _ | exact Kd.N_nil _ _ _ _ _ | exact Kd.V_nil _ _ _ _ _ | exact Kd.Q_nil _ _ _ _ _ | exact Kd.S_nil _ _ _ _ _⟩, ⟨by first | exact Kd.R_nil _ _ _ _ _ | exact Kd.N_nil _ _ _ _ _ | exact Kd.V_nil _ _ _ _ _ | exact Kd.Q_nil _ _ _ _ _ | exact Kd.S_nil _ _ _ _ _⟩, ⟨kp_ BK317⟩, ⟨kp_ BK322⟩, ⟨hb_ HB⟩⟩
  clear H'
  obtain ⟨x7_2, x65_2, x318000_2, x318001_2, x318002_2, x323003_2, x323004_2, x323005_2, u323003, u323004, u323005, rfl, rfl, HA, HK2, HO_63, HO_323003, HO_323004, HO_323005, BK317, BK322, HB⟩ := hrel
  cases gk with
  | zero => exact absurd HA.out (by simp [impl_CoarseModel.l1])
  | succ k2 => ?_
  have H := HA.out
  clear HA
  simp only [impl_CoarseModel.l1] at H
  by_cases c50 : x65_2 < (x6_1.length : Int)
  ·rw [if_pos c50] at H
   have c50b0 := decide_eq_true c50
   clear c50
   by_cases c51 : 0 ≤ x65_2
   case neg => rw [if_neg c51] at H; exact absurd H (by simp)
   rw [if_pos c51] at H
   have c51b0 := decide_eq_true c51
   clear c51
   by_cases c52 : x65_2 < (x6_1.length : Int)
   case neg => rw [if_neg c52] at H; exact absurd H (by simp)
   rw [if_pos c52] at H
   have c52b0 := decide_eq_true c52
   clear c52
   replace H := Option.bind_eq_some_iff.mp H
   obtain ⟨⟨t340, t341, t342, t343⟩, A530, H⟩ := H
   try dsimp only at H
   have A53 := Aside0.mk A530
   clear A530
   by_cases c54 : t343 = true
   ·subst c54
    rw [if_pos rfl] at H
    by_cases c55 : x323003_2.length < 17592186044416
    case neg => rw [if_neg c55] at H; exact absurd H (by simp)
    rw [if_pos c55] at H
    have LMc55 := Aside0.mk c55
    clear c55
    obtain ⟨y345, hy345⟩ : ∃ y_ : List Int, y_ = (x323003_2 ++ [t340]) := ⟨_, rfl⟩
    (try with_reducible replace H := (Option.bind_some _ _).symm.trans H); (try dsimp only at H); (try rw [← hy345] at H)
    have Ny345 := Aside0.mk hy345
    clear hy345
    replace H := Option.bind_eq_some_iff.mp H
    obtain ⟨t348, A560, H⟩ := H
    try dsimp only at H
    have A56 := Aside0.mk A560
    clear A560
    by_cases c57 : x323004_2.length < 17592186044416
    case neg => rw [if_neg c57] at H; exact absurd H (by simp)
    rw [if_pos c57] at H
    have LMc57 := Aside0.mk c57
    clear c57
    obtain ⟨y349, hy349⟩ : ∃ y_ : List Int, y_ = (x323004_2 ++ [t348]) := ⟨_, rfl⟩
    (try with_reducible replace H := (Option.bind_some _ _).symm.trans H); (try dsimp only at H); (try rw [← hy349] at H)
    have Ny349 := Aside0.mk hy349
    clear hy349
    by_cases c58 : x323005_2.length < 17592186044416
    case neg => rw [if_neg c58] at H; exact absurd H (by simp)
    rw [if_pos c58] at H
    have LMc58 := Aside0.mk c58
    clear c58
    obtain ⟨y352, hy352⟩ : ∃ y_ : List Int, y_ = (x323005_2 ++ [t342]) := ⟨_, rfl⟩
    (try with_reducible replace H := (Option.bind_some _ _).symm.trans H); (try dsimp only at H); (try rw [← hy352] at H)
    have Ny352 := Aside0.mk hy352
    clear hy352
    replace H := Option.bind_eq_some_iff.mp H
    obtain ⟨t355, A590, H⟩ := H
    try dsimp only at H
    have A59 := Aside0.mk A590
    clear A590
    have H' := Aside0.mk H
    clear H
    have p339 : 0 ≤ (x65_2 : Int) := of_decide_eq_true (by first | (with_reducible assumption) | assumption)
    have q339 : x65_2 < (x6_1.length : Int) := of_decide_eq_true (by first | (with_reducible assumption) | assumption)
    obtain ⟨ad339, A339_0, c339_0, e339, hx339_0, hl339_0, hi339_0⟩ := at_L2 (Kd.S_reads' HO_63.out).2.2 x65_2 p339 q339
    cases e339
    obtain ⟨ce339, hce339, hMe339, hcc339⟩ := Kd.S_get HO_63.out [] x65_2 p339 (by first | exact q339 | exact of_decide_eq_true (by first | (with_reducible assumption) | assumption) | (have e_ := (Kd.S_reads' HO_63.out).1; omega))
    obtain ⟨ve339_0, rfl, ge339_0⟩ := hMe339
    have hv339_0 := hcc339 0 _ rfl
    rw [Nat.add_zero, show ((Kd.slice 29 k29)).sz = 1 from rfl, Nat.mul_one] at hv339_0
    replace hv339_0 := Option.some.inj (hv339_0.symm.trans hx339_0)
    rw [hv339_0] at ge339_0
    have HL339_0 := Aside0.mk (show Kd.R k29 29 _ _ _ _ (rd_L2 x6_1 x65_2) from ge339_0)
    clear hv339_0 ge339_0
    have HX339_0 := Aside0.mk hx339_0
    clear hcc339 hce339
    have HR339_0 := Aside0.mk hi339_0
    have HC339_0 := Aside0.mk hl339_0
    clear hi339_0 hl339_0
    replace p339 := eq_true p339
    replace q339 := eq_true q339
    try go_wp2_with (first | ((with_reducible refine gate_callee (f := 69) rfl ?_); refine gl_ (some 71) Try.func69 #[.slice A339_0 (rd_L2 x6_1 x65_2).length c339_0] rfl rfl rfl ?_; (with_reducible refine (impl_joinPieces.calls k2 _ _ (rd_L2 x6_1 x65_2) t340 t341 t342 true _ ?side1 ?side2 A53.out).mono ?_); (case side1 => repeat (first | exact (by repeat (first | (with_reducible exact HR339_0.out) | (with_reducible refine Kd.C_alloc ?_ _) | (with_reducible refine Kd.C_drewN ?_ _) | (with_reducible refine Kd.C_drew ?_) | exact HR339_0.out)) | (with_reducible refine Kd.C_alloc ?_ _) | (with_reducible refine Kd.C_drewN ?_ _) | (with_reducible refine Kd.C_drew ?_))); (case side2 => exact HC339_0.out); rintro e w60 ⟨rfl, hb⟩; refine ⟨_, rfl, ?_⟩; replace HO_63 := Aside0.mk (Kd.S_below (by (with_reducible repeat (first | apply Kd.S_alloc | apply Kd.S_drewN | apply Kd.S_drew)); exact HO_63.out) hb); replace HO_323003 := Kd.R_b HO_323003 hb; replace HO_323004 := Kd.R_b HO_323004 hb; replace HO_323005 := Kd.R_b HO_323005 hb; replace HL339_0 := Kd.R_b HL339_0 hb; replace BK317 := kb_ BK317 hb; replace BK322 := kb_ BK322 hb; replace HR339_0 := Aside0.mk (Kd.C_below (by repeat (first | (with_reducible exact HR339_0.out) | (with_reducible refine Kd.C_alloc ?_ _) | (with_reducible refine Kd.C_drewN ?_ _) | (with_reducible refine Kd.C_drew ?_) | exact HR339_0.out)) hb); replace HX339_0 := Aside0.mk (pw_cell_below hb HX339_0.out); replace HB := hbs_ HB hb; try clear HR339_0) | ((with_reducible refine gate_dst (N := 15) rfl ?_); refine bv_ 15 (cs := #[.int .i64 0, .int .i64 0, .int .i64 0]) (t := 29) ?_; intro gb344 hg w61 hbox hb; have BK344 := Aside0.mk (hbox); have GW344 := gs_ hg HB; have GE344 := gs_ hg HB; have NB317_344 := nl_ hg BK317; have NB344_317 := ng_ hg BK317; have NB322_344 := nl_ hg BK322; have NB344_322 := ng_ hg BK322; replace HO_63 := Aside0.mk (Kd.S_below (Kd.S_elderB (by (with_reducible repeat (first | apply Kd.S_alloc | apply Kd.S_drewN | apply Kd.S_drew)); exact HO_63.out) gb344 (Nat.le_of_eq hg.symm)) hb); replace HO_323003 := Kd.R_b HO_323003 hb; replace HO_323004 := Kd.R_b HO_323004 hb; replace HO_323005 := Kd.R_b HO_323005 hb; replace HL339_0 := Aside0.mk (Kd.R_below (Kd.R_elderB (Kd.R_p HL339_0) gb344 (Nat.le_of_eq hg.symm)) hb); replace BK317 := kb_ BK317 hb; replace BK322 := kb_ BK322 hb; replace HX339_0 := Aside0.mk (pw_cell_below hb HX339_0.out); replace HB := hbs_ HB hb; clear hb hbox hg; have := NB344_317.out; have := NB317_344.out; have := NB344_322.out; have := NB322_344.out; obtain ⟨hcz64_0, hcz64_1, hcz64_2, hfz64_0, hfz64_1, hfz64_2⟩ := bx3 BK344; have := NB322_317.out; have := NB317_322.out; obtain ⟨hcz66_0, hcz66_1, hcz66_2, hcz66_3, hcz66_4, hcz66_5, hfz66_0, hfz66_1, hfz66_2, hfz66_3, hfz66_4, hfz66_5⟩ := bx6 BK322) | ((with_reducible refine gate_builtin (b := .append) (xs := #[.tmp 78, .tmp 81]) rfl ?_); at_builtin; refine Kd.R_append (Kd.int .i64) (w0 := w) w.heap.size rfl (.tmp 78) (.tmp 81) 24 3 (.int .i64 0) 8 rfl Try.underlying24 info3 rfl (by decide) (by omega) u323003 x323003_2 t340 [.int .i64 t340] (fun k_ => some k_ ≠ (u323004 : Value).ownBlock ∧ some k_ ≠ (u323005 : Value).ownBlock) (fun _ => False) rfl (by first | (go_simp; done) | (go_simp; rfl)) ?aP (fun _ hk => hk.elim) ?aF ?aO ?aB ?aS ?aL ?_; (case aP => exact rfl); (case aB => exact (hb_ HB)); (case aF => exact (fun k_ hk => ⟨Kd.fresh' (Kd.R_lt (Kd.R_s HO_323004 BK344)) k_ hk, Kd.fresh' (Kd.R_lt (Kd.R_s HO_323005 BK344)) k_ hk⟩)); (case aO => exact (Kd.R_mono (Kd.R_s HO_323003 BK344) (fun _ hk => ⟨hk.1, hk.2⟩))); (case aS => exact (below_size (hb_ HB))); (case aL => have := LMc55.out; omega); intro v346 w67 ho hb hg hat; rw [← Ny345.out] at ho; have HO347 := Aside0.mk (ho); replace HO_63 := Aside0.mk (Kd.S_over' (by (with_reducible repeat (first | apply Kd.S_alloc | apply Kd.S_drewN | apply Kd.S_drew)); exact (Kd.S_mono (Kd.S_far (p := ⟨gb344, 2, none⟩) (Kd.S_far (p := ⟨gb344, 1, none⟩) (Kd.S_far (p := ⟨gb344, 0, none⟩) (Kd.S_mono HO_63.out (fun k_ hk => (⟨hk, hk.2⟩ : _ ∧ k_ ≠ gb344))) (fun _ hk => hk.2) (.int .i64 t340)) (fun _ hk => hk.2) (.int .i64 t341)) (fun _ hk => hk.2) (.int .i64 t342)) (fun _ h_ => h_.1))) (Kd.R_typed (Kd.R_s HO_323003 BK344)) (by decide) hg); replace HO_323004 := Aside0.mk (Kd.R_after (ok := (fun k_ => some k_ ≠ (u323005 : Value).ownBlock)) (Kd.R_mono (Kd.R_s HO_323004 BK344) (fun _ hk => ⟨hk.2, hk.1⟩)) hg hat); replace HO_323005 := Aside0.mk (Kd.R_after (ok := (fun k_ => some k_ ≠ (u323004 : Value).ownBlock)) (Kd.R_mono (Kd.R_s HO_323005 BK344) (fun _ hk => ⟨hk.2, hk.1⟩)) hg hat); replace BK317 := Aside0.mk (blk_grown (kf_ BK317 NB317_344) hg (Kd.R_ne HO_323003.out BK317.out (by decide))); replace BK322 := Aside0.mk (blk_grown (kf_ BK322 NB322_344) hg (Kd.R_ne HO_323003.out BK322.out (by decide))); replace HL339_0 := Aside0.mk (Kd.R_over' (rq_ (h := rf_ (rf_ (rf_ HL339_0.out)))) (Kd.R_typed (Kd.R_s HO_323003 BK344)) (by decide) hg); replace HB := Aside0.mk (hb); replace BK344 := Aside0.mk (blk_grown (g := gb344) (o := .cells #[.int .i64 t340, .int .i64 t341, .int .i64 t342] 29 (0, 0)) (kpq_ (kputs BK344 [(0, _), (1, _), (2, _)])) hg (Kd.R_ne HO_323003.out BK344.out (by decide))); clear HO_323003; clear ho hb hg hat; obtain ⟨Ao68, co68, eo68⟩ := Kd.R_slice HO347.out; subst eo68; obtain ⟨hcz69_0, hcz69_1, hcz69_2, hcz69_3, hcz69_4, hcz69_5, hfz69_0, hfz69_1, hfz69_2, hfz69_3, hfz69_4, hfz69_5⟩ := bx6 BK322))
    have n0_ : Aside0 (Kd.S (Kd.slice 29 k29) 42 (w67.setCell ⟨gb322, 3, none⟩ (.slice Ao68 y345.length co68)) w.heap.size (fun k_ => k_ ≠ gb344) (.slice (some ad339) x6_1.length co49) x6_1) := ⟨by (with_reducible repeat (first | apply Kd.S_alloc | apply Kd.S_drewN | apply Kd.S_drew)); exact Kd.S_mono (Kd.S_far (p := ⟨gb322, 3, none⟩) (Kd.S_types HO_63.out BK322.out (by decide)) (fun _ hk => hk.2) (.slice Ao68 y345.length co68)) (fun _ hk => hk.1.2)⟩
    have n1_ : Aside0 (Kd.R (Kd.int .i64) 3 (w67.setCell ⟨gb322, 3, none⟩ (.slice Ao68 y345.length co68)) w.heap.size (fun k_ => some k_ ≠ (u323005 : Value).ownBlock ∧ some k_ ≠ (.slice Ao68 y345.length co68 : Value).ownBlock) u323004 x323004_2) := ⟨Kd.R_mono (Kd.R_s HO_323004 BK322) (fun _ hk => ⟨hk.1, hk.2⟩)⟩
    have n2_ : Aside0 (Kd.R (Kd.int .i64) 3 (w67.setCell ⟨gb322, 3, none⟩ (.slice Ao68 y345.length co68)) w.heap.size (fun k_ => some k_ ≠ (u323004 : Value).ownBlock ∧ some k_ ≠ (.slice Ao68 y345.length co68 : Value).ownBlock) u323005 x323005_2) := ⟨Kd.R_mono (Kd.R_s HO_323005 BK322) (fun _ hk => ⟨hk.1, hk.2⟩)⟩
    have n3_ : Aside0 (Kd.R k29 29 (w67.setCell ⟨gb322, 3, none⟩ (.slice Ao68 y345.length co68)) w.heap.size (fun k_ => some k_ ≠ (.slice (some ad339) x6_1.length co49 : Value).ownBlock ∧ k_ ≠ gb344) (.slice A339_0 (rd_L2 x6_1 x65_2).length c339_0) (rd_L2 x6_1 x65_2)) := ⟨Kd.R_mono (Kd.R_s HL339_0 BK322) (fun _ hk => ⟨hk.1.2, hk.2⟩)⟩
    have n4_ : Aside0 (Kd.R (Kd.int .i64) 3 (w67.setCell ⟨gb322, 3, none⟩ (.slice Ao68 y345.length co68)) w.heap.size (fun k_ => some k_ ≠ (u323004 : Value).ownBlock ∧ some k_ ≠ (u323005 : Value).ownBlock) (.slice Ao68 y345.length co68) y345) := ⟨Kd.R_mono (Kd.R_s HO347 BK322) (fun _ hk => ⟨hk.1, hk.2⟩)⟩
    have n5_ : Aside0 ((w67.setCell ⟨gb322, 3, none⟩ (.slice Ao68 y345.length co68)).heap[gb317]? = some (.cells #[.int .i64 x318000_2, .int .i64 x318001_2, .int .i64 x318002_2, .slice none 0 0, .slice none 0 0, .slice none 0 0] 34 (0, 0))) := ⟨kf_ BK317 NB317_322⟩
    have n6_ : Aside0 ((w67.setCell ⟨gb322, 3, none⟩ (.slice Ao68 y345.length co68)).heap[gb322]? = some (.cells #[.int .i64 t319, .int .i64 t320, .int .i64 t321, .slice Ao68 y345.length co68, u323004, u323005] 34 (0, 0))) := ⟨kpq_ (kputs BK322 [(3, _)])⟩
    have n7_ : Aside0 ((w67.setCell ⟨gb322, 3, none⟩ (.slice Ao68 y345.length co68)).heap[gb344]? = some (.cells #[.int .i64 t340, .int .i64 t341, .int .i64 t342] 29 (0, 0))) := ⟨kf_ BK344 NB344_322⟩
    have n8_ : Aside0 (Below w.heap.size w (w67.setCell ⟨gb322, 3, none⟩ (.slice Ao68 y345.length co68))) := ⟨hb_ HB⟩
    generalize (w67.setCell ⟨gb322, 3, none⟩ (.slice Ao68 y345.length co68)) = w70 at n0_ n1_ n2_ n3_ n4_ n5_ n6_ n7_ n8_ ⊢
    have HO_63 := n0_
    have HO_323004 := n1_
    have HO_323005 := n2_
    have HL339_0 := n3_
    have HO347 := n4_
    have BK317 := n5_
    have BK322 := n6_
    have BK344 := n7_
    have HB := n8_
    clear n0_ n1_ n2_ n3_ n4_ n5_ n6_ n7_ n8_
    replace HO_63 := Aside0.mk (Kd.S_drew HO_63.out)
    replace HO_323004 := Aside0.mk (Kd.R_drew HO_323004.out)
    replace HO_323005 := Aside0.mk (Kd.R_drew HO_323005.out)
    replace HL339_0 := Aside0.mk (Kd.R_drew HL339_0.out)
    replace HO347 := Aside0.mk (Kd.R_drew HO347.out)
    replace BK317 := Aside0.mk (blk_drew BK317.out)
    replace BK322 := Aside0.mk (blk_drew BK322.out)
    replace BK344 := Aside0.mk (blk_drew BK344.out)
    replace HB := Aside0.mk (below_drew1 HB.out)
    refine start_ (n := 8) (S := fun w' => w'.cell? ⟨gb322, 0, none⟩ = some (.int .i64 t319) ∧ w'.cell? ⟨gb322, 1, none⟩ = some (.int .i64 t320) ∧ w'.cell? ⟨gb322, 2, none⟩ = some (.int .i64 t321) ∧ w'.cell? ⟨gb322, 3, none⟩ = some (.slice Ao68 y345.length co68) ∧ w'.cell? ⟨gb322, 4, none⟩ = some (u323004) ∧ w'.cell? ⟨gb322, 5, none⟩ = some (u323005) ∧ w'.cell? ⟨gb344, 0, none⟩ = some (.int .i64 t340) ∧ w'.cell? ⟨gb344, 1, none⟩ = some (.int .i64 t341) ∧ w'.cell? ⟨gb344, 2, none⟩ = some (.int .i64 t342)) (ds := [7]) (bb 8 0) (by kernel_rfl) rfl rfl ⟨(blk_cell BK322.out 0).trans rfl, (blk_cell BK322.out 1).trans rfl, (blk_cell BK322.out 2).trans rfl, (blk_cell BK322.out 3).trans rfl, (blk_cell BK322.out 4).trans rfl, (blk_cell BK322.out 5).trans rfl, (blk_cell BK344.out 0).trans rfl, (blk_cell BK344.out 1).trans rfl, (blk_cell BK344.out 2).trans rfl⟩ (fun hHeld => ?_); refine with_tabW impl_CoarseModel.tab21 impl_CoarseModel.bits21 (fun HT_ HW_ => ?_)
    generalize w70.drew = w71 at HO_63 HO_323004 HO_323005 HL339_0 HO347 BK317 BK322 BK344 HB hHeld ⊢
    refine pl_ HT_ 0 (some 84) (bb 8 1) (h := ?_)
    refine tk_ HT_ HW_ hHeld 1 (some 85) (bb 8 3) (h := ?_)
    refine tk_ HT_ HW_ hHeld 2 (some 86) (bb 8 7) (h := ?_)
    refine one_ (i := 3) (N := some 87) (bb 8 15) rfl rfl (one_of HT_.out (by kernel_rfl)) (by decide) (fun K hK => ?_)
    refine goes_ Try.func84 (by kernel_rfl) rfl #[.agg #[.int .i64 t340, .int .i64 t341, .int .i64 t342]] (by rfl) rfl rfl (by (try simp only [List.map_toArray, List.map_cons, List.map_nil]); first | done | rfl | (simp only [List.length_drop, List.length_take]; rfl)) ?_
    with_reducible refine (impl_roundedGrade.calls t340 t341 t342 t348 _ A56.out).mono ?_
    rintro e w72 ⟨rfl, hb⟩
    refine ⟨_, rfl, ?_⟩
    replace HO_63 := Aside0.mk (Kd.S_below (by (with_reducible repeat (first | apply Kd.S_alloc | apply Kd.S_drewN | apply Kd.S_drew)); exact HO_63.out) hb)
    replace HO_323004 := Aside0.mk (Kd.R_below (Kd.R_p HO_323004) hb)
    replace HO_323005 := Aside0.mk (Kd.R_below (Kd.R_p HO_323005) hb)
    replace HL339_0 := Aside0.mk (Kd.R_below (Kd.R_p HL339_0) hb)
    replace HO347 := Aside0.mk (Kd.R_below (Kd.R_p HO347) hb)
    replace BK317 := Aside0.mk (blk_below (kp_ BK317) hb)
    replace BK322 := Aside0.mk (blk_below (kp_ BK322) hb)
    replace BK344 := Aside0.mk (blk_below (kp_ BK344) hb)
    replace HB := Aside0.mk (below_step (hb_ HB) hb)
    refine hK.out _ _ ⟨(blk_cell BK322.out 0).trans rfl, (blk_cell BK322.out 1).trans rfl, (blk_cell BK322.out 2).trans rfl, (blk_cell BK322.out 3).trans rfl, (blk_cell BK322.out 4).trans rfl, (blk_cell BK322.out 5).trans rfl, (blk_cell BK344.out 0).trans rfl, (blk_cell BK344.out 1).trans rfl, (blk_cell BK344.out 2).trans rfl⟩ (fun hHeld => ?_)
    clear hK K
    refine nm_ (some 87) (h := ?_)
    refine one_ (i := 4) (N := some 88) (bb 8 31) rfl rfl (one_of HT_.out (by kernel_rfl)) (by decide) (fun K hK => ?_)
    refine value_ (w1 := ?_) (v := ?_) (by rfl) rfl ?_ ?_
    rotate_left 2
    ·go_simp
     constructor
     ·rfl
     rfl
    refine hK.out _ _ ⟨(blk_cell (blk_alloc BK322.out _) 0).trans rfl, (blk_cell (blk_alloc BK322.out _) 1).trans rfl, (blk_cell (blk_alloc BK322.out _) 2).trans rfl, (blk_cell (blk_alloc BK322.out _) 3).trans rfl, (blk_cell (blk_alloc BK322.out _) 4).trans rfl, (blk_cell (blk_alloc BK322.out _) 5).trans rfl, (blk_cell (blk_alloc BK344.out _) 0).trans rfl, (blk_cell (blk_alloc BK344.out _) 1).trans rfl, (blk_cell (blk_alloc BK344.out _) 2).trans rfl⟩ (fun hHeld => ?_)
    clear hK K
    refine nm_ (some 88) (h := ?_)
    refine one_ (i := 5) (N := some 89) (bb 8 63) rfl rfl (one_of HT_.out (by kernel_rfl)) (by decide) (fun K hK => ?_)
    refine Kd.R_append_step (Kd.int .i64) (w0 := w) w.heap.size (by rfl) (.tmp 85) (.tmp 88) 24 3 (.int .i64 0) 8 rfl Try.underlying24 info3 rfl (by decide) (by omega) u323004 x323004_2 t348 [.int .i64 t348] (fun k_ => some k_ ≠ (u323005 : Value).ownBlock ∧ some k_ ≠ (.slice Ao68 y345.length co68 : Value).ownBlock) (fun _ => False) rfl rfl ?aP (fun _ hk => hk.elim) ?aF ?aO ?aB ?aS ?aL ?_
    (case aP => exact rfl)
    (case aB => exact (hb_ HB))
    (case aF => exact (fun k_ hk => ⟨Kd.fresh' (Kd.R_lt (Kd.R_p HO_323005)) k_ hk, Kd.fresh' (Kd.R_lt (Kd.R_p HO347)) k_ hk⟩))
    (case aO => exact (Kd.R_p HO_323004))
    (case aS => exact (below_size (hb_ HB)))
    (case aL => have := LMc57.out; omega)
    intro v350 w73 ho hb hg hat
    rw [← Ny349.out] at ho
    replace HO_63 := Aside0.mk (Kd.S_over' (by (with_reducible repeat (first | apply Kd.S_alloc | apply Kd.S_drewN | apply Kd.S_drew)); exact HO_63.out) (Kd.R_typed (Kd.R_p HO_323004)) (by decide) hg)
    replace HO_323005 := Aside0.mk (Kd.R_after (ok := (fun k_ => some k_ ≠ (.slice Ao68 y345.length co68 : Value).ownBlock)) (rm_ (h := HO_323005.out)) hg hat)
    replace BK317 := Aside0.mk (blk_grown (kp_ BK317) hg (Kd.R_ne HO_323004.out BK317.out (by decide)))
    replace BK322 := Aside0.mk (blk_grown (kp_ BK322) hg (Kd.R_ne HO_323004.out BK322.out (by decide)))
    replace HL339_0 := Aside0.mk (Kd.R_over' (Kd.R_p HL339_0) (Kd.R_typed (Kd.R_p HO_323004)) (by decide) hg)
    replace BK344 := Aside0.mk (blk_grown (kp_ BK344) hg (Kd.R_ne HO_323004.out BK344.out (by decide)))
    replace HO347 := Aside0.mk (Kd.R_after (ok := (fun k_ => some k_ ≠ (u323005 : Value).ownBlock)) (rm_ (h := HO347.out)) hg hat)
    replace HB := Aside0.mk (hb)
    have HO351 := Aside0.mk (ho)
    clear HO_323004
    clear ho hb hg hat
    obtain ⟨Ao74, co74, eo74⟩ := Kd.R_slice HO351.out
    (first | subst eo74 | (injection eo74 with f1_ f2_ f3_; have f4_ := f1_.symm; have f5_ := f3_.symm; clear f1_ f2_ f3_; subst f4_; subst f5_))
    refine hK.out _ _ ⟨(blk_cell BK322.out 0).trans rfl, (blk_cell BK322.out 1).trans rfl, (blk_cell BK322.out 2).trans rfl, (blk_cell BK322.out 3).trans rfl, (blk_cell BK322.out 4).trans rfl, (blk_cell BK322.out 5).trans rfl, (blk_cell BK344.out 0).trans rfl, (blk_cell BK344.out 1).trans rfl, (blk_cell BK344.out 2).trans rfl⟩ (fun hHeld => ?_)
    clear hK K
    refine nm_ (some 89) (h := ?_)
    refine pl_ HT_ 6 (some 90) (bb 8 127) (h := ?_)
    refine last_ (i := 7) (N := none) (bb 8 255) rfl rfl (one_of HT_.out (by kernel_rfl)) (by decide) (fun K hK => ?_)
    have hs75 : w73.cell? ⟨gb322, 4, none⟩ = some (u323004) := (blk_cell BK322.out 4).trans rfl
    have hfs75 := blk_frozen BK322.out 4
    have hns75_0 := NB317_322.out
    have hns75_2 := NB344_322.out
    have hms75_0 := NB322_317.out
    have hms75_2 := NB322_344.out
    refine skip_ (w1 := ?_) (by rfl) rfl ?_ ?_
    rotate_left
    ·go_simp
     rfl
    refine hK.out _ _ ?_
    clear hK K
    refine done_ (done_of HT_.out (by kernel_rfl)) ?_
    obtain ⟨hcz76_0, hcz76_1, hcz76_2, hcz76_3, hcz76_4, hcz76_5, hfz76_0, hfz76_1, hfz76_2, hfz76_3, hfz76_4, hfz76_5⟩ := bx6 BK322
    obtain ⟨hcz77_0, hcz77_1, hcz77_2, hfz77_0, hfz77_1, hfz77_2⟩ := bx3 BK344
    try go_wp2_with (first | ((with_reducible refine gate_builtin (b := .append) (xs := #[.tmp 92, .tmp 95]) rfl ?_); at_builtin; refine Kd.R_append (Kd.int .i64) (w0 := w) w.heap.size rfl (.tmp 92) (.tmp 95) 24 3 (.int .i64 0) 8 rfl Try.underlying24 info3 rfl (by decide) (by omega) u323005 x323005_2 t342 [.int .i64 t342] (fun k_ => some k_ ≠ (.slice Ao68 y345.length co68 : Value).ownBlock ∧ some k_ ≠ (.slice Ao74 y349.length co74 : Value).ownBlock) (fun _ => False) rfl (by first | (go_simp; done) | (go_simp; rfl)) ?aP (fun _ hk => hk.elim) ?aF ?aO ?aB ?aS ?aL ?_; (case aP => exact rfl); (case aB => exact (hb_ HB)); (case aF => exact (fun k_ hk => ⟨Kd.fresh' (Kd.R_lt (Kd.R_s HO347 BK322)) k_ hk, Kd.fresh' (Kd.R_lt (Kd.R_s HO351 BK322)) k_ hk⟩)); (case aO => exact (Kd.R_mono (Kd.R_s HO_323005 BK322) (fun _ hk => ⟨hk.1, hk.2⟩))); (case aS => exact (below_size (hb_ HB))); (case aL => have := LMc58.out; omega); intro v353 w78 ho hb hg hat; rw [← Ny352.out] at ho; have HO354 := Aside0.mk (ho); replace HO_63 := Aside0.mk (Kd.S_over' (by (with_reducible repeat (first | apply Kd.S_alloc | apply Kd.S_drewN | apply Kd.S_drew)); exact (Kd.S_mono (Kd.S_far (p := ⟨gb322, 4, none⟩) (Kd.S_types HO_63.out BK322.out (by decide)) (fun _ hk => hk.2) (.slice Ao74 y349.length co74)) (fun _ h_ => h_.1))) (Kd.R_typed (Kd.R_s HO_323005 BK322)) (by decide) hg); replace BK317 := Aside0.mk (blk_grown (kf_ BK317 NB317_322) hg (Kd.R_ne HO_323005.out BK317.out (by decide))); replace HL339_0 := Aside0.mk (Kd.R_over' (Kd.R_s HL339_0 BK322) (Kd.R_typed (Kd.R_s HO_323005 BK322)) (by decide) hg); replace BK344 := Aside0.mk (blk_grown (kf_ BK344 NB344_322) hg (Kd.R_ne HO_323005.out BK344.out (by decide))); replace HO347 := Aside0.mk (Kd.R_after (ok := (fun k_ => some k_ ≠ (.slice Ao74 y349.length co74 : Value).ownBlock)) (Kd.R_mono (Kd.R_s HO347 BK322) (fun _ hk => ⟨hk.2, hk.1⟩)) hg hat); replace HO351 := Aside0.mk (Kd.R_after (ok := (fun k_ => some k_ ≠ (.slice Ao68 y345.length co68 : Value).ownBlock)) (Kd.R_mono (Kd.R_s HO351 BK322) (fun _ hk => ⟨hk.2, hk.1⟩)) hg hat); replace HB := Aside0.mk (hb); replace BK322 := Aside0.mk (blk_grown (g := gb322) (o := .cells #[.int .i64 t319, .int .i64 t320, .int .i64 t321, .slice Ao68 y345.length co68, .slice Ao74 y349.length co74, u323005] 34 (0, 0)) (kpq_ (kputs BK322 [(4, _)])) hg (Kd.R_ne HO_323005.out BK322.out (by decide))); clear HO_323005; clear ho hb hg hat; obtain ⟨Ao79, co79, eo79⟩ := Kd.R_slice HO354.out; subst eo79; obtain ⟨hcz80_0, hcz80_1, hcz80_2, hcz80_3, hcz80_4, hcz80_5, hfz80_0, hfz80_1, hfz80_2, hfz80_3, hfz80_4, hfz80_5⟩ := bx6 BK322))
    have n0_ : Aside0 (Kd.S (Kd.slice 29 k29) 42 (w78.setCell ⟨gb322, 5, none⟩ (.slice Ao79 y352.length co79)) w.heap.size (fun k_ => k_ ≠ gb344) (.slice (some ad339) x6_1.length co49) x6_1) := ⟨by (with_reducible repeat (first | apply Kd.S_alloc | apply Kd.S_drewN | apply Kd.S_drew)); exact Kd.S_mono (Kd.S_far (p := ⟨gb322, 5, none⟩) (Kd.S_types HO_63.out BK322.out (by decide)) (fun _ hk => hk.2) (.slice Ao79 y352.length co79)) (fun _ hk => hk.1)⟩
    have n1_ : Aside0 (Kd.R k29 29 (w78.setCell ⟨gb322, 5, none⟩ (.slice Ao79 y352.length co79)) w.heap.size (fun k_ => some k_ ≠ (.slice (some ad339) x6_1.length co49 : Value).ownBlock ∧ k_ ≠ gb344) (.slice A339_0 (rd_L2 x6_1 x65_2).length c339_0) (rd_L2 x6_1 x65_2)) := ⟨Kd.R_mono (Kd.R_s HL339_0 BK322) (fun _ hk => ⟨hk.1, hk.2⟩)⟩
    have n2_ : Aside0 (Kd.R (Kd.int .i64) 3 (w78.setCell ⟨gb322, 5, none⟩ (.slice Ao79 y352.length co79)) w.heap.size (fun k_ => some k_ ≠ (.slice Ao74 y349.length co74 : Value).ownBlock ∧ some k_ ≠ (.slice Ao79 y352.length co79 : Value).ownBlock) (.slice Ao68 y345.length co68) y345) := ⟨Kd.R_mono (Kd.R_s HO347 BK322) (fun _ hk => ⟨hk.1, hk.2⟩)⟩
    have n3_ : Aside0 (Kd.R (Kd.int .i64) 3 (w78.setCell ⟨gb322, 5, none⟩ (.slice Ao79 y352.length co79)) w.heap.size (fun k_ => some k_ ≠ (.slice Ao68 y345.length co68 : Value).ownBlock ∧ some k_ ≠ (.slice Ao79 y352.length co79 : Value).ownBlock) (.slice Ao74 y349.length co74) y349) := ⟨Kd.R_mono (Kd.R_s HO351 BK322) (fun _ hk => ⟨hk.1, hk.2⟩)⟩
    have n4_ : Aside0 (Kd.R (Kd.int .i64) 3 (w78.setCell ⟨gb322, 5, none⟩ (.slice Ao79 y352.length co79)) w.heap.size (fun k_ => some k_ ≠ (.slice Ao68 y345.length co68 : Value).ownBlock ∧ some k_ ≠ (.slice Ao74 y349.length co74 : Value).ownBlock) (.slice Ao79 y352.length co79) y352) := ⟨Kd.R_mono (Kd.R_s HO354 BK322) (fun _ hk => ⟨hk.1, hk.2⟩)⟩
    have n5_ : Aside0 ((w78.setCell ⟨gb322, 5, none⟩ (.slice Ao79 y352.length co79)).heap[gb317]? = some (.cells #[.int .i64 x318000_2, .int .i64 x318001_2, .int .i64 x318002_2, .slice none 0 0, .slice none 0 0, .slice none 0 0] 34 (0, 0))) := ⟨kf_ BK317 NB317_322⟩
    have n6_ : Aside0 ((w78.setCell ⟨gb322, 5, none⟩ (.slice Ao79 y352.length co79)).heap[gb322]? = some (.cells #[.int .i64 t319, .int .i64 t320, .int .i64 t321, .slice Ao68 y345.length co68, .slice Ao74 y349.length co74, .slice Ao79 y352.length co79] 34 (0, 0))) := ⟨kpq_ (kputs BK322 [(5, _)])⟩
    have n7_ : Aside0 ((w78.setCell ⟨gb322, 5, none⟩ (.slice Ao79 y352.length co79)).heap[gb344]? = some (.cells #[.int .i64 t340, .int .i64 t341, .int .i64 t342] 29 (0, 0))) := ⟨kf_ BK344 NB344_322⟩
    have n8_ : Aside0 (Below w.heap.size w (w78.setCell ⟨gb322, 5, none⟩ (.slice Ao79 y352.length co79))) := ⟨hb_ HB⟩
    generalize (w78.setCell ⟨gb322, 5, none⟩ (.slice Ao79 y352.length co79)) = w81 at n0_ n1_ n2_ n3_ n4_ n5_ n6_ n7_ n8_ ⊢
    have HO_63 := n0_
    have HL339_0 := n1_
    have HO347 := n2_
    have HO351 := n3_
    have HO354 := n4_
    have BK317 := n5_
    have BK322 := n6_
    have BK344 := n7_
    have HB := n8_
    clear n0_ n1_ n2_ n3_ n4_ n5_ n6_ n7_ n8_
    replace HO_63 := Aside0.mk (Kd.S_drew HO_63.out)
    replace HL339_0 := Aside0.mk (Kd.R_drew HL339_0.out)
    replace HO347 := Aside0.mk (Kd.R_drew HO347.out)
    replace HO351 := Aside0.mk (Kd.R_drew HO351.out)
    replace HO354 := Aside0.mk (Kd.R_drew HO354.out)
    replace BK317 := Aside0.mk (blk_drew BK317.out)
    replace BK322 := Aside0.mk (blk_drew BK322.out)
    replace BK344 := Aside0.mk (blk_drew BK344.out)
    replace HB := Aside0.mk (below_drew1 HB.out)
    refine start_ (n := 8) (S := fun w' => w'.cell? ⟨gb344, 0, none⟩ = some (.int .i64 t340) ∧ w'.cell? ⟨gb344, 1, none⟩ = some (.int .i64 t341) ∧ w'.cell? ⟨gb344, 2, none⟩ = some (.int .i64 t342)) (ds := []) (bb 8 0) (by kernel_rfl) rfl rfl ⟨(blk_cell BK344.out 0).trans rfl, (blk_cell BK344.out 1).trans rfl, (blk_cell BK344.out 2).trans rfl⟩ (fun hHeld => ?_); refine with_tabW impl_CoarseModel.tab23 impl_CoarseModel.bits23 (fun HT_ HW_ => ?_)
    generalize w81.drew = w82 at HO_63 HL339_0 HO347 HO351 HO354 BK317 BK322 BK344 HB hHeld ⊢
    refine pl_ HT_ 0 (some 98) (bb 8 1) (h := ?_)
    refine pl_ HT_ 1 (some 99) (bb 8 3) (h := ?_)
    refine tk_ HT_ HW_ hHeld 2 (some 100) (bb 8 7) (h := ?_)
    refine tk_ HT_ HW_ hHeld 3 (some 101) (bb 8 15) (h := ?_)
    refine one_ (i := 4) (N := some 102) (bb 8 31) rfl rfl (one_of HT_.out (by kernel_rfl)) (by decide) (fun K hK => ?_)
    refine goes_ Try.func84 (by kernel_rfl) rfl #[.agg #[.int .i64 t340, .int .i64 t341, .int .i64 t342]] (by rfl) rfl rfl (by (try simp only [List.map_toArray, List.map_cons, List.map_nil]); first | done | rfl | (simp only [List.length_drop, List.length_take]; rfl)) ?_
    with_reducible refine (impl_roundedGrade.calls t340 t341 t342 t355 _ A59.out).mono ?_
    rintro e w83 ⟨rfl, hb⟩
    refine ⟨_, rfl, ?_⟩
    replace HO_63 := Aside0.mk (Kd.S_below (by (with_reducible repeat (first | apply Kd.S_alloc | apply Kd.S_drewN | apply Kd.S_drew)); exact HO_63.out) hb)
    replace HL339_0 := Aside0.mk (Kd.R_below (Kd.R_p HL339_0) hb)
    replace HO347 := Aside0.mk (Kd.R_below (Kd.R_p HO347) hb)
    replace HO351 := Aside0.mk (Kd.R_below (Kd.R_p HO351) hb)
    replace HO354 := Aside0.mk (Kd.R_below (Kd.R_p HO354) hb)
    replace BK317 := Aside0.mk (blk_below (kp_ BK317) hb)
    replace BK322 := Aside0.mk (blk_below (kp_ BK322) hb)
    replace BK344 := Aside0.mk (blk_below (kp_ BK344) hb)
    replace HB := Aside0.mk (below_step (hb_ HB) hb)
    refine hK.out _ _ ⟨(blk_cell BK344.out 0).trans rfl, (blk_cell BK344.out 1).trans rfl, (blk_cell BK344.out 2).trans rfl⟩ (fun hHeld => ?_)
    clear hK K
    refine nm_ (some 102) (h := ?_)
    refine pl_ HT_ 5 (some 103) (bb 8 63) (h := ?_)
    refine pl_ HT_ 6 (some 104) (bb 8 127) (h := ?_)
    refine pl_ HT_ 7 (some 7) (bb 8 255) (h := ?_)
    refine done_ (done_of HT_.out (by kernel_rfl)) ?_
    try go_wp2
    go_roundg k2
    case measure => have := HK1.out; have := HK2.out; omega
    case rel => exact ⟨(wrap64 (x7_2 + (wrap64 (t340 * t355)))), (wrap64 (x65_2 + 1)), (x318000_2), (x318001_2), (x318002_2), (y345), (y349), (y352), (.slice Ao68 y345.length co68), (.slice Ao74 y349.length co74), (.slice Ao79 y352.length co79), (by first | rfl | (simp; done) | (simp [*]; done)), (by first | rfl | (simp; done) | (simp [*]; done)), H', ⟨by have := HK1.out; have := HK2.out; omega⟩, ⟨by (with_reducible repeat (first | apply Kd.S_alloc | apply Kd.S_drewN | apply Kd.S_drew)); exact Kd.S_mono HO_63.out (fun _ hk => trivial)⟩, ⟨Kd.R_p HO347⟩, ⟨Kd.R_p HO351⟩, ⟨Kd.R_p HO354⟩, ⟨kp_ BK317⟩, ⟨kp_ BK322⟩, ⟨hb_ HB⟩⟩
   replace c54 := Bool.eq_false_iff.mpr c54
   subst c54
   rw [if_neg (show ¬ (false = true) by decide)] at H
   simp only [Option.some.injEq, Prod.mk.injEq] at H
   obtain ⟨rfl, rfl, rfl, rfl, rfl, rfl, rfl, rfl⟩ := H
   have p339 : 0 ≤ (x65_2 : Int) := of_decide_eq_true (by first | (with_reducible assumption) | assumption)
   have q339 : x65_2 < (x6_1.length : Int) := of_decide_eq_true (by first | (with_reducible assumption) | assumption)
   obtain ⟨ad339, A339_0, c339_0, e339, hx339_0, hl339_0, hi339_0⟩ := at_L2 (Kd.S_reads' HO_63.out).2.2 x65_2 p339 q339
   cases e339
   obtain ⟨ce339, hce339, hMe339, hcc339⟩ := Kd.S_get HO_63.out [] x65_2 p339 (by first | exact q339 | exact of_decide_eq_true (by first | (with_reducible assumption) | assumption) | (have e_ := (Kd.S_reads' HO_63.out).1; omega))
   obtain ⟨ve339_0, rfl, ge339_0⟩ := hMe339
   have hv339_0 := hcc339 0 _ rfl
   rw [Nat.add_zero, show ((Kd.slice 29 k29)).sz = 1 from rfl, Nat.mul_one] at hv339_0
   replace hv339_0 := Option.some.inj (hv339_0.symm.trans hx339_0)
   rw [hv339_0] at ge339_0
   have HL339_0 := Aside0.mk (show Kd.R k29 29 _ _ _ _ (rd_L2 x6_1 x65_2) from ge339_0)
   clear hv339_0 ge339_0
   have HX339_0 := Aside0.mk hx339_0
   clear hcc339 hce339
   have HR339_0 := Aside0.mk hi339_0
   have HC339_0 := Aside0.mk hl339_0
   clear hi339_0 hl339_0
   replace p339 := eq_true p339
   replace q339 := eq_true q339
   go_wp2_with (first | ((with_reducible refine gate_callee (f := 69) rfl ?_); refine gl_ (some 71) Try.func69 #[.slice A339_0 (rd_L2 x6_1 x65_2).length c339_0] rfl rfl rfl ?_; (with_reducible refine (impl_joinPieces.calls k2 _ _ (rd_L2 x6_1 x65_2) t340 t341 t342 false _ ?side1 ?side2 A53.out).mono ?_); (case side1 => repeat (first | exact (by repeat (first | (with_reducible exact HR339_0.out) | (with_reducible refine Kd.C_alloc ?_ _) | (with_reducible refine Kd.C_drewN ?_ _) | (with_reducible refine Kd.C_drew ?_) | exact HR339_0.out)) | (with_reducible refine Kd.C_alloc ?_ _) | (with_reducible refine Kd.C_drewN ?_ _) | (with_reducible refine Kd.C_drew ?_))); (case side2 => exact HC339_0.out); rintro e w84 ⟨rfl, hb⟩; refine ⟨_, rfl, ?_⟩; replace HO_63 := Aside0.mk (Kd.S_below (by (with_reducible repeat (first | apply Kd.S_alloc | apply Kd.S_drewN | apply Kd.S_drew)); exact HO_63.out) hb); replace HO_323003 := Kd.R_b HO_323003 hb; replace HO_323004 := Kd.R_b HO_323004 hb; replace HO_323005 := Kd.R_b HO_323005 hb; replace HL339_0 := Kd.R_b HL339_0 hb; replace BK317 := kb_ BK317 hb; replace HR339_0 := Aside0.mk (Kd.C_below (by repeat (first | (with_reducible exact HR339_0.out) | (with_reducible refine Kd.C_alloc ?_ _) | (with_reducible refine Kd.C_drewN ?_ _) | (with_reducible refine Kd.C_drew ?_) | exact HR339_0.out)) hb); replace HX339_0 := Aside0.mk (pw_cell_below hb HX339_0.out); replace HB := hbs_ HB hb; try clear HR339_0) | ((with_reducible refine gate_dst (N := 15) rfl ?_); refine bv_ 15 (cs := #[.int .i64 0, .int .i64 0, .int .i64 0]) (t := 29) ?_; intro gb344 hg w85 hbox hb; have BK344 := Aside0.mk (hbox); have GW344 := gs_ hg HB; have GE344 := gs_ hg HB; have NB317_344 := nl_ hg BK317; have NB344_317 := ng_ hg BK317; replace HO_63 := Aside0.mk (Kd.S_below (Kd.S_elderB (by (with_reducible repeat (first | apply Kd.S_alloc | apply Kd.S_drewN | apply Kd.S_drew)); exact HO_63.out) gb344 (Nat.le_of_eq hg.symm)) hb); replace HO_323003 := Kd.R_b HO_323003 hb; replace HO_323004 := Kd.R_b HO_323004 hb; replace HO_323005 := Kd.R_b HO_323005 hb; replace HL339_0 := Aside0.mk (Kd.R_below (Kd.R_elderB (Kd.R_p HL339_0) gb344 (Nat.le_of_eq hg.symm)) hb); replace BK317 := kb_ BK317 hb; replace HX339_0 := Aside0.mk (pw_cell_below hb HX339_0.out); replace HB := hbs_ HB hb; clear hb hbox hg; have := NB344_317.out; have := NB317_344.out; obtain ⟨hcz87_0, hcz87_1, hcz87_2, hfz87_0, hfz87_1, hfz87_2⟩ := bx3 BK344; obtain ⟨hcz88_0, hcz88_1, hcz88_2, hcz88_3, hcz88_4, hcz88_5, hfz88_0, hfz88_1, hfz88_2, hfz88_3, hfz88_4, hfz88_5⟩ := bx6 BK317))
   refine bodyPost_ret (results_ctt rfl _ _ gb317 34 #[.int .i64 0, .int .i64 0, .int .i64 0, .slice none 0 0, .slice none 0 0, .slice none 0 0] (0, 0) _ rfl (kq_ (h := bp_ (h := bp_ (h := bp_ (h := bp_ (h := bp_ (h := bp_ (h := bf_ (hn := NB317_344) (h := bf_ (hn := NB317_344) (h := bf_ (hn := NB317_344) (h := BK317.out))))))))))) Try.underlying34 rfl (by kernel_rfl)) rfl ?_
   exact ⟨_, _, _, by first | rfl | (simp [errW_none, errW_some] <;> rfl) | (simp [*, errW_none, errW_some] <;> rfl), by first | exact Kd.R_nil _ _ _ _ _ | exact Kd.N_nil _ _ _ _ _ | exact Kd.V_nil _ _ _ _ _ | exact Kd.Q_nil _ _ _ _ _ | exact Kd.S_nil _ _ _ _ _, by first | exact Kd.R_nil _ _ _ _ _ | exact Kd.N_nil _ _ _ _ _ | exact Kd.V_nil _ _ _ _ _ | exact Kd.Q_nil _ _ _ _ _ | exact Kd.S_nil _ _ _ _ _, by first | exact Kd.R_nil _ _ _ _ _ | exact Kd.N_nil _ _ _ _ _ | exact Kd.V_nil _ _ _ _ _ | exact Kd.Q_nil _ _ _ _ _ | exact Kd.S_nil _ _ _ _ _, hb_ HB⟩
  rw [if_neg c50] at H
  have c50b0 := decide_eq_false c50
  clear c50
  simp only [Option.some.injEq, Prod.mk.injEq] at H
  obtain ⟨rfl, rfl, rfl, rfl, rfl, rfl, rfl, rfl⟩ := H
  have := NB322_317.out
  have := NB317_322.out
  obtain ⟨hcz90_0, hcz90_1, hcz90_2, hcz90_3, hcz90_4, hcz90_5, hfz90_0, hfz90_1, hfz90_2, hfz90_3, hfz90_4, hfz90_5⟩ := bx6 BK322
  obtain ⟨hcz91_0, hcz91_1, hcz91_2, hcz91_3, hcz91_4, hcz91_5, hfz91_0, hfz91_1, hfz91_2, hfz91_3, hfz91_4, hfz91_5⟩ := bx6 BK317
  obtain ⟨Ao92, co92, eo92⟩ := Kd.R_slice HO_323003.out
  subst eo92
  obtain ⟨Ao93, co93, eo93⟩ := Kd.R_slice HO_323004.out
  subst eo93
  obtain ⟨Ao94, co94, eo94⟩ := Kd.R_slice HO_323005.out
  subst eo94
  go_wp2
  refine bodyPost_ret (results_ctt rfl _ _ gb317 34 #[.int .i64 t319, .int .i64 t320, .int .i64 t321, .slice Ao92 x323003_2.length co92, .slice Ao93 x323004_2.length co93, .slice Ao94 x323005_2.length co94] (0, 0) _ rfl (kpq_ (kputs BK317 [(0, _), (1, _), (2, _), (3, _), (4, _), (5, _)])) Try.underlying34 rfl (by kernel_rfl)) rfl ?_
  exact ⟨_, _, _, by first | rfl | (simp [errW_none, errW_some] <;> rfl) | (simp [*, errW_none, errW_some] <;> rfl), Kd.R_mono (Kd.R_s HO_323003 BK317) (fun _ hk => ⟨hk.1, hk.2⟩), Kd.R_mono (Kd.R_s HO_323004 BK317) (fun _ hk => ⟨hk.1, hk.2⟩), Kd.R_mono (Kd.R_s HO_323005 BK317) (fun _ hk => ⟨hk.1, hk.2⟩), hb_ HB⟩
 replace c3 := Bool.eq_false_iff.mpr c3
 subst c3
 rw [if_neg (show ¬ (false = true) by decide)] at H
 simp only [Option.some.injEq, Prod.mk.injEq] at H
 obtain ⟨rfl, rfl, rfl, rfl, rfl, rfl, rfl, rfl⟩ := H
 go_enter Try.func34, Try.ntmps34
 go_wp2_with (first | ((with_reducible refine gate_dst (N := 1) rfl ?_); refine bv_ 1 (cs := #[.int .i64 a0_0, .int .i64 a0_1, .int .i64 a0_2, .slice A0_3 l0_3.length c0_3, .slice A0_4 l0_4.length c0_4, .slice A0_5 l0_5.length c0_5]) (t := 34) ?_; intro gb316 hg w95 hbox hb; have BK316 := Aside0.mk (hbox); have GW316 := gs_ hg HB; have GE316 := gs_ hg HB; replace HB := hbs_ HB hb; clear hb hbox hg) | ((with_reducible refine gate_dst (N := 2) rfl ?_); refine bv_ 2 (cs := #[.int .i64 0, .int .i64 0, .int .i64 0, .slice none 0 0, .slice none 0 0, .slice none 0 0]) (t := 34) ?_; intro gb317 hg w96 hbox hb; have BK317 := Aside0.mk (hbox); have GW317 := gs_ hg HB; have GE317 := gs_ hg HB; have NB316_317 := nl_ hg BK316; have NB317_316 := ng_ hg BK316; replace BK316 := kb_ BK316 hb; replace HB := hbs_ HB hb; clear hb hbox hg; have := NB316_317.out; have := NB317_316.out; obtain ⟨hcz98_0, hcz98_1, hcz98_2, hcz98_3, hcz98_4, hcz98_5, hfz98_0, hfz98_1, hfz98_2, hfz98_3, hfz98_4, hfz98_5⟩ := bx6 BK316) | ((with_reducible refine gate_callee (f := 59) rfl ?_); refine gl_ (some 18) Try.func59 #[.agg #[.int .i64 a0_0, .int .i64 a0_1, .int .i64 a0_2, .slice A0_3 l0_3.length c0_3, .slice A0_4 l0_4.length c0_4, .slice A0_5 l0_5.length c0_5]] rfl rfl rfl ?_; (with_reducible refine (impl_IsModel.calls k a0_0 a0_1 a0_2 _ _ l0_3 _ _ l0_4 _ _ l0_5 false _ ?side1 ?side2 ?side3 ?side4 ?side5 ?side6 A2.out).mono ?_); (case side1 => exact Kd.C_w HR0_3 HB); (case side2 => exact HC0_3.out); (case side3 => exact Kd.C_w HR0_4 HB); (case side4 => exact HC0_4.out); (case side5 => exact Kd.C_w HR0_5 HB); (case side6 => exact HC0_5.out); rintro e w99 ⟨rfl, hb⟩; refine ⟨_, rfl, ?_⟩; replace BK316 := kb_ BK316 hb; replace BK317 := kb_ BK317 hb; replace HB := hbs_ HB hb; obtain ⟨hcz100_0, hcz100_1, hcz100_2, hcz100_3, hcz100_4, hcz100_5, hfz100_0, hfz100_1, hfz100_2, hfz100_3, hfz100_4, hfz100_5⟩ := bx6 BK317))
 refine bodyPost_ret (results_ctt rfl _ _ gb317 34 #[.int .i64 0, .int .i64 0, .int .i64 0, .slice none 0 0, .slice none 0 0, .slice none 0 0] (0, 0) _ rfl (kpq_ (kputs BK317 [(0, _), (1, _), (2, _), (3, _), (4, _), (5, _)])) Try.underlying34 rfl (by kernel_rfl)) rfl ?_
 exact ⟨_, _, _, by first | rfl | (simp [errW_none, errW_some] <;> rfl) | (simp [*, errW_none, errW_some] <;> rfl), by first | exact Kd.R_nil _ _ _ _ _ | exact Kd.N_nil _ _ _ _ _ | exact Kd.V_nil _ _ _ _ _ | exact Kd.Q_nil _ _ _ _ _ | exact Kd.S_nil _ _ _ _ _, by first | exact Kd.R_nil _ _ _ _ _ | exact Kd.N_nil _ _ _ _ _ | exact Kd.V_nil _ _ _ _ _ | exact Kd.Q_nil _ _ _ _ _ | exact Kd.S_nil _ _ _ _ _, by first | exact Kd.R_nil _ _ _ _ _ | exact Kd.N_nil _ _ _ _ _ | exact Kd.V_nil _ _ _ _ _ | exact Kd.Q_nil _ _ _ _ _ | exact Kd.S_nil _ _ _ _ _, hb_ HB⟩

end Go.Proofs.Ytceajigggcihnaa.PFnCoarse
