-- Laid for this claim by wip/tools/print2.sh, a changed copy of the kit's print (wip/tools/patch_print.py): not by print.sh. Changed by wip/fix/coarse.py.
import Derived.Test.YtceajigggcihnaaPFnExactCoarseModelx0
import Derived.Test.YtceajigggcihnaaPFnExactCoarseModelx4
import Derived.Test.YtceajigggcihnaaPFnExactCoarseModelx5
import Derived.Test.YtceajigggcihnaaPFnExactCoarseModelx6
import Derived.Test.YtceajigggcihnaaPFnExactCoarseModelx7
namespace Go.Proofs.Ytceajigggcihnaa.PFnExactCoarseModel
open Go.RowKit Go.Proofs.YtceajigggcihnaaW.PrintWords Go.Proofs.YtceajigggcihnaaW.PrintLast Go.Proofs.YtceajigggcihnaaW.PrintMore
attribute [local go_sem] max2_int min2_int max_two min_two max_three min_three max_four min_four   -- for this text's walks alone
set_option linter.unusedVariables false
set_option linter.unusedSimpArgs false

/-! ### impl_CoarseModel: function 34 -/
mutual
def impl_CoarseModel.l0 : Nat → List (List (S29)) → Int → Int → Int → Int → Int → Int → List Int → List Int → List Int → Int → Int → Int → Option (Int × Int × Int × List Int × List Int × List Int × Int × Bool)
 | 0, _, _, _, _, _, _, _, _, _, _, _, _, _ => none
 | k + 1, x6, x7, x31, x32, x270000, x270001, x270002, x270003, x270004, x270005, x276000, x276001, x276002 => if x32 < x31 then ((impl_PieceOf.f k x270000 x270001 x270002 x270003 x270004 x270005 x32).bind fun bt280 => ((impl_CoarseBlock.f x270000 x270001 x270002 x32).bind fun bt285 => (if 0 ≤ bt285.1 then (if bt285.1 < (x6.length : Int) then (if (rd_L2 x6 bt285.1).length < 5864062014805 then (impl_CoarseModel.l0 k (x6.set (bt285.1 : Int).toNat ((rd_L2 x6 bt285.1) ++ [(⟨bt280.1, bt280.2.1, bt280.2.2.1⟩ : S29)])) (wrap64 (x7 - bt280.2.1)) x31 (wrap64 (x32 + 1)) x270000 x270001 x270002 x270003 x270004 x270005 x276000 x276001 x276002) else (none)) else (none)) else (none)))) else (impl_CoarseModel.l1 k x7 x6 (x6.length : Int) 0 x276000 x276001 x276002 ([] : List Int) ([] : List Int) ([] : List Int))
def impl_CoarseModel.l1 : Nat → Int → List (List (S29)) → Int → Int → Int → Int → Int → List Int → List Int → List Int → Option (Int × Int × Int × List Int × List Int × List Int × Int × Bool)
 | 0, _, _, _, _, _, _, _, _, _, _ => none
 | k + 1, x7, x63, x64, x65, x276000, x276001, x276002, x276003, x276004, x276005 => if x65 < x64 then (if 0 ≤ x65 then (if x65 < (x63.length : Int) then ((impl_joinPieces.f k (rd_L2 x63 x65)).bind fun bt293 => (if bt293.2.2.2 = true then (if x276003.length < 17592186044416 then ((impl_roundedGrade.f bt293.1 bt293.2.1 bt293.2.2.1).bind fun t301 => (if x276004.length < 17592186044416 then (if x276005.length < 17592186044416 then ((impl_roundedGrade.f bt293.1 bt293.2.1 bt293.2.2.1).bind fun t308 => (impl_CoarseModel.l1 k (wrap64 (x7 + (wrap64 (bt293.1 * t308)))) x63 x64 (wrap64 (x65 + 1)) x276000 x276001 x276002 (x276003 ++ [bt293.1]) (x276004 ++ [t301]) (x276005 ++ [bt293.2.2.1]))) else (none)) else (none))) else (none)) else (some (0, 0, 0, ([] : List Int), ([] : List Int), ([] : List Int), 0, false)))) else (none)) else (none)) else (some (x276000, x276001, x276002, x276003, x276004, x276005, x7, true))
end
def impl_CoarseModel.f (k : Nat) (a0_0 : Int) (a0_1 : Int) (a0_2 : Int) (l0_3 : List Int) (l0_4 : List Int) (l0_5 : List Int) : Option (Int × Int × Int × List Int × List Int × List Int × Int × Bool) := (impl_IsModel.f k a0_0 a0_1 a0_2 l0_3 l0_4 l0_5).bind fun t271 => (if t271 = true then ((impl_coarseGrid.f a0_0 a0_1 a0_2).bind fun bt272 => ((impl_blocksOf.f bt272.1 bt272.2.1 bt272.2.2).bind fun t276 => (if 0 ≤ t276 then (if (t276 : Int).toNat ≤ 11728124029610 then (impl_CoarseModel.l0 k (List.replicate (t276 : Int).toNat []) 0 (l0_3.length : Int) 0 a0_0 a0_1 a0_2 l0_3 l0_4 l0_5 bt272.1 bt272.2.1 bt272.2.2) else (none)) else (none)))) else (some (0, 0, 0, ([] : List Int), ([] : List Int), ([] : List Int), 0, false)))
def impl_CoarseModel.T11 : Bool × List (List Nat × List Nat) := (true, [([], []), ([], []), ([], []), ([], []), ([2, 3], [2, 3]), ([4], [4]), ([], []), ([6], [6]), ([5, 7], [5, 7]), ([0, 1, 0, 1, 2, 3, 4, 5, 6, 7, 8], [0, 1]), ([9, 8, 8, 0, 1, 2, 3, 4, 5, 6, 7, 8], [8, 9])])
def impl_CoarseModel.B11 : List Nat := [0, 0, 0, 0, 12, 28, 0, 64, 252, 511, 1023]
theorem impl_CoarseModel.tab11 : rtab .any (opsOf Try.f34 11) = impl_CoarseModel.T11 := by kernel_rfl
theorem impl_CoarseModel.bits11 : waitsOk impl_CoarseModel.T11.2 impl_CoarseModel.B11 = true := by kernel_rfl
def impl_CoarseModel.T21 : Bool × List (List Nat × List Nat) := (true, [([], []), ([0], [0]), ([], []), ([2], [2]), ([3], [3]), ([1, 4, 3], [1, 4]), ([0, 1, 2, 3, 4, 5], []), ([6, 5, 5, 0, 1, 2, 3, 4, 5], [5, 6])])
def impl_CoarseModel.B21 : List Nat := [0, 1, 0, 4, 12, 31, 63, 127]
theorem impl_CoarseModel.tab21 : rtab .any (opsOf Try.f34 21) = impl_CoarseModel.T21 := by kernel_rfl
theorem impl_CoarseModel.bits21 : waitsOk impl_CoarseModel.T21.2 impl_CoarseModel.B21 = true := by kernel_rfl
def impl_CoarseModel.T23 : Bool × List (List Nat × List Nat) := (true, [([], []), ([], []), ([1], [1]), ([], []), ([3], [3]), ([2, 4], [2, 4]), ([0, 5], [0, 5]), ([6, 4, 0, 1, 2, 3, 4, 5, 6], [0, 6])])
def impl_CoarseModel.B23 : List Nat := [0, 0, 2, 0, 8, 30, 63, 127]
theorem impl_CoarseModel.tab23 : rtab .any (opsOf Try.f34 23) = impl_CoarseModel.T23 := by kernel_rfl
theorem impl_CoarseModel.bits23 : waitsOk impl_CoarseModel.T23.2 impl_CoarseModel.B23 = true := by kernel_rfl
set_option maxHeartbeats 8000000 in
set_option maxRecDepth 100000 in
theorem impl_CoarseModel.calls (k : Nat) (a0_0 : Int) (a0_1 : Int) (a0_2 : Int) (A0_3 : Option Addr) (c0_3 : Nat) (l0_3 : List Int) (A0_4 : Option Addr) (c0_4 : Nat) (l0_4 : List Int) (A0_5 : Option Addr) (c0_5 : Nat) (l0_5 : List Int) (r1 : Int) (r2 : Int) (r3 : Int) (r4 : List Int) (r5 : List Int) (r6 : List Int) (r7 : Int) (r8 : Bool) (w : World) (hr0_3 : Kd.C (Kd.int .i64) w A0_3 l0_3.length l0_3) (hc0_3 : l0_3.length ≤ c0_3) (hr0_4 : Kd.C (Kd.int .i64) w A0_4 l0_4.length l0_4) (hc0_4 : l0_4.length ≤ c0_4) (hr0_5 : Kd.C (Kd.int .i64) w A0_5 l0_5.length l0_5) (hc0_5 : l0_5.length ≤ c0_5) (h : impl_CoarseModel.f k a0_0 a0_1 a0_2 l0_3 l0_4 l0_5 = some (r1, r2, r3, r4, r5, r6, r7, r8)) :
  Calls Try.prog 34 #[.agg #[.int .i64 a0_0, .int .i64 a0_1, .int .i64 a0_2, .slice A0_3 l0_3.length c0_3, .slice A0_4 l0_4.length c0_4, .slice A0_5 l0_5.length c0_5]] w fun e w' => ∃ v3_ v4_ v5_ : Value, e = .returned (.tuple #[.agg #[.int .i64 r1, .int .i64 r2, .int .i64 r3, v3_, v4_, v5_], .int .i64 r7, .bool r8]) ∧ Kd.R (Kd.int .i64) 3 w' w.heap.size (fun k_ => some k_ ≠ (v4_ : Value).ownBlock ∧ some k_ ≠ (v5_ : Value).ownBlock) v3_ r4 ∧ Kd.R (Kd.int .i64) 3 w' w.heap.size (fun k_ => some k_ ≠ (v3_ : Value).ownBlock ∧ some k_ ≠ (v5_ : Value).ownBlock) v4_ r5 ∧ Kd.R (Kd.int .i64) 3 w' w.heap.size (fun k_ => some k_ ≠ (v3_ : Value).ownBlock ∧ some k_ ≠ (v4_ : Value).ownBlock) v5_ r6 ∧ Below w.heap.size w w' := by
 have hu34 := Try.underlying34
 have hu32 := Try.underlying32
 have hu29 := Try.underlying29
 have HR0_3 := Aside0.mk hr0_3
 have HC0_3 := Aside0.mk hc0_3
 clear hr0_3 hc0_3
 have HR0_4 := Aside0.mk hr0_4
 have HC0_4 := Aside0.mk hc0_4
 clear hr0_4 hc0_4
 have HR0_5 := Aside0.mk hr0_5
 have HC0_5 := Aside0.mk hc0_5
 clear hr0_5 hc0_5
 have HB := Aside0.mk (Below.refl w.heap.size w)
 have H : ((impl_IsModel.f k a0_0 a0_1 a0_2 l0_3 l0_4 l0_5).bind fun t271 => (if t271 = true then ((impl_coarseGrid.f a0_0 a0_1 a0_2).bind fun bt272 => ((impl_blocksOf.f bt272.1 bt272.2.1 bt272.2.2).bind fun t276 => (if 0 ≤ t276 then (if (t276 : Int).toNat ≤ 11728124029610 then (impl_CoarseModel.l0 k (List.replicate (t276 : Int).toNat []) 0 (l0_3.length : Int) 0 a0_0 a0_1 a0_2 l0_3 l0_4 l0_5 bt272.1 bt272.2.1 bt272.2.2) else (none)) else (none)))) else (some (0, 0, 0, ([] : List Int), ([] : List Int), ([] : List Int), 0, false)))) = some (r1, r2, r3, r4, r5, r6, r7, r8) := h
 clear h
 replace H := Option.bind_eq_some_iff.mp H
 obtain ⟨t271, A20, H⟩ := H
 replace H : (if t271 = true then ((impl_coarseGrid.f a0_0 a0_1 a0_2).bind fun bt272 => ((impl_blocksOf.f bt272.1 bt272.2.1 bt272.2.2).bind fun t276 => (if 0 ≤ t276 then (if (t276 : Int).toNat ≤ 11728124029610 then (impl_CoarseModel.l0 k (List.replicate (t276 : Int).toNat []) 0 (l0_3.length : Int) 0 a0_0 a0_1 a0_2 l0_3 l0_4 l0_5 bt272.1 bt272.2.1 bt272.2.2) else (none)) else (none)))) else (some (0, 0, 0, ([] : List Int), ([] : List Int), ([] : List Int), 0, false))) = some (r1, r2, r3, r4, r5, r6, r7, r8) := H
 have A2 := Aside0.mk A20
 clear A20
 by_cases c3 : t271 = true
 ·subst c3
  have H1 : ((impl_coarseGrid.f a0_0 a0_1 a0_2).bind fun bt272 => ((impl_blocksOf.f bt272.1 bt272.2.1 bt272.2.2).bind fun t276 => (if 0 ≤ t276 then (if (t276 : Int).toNat ≤ 11728124029610 then (impl_CoarseModel.l0 k (List.replicate (t276 : Int).toNat []) 0 (l0_3.length : Int) 0 a0_0 a0_1 a0_2 l0_3 l0_4 l0_5 bt272.1 bt272.2.1 bt272.2.2) else (none)) else (none)))) = some (r1, r2, r3, r4, r5, r6, r7, r8) := by rw [if_pos rfl] at H; exact H
  clear H
  have H := H1
  clear H1
  replace H := Option.bind_eq_some_iff.mp H
  obtain ⟨⟨t272, t273, t274⟩, A40, H⟩ := H
  replace H : ((impl_blocksOf.f t272 t273 t274).bind fun t276 => (if 0 ≤ t276 then (if (t276 : Int).toNat ≤ 11728124029610 then (impl_CoarseModel.l0 k (List.replicate (t276 : Int).toNat []) 0 (l0_3.length : Int) 0 a0_0 a0_1 a0_2 l0_3 l0_4 l0_5 t272 t273 t274) else (none)) else (none))) = some (r1, r2, r3, r4, r5, r6, r7, r8) := H
  have A4 := Aside0.mk A40
  clear A40
  replace H := Option.bind_eq_some_iff.mp H
  obtain ⟨t276, A50, H⟩ := H
  replace H : (if 0 ≤ t276 then (if (t276 : Int).toNat ≤ 11728124029610 then (impl_CoarseModel.l0 k (List.replicate (t276 : Int).toNat []) 0 (l0_3.length : Int) 0 a0_0 a0_1 a0_2 l0_3 l0_4 l0_5 t272 t273 t274) else (none)) else (none)) = some (r1, r2, r3, r4, r5, r6, r7, r8) := H
  have A5 := Aside0.mk A50
  clear A50
  by_cases c6 : 0 ≤ t276
  ·rw [if_pos c6] at H
   have c6b0 := eq_true c6
   have c6b1 : decide (0 ≤ t276) = true := decide_eq_true c6
   clear c6
   by_cases c7 : (t276 : Int).toNat ≤ 11728124029610
   ·rw [if_pos c7] at H
    have c7b0 := eq_true c7
    have c7b1 : decide ((t276 : Int).toNat ≤ 11728124029610) = true := decide_eq_true c7
    clear c7
    obtain ⟨y277, hy277⟩ : ∃ y_ : List (List (S29)), y_ = (List.replicate (t276 : Int).toNat []) := ⟨_, rfl⟩
    replace H : (impl_CoarseModel.l0 k y277 0 (l0_3.length : Int) 0 a0_0 a0_1 a0_2 l0_3 l0_4 l0_5 t272 t273 t274) = some (r1, r2, r3, r4, r5, r6, r7, r8) := by first | (rw [hy277]; with_reducible exact H) | (have H2_ := (Option.bind_some _ _).symm.trans H; rw [hy277]; with_reducible exact H2_) | (have H2_ := (Option.bind_some _ _).symm.trans H; with_reducible exact H2_) | with_reducible exact H | (rw [hy277]; exact H) | exact H
    have Ny277 := Aside0.mk hy277
    clear hy277
    have H' := Aside0.mk H
    clear H
    go_enter Try.func34, Try.ntmps34
    go_wp2_with (first | ((with_reducible refine gate_dst (N := 1) rfl ?_); refine box_event ?hg (N := 1) ?hd (cs := #[.int .i64 a0_0, .int .i64 a0_1, .int .i64 a0_2, .slice A0_3 l0_3.length c0_3, .slice A0_4 l0_4.length c0_4, .slice A0_5 l0_5.length c0_5]) (t := 34) ?hr ?_; (case hd => rfl); (case hg => rfl); (case hr => first | (go_simp; done) | (go_simp; rfl)); intro gb269 hg w8 hbox hb; have BK269 := Aside0.mk (hbox); have GW269 := gs_ hg HB; have GE269 := gs_ hg HB; replace HB := hbs_ HB hb; clear hb hbox hg) | ((with_reducible refine gate_dst (N := 2) rfl ?_); refine box_event ?hg (N := 2) ?hd (cs := #[.int .i64 0, .int .i64 0, .int .i64 0, .slice none 0 0, .slice none 0 0, .slice none 0 0]) (t := 34) ?hr ?_; (case hd => rfl); (case hg => rfl); (case hr => first | (go_simp; done) | (go_simp; rfl)); intro gb270 hg w9 hbox hb; have BK270 := Aside0.mk (hbox); have GW270 := gs_ hg HB; have GE270 := gs_ hg HB; have NB269_270 := nl_ hg BK269; have NB270_269 := ng_ hg BK269; replace BK269 := kb_ BK269 hb; replace HB := hbs_ HB hb; clear hb hbox hg; have hnb10 := NB269_270.out; have hnc10 := NB270_269.out; obtain ⟨hcz11_0, hcz11_1, hcz11_2, hcz11_3, hcz11_4, hcz11_5, hfz11_0, hfz11_1, hfz11_2, hfz11_3, hfz11_4, hfz11_5⟩ := bx6 BK269) | ((with_reducible refine gate_callee (f := 59) rfl ?_); refine gl_ (some 18) Try.func59 #[.agg #[.int .i64 a0_0, .int .i64 a0_1, .int .i64 a0_2, .slice A0_3 l0_3.length c0_3, .slice A0_4 l0_4.length c0_4, .slice A0_5 l0_5.length c0_5]] rfl rfl rfl ?_; (with_reducible refine (impl_IsModel.calls k a0_0 a0_1 a0_2 _ _ l0_3 _ _ l0_4 _ _ l0_5 true _ ?side1 ?side2 ?side3 ?side4 ?side5 ?side6 A2.out).mono ?_); (case side1 => exact Kd.C_w HR0_3 HB); (case side2 => exact HC0_3.out); (case side3 => exact Kd.C_w HR0_4 HB); (case side4 => exact HC0_4.out); (case side5 => exact Kd.C_w HR0_5 HB); (case side6 => exact HC0_5.out); rintro e w12 ⟨rfl, hb⟩; refine ⟨_, rfl, ?_⟩; replace BK269 := kb_ BK269 hb; replace BK270 := kb_ BK270 hb; replace HB := hbs_ HB hb; (try clear hb); (try clear hb2); (try clear hk); (try clear hi); obtain ⟨hcz13_0, hcz13_1, hcz13_2, hcz13_3, hcz13_4, hcz13_5, hfz13_0, hfz13_1, hfz13_2, hfz13_3, hfz13_4, hfz13_5⟩ := bx6 BK269) | ((with_reducible refine gate_callee (f := 82) rfl ?_); refine gl_ (some 23) Try.func82 #[.agg #[.int .i64 a0_0, .int .i64 a0_1, .int .i64 a0_2]] rfl rfl rfl ?_; (with_reducible refine (impl_coarseGrid.calls a0_0 a0_1 a0_2 t272 t273 t274 _ A4.out).mono ?_); rintro e w14 ⟨rfl, hb⟩; refine ⟨_, rfl, ?_⟩; replace BK269 := kb_ BK269 hb; replace BK270 := kb_ BK270 hb; replace HB := hbs_ HB hb; (try clear hb); (try clear hb2); (try clear hk); (try clear hi)) | ((with_reducible refine gate_dst (N := 5) rfl ?_); refine box_event ?hg (N := 5) ?hd (cs := #[.int .i64 0, .int .i64 0, .int .i64 0, .slice none 0 0, .slice none 0 0, .slice none 0 0]) (t := 34) ?hr ?_; (case hd => rfl); (case hg => rfl); (case hr => first | (go_simp; done) | (go_simp; rfl)); intro gb275 hg w15 hbox hb; have BK275 := Aside0.mk (hbox); have GW275 := gs_ hg HB; have GE275 := gs_ hg HB; have NB269_275 := nl_ hg BK269; have NB275_269 := ng_ hg BK269; have NB270_275 := nl_ hg BK270; have NB275_270 := ng_ hg BK270; replace BK269 := kb_ BK269 hb; replace BK270 := kb_ BK270 hb; replace HB := hbs_ HB hb; clear hb hbox hg; have hnb16 := NB275_269.out; have hnc16 := NB269_275.out; have hnb17 := NB275_270.out; have hnc17 := NB270_275.out; obtain ⟨hcz18_0, hcz18_1, hcz18_2, hcz18_3, hcz18_4, hcz18_5, hfz18_0, hfz18_1, hfz18_2, hfz18_3, hfz18_4, hfz18_5⟩ := bx6 BK275) | ((with_reducible refine gate_callee (f := 83) rfl ?_); refine gl_ (some 27) Try.func83 #[.agg #[.int .i64 t272, .int .i64 t273, .int .i64 t274]] rfl rfl rfl ?_; (with_reducible refine (impl_blocksOf.calls t272 t273 t274 t276 _ A5.out).mono ?_); rintro e w19 ⟨rfl, hb⟩; refine ⟨_, rfl, ?_⟩; replace BK269 := kfb_ BK269 NB269_275 hb; replace BK270 := kfb_ BK270 NB270_275 hb; replace BK275 := Aside0.mk (blk_below (g := gb275) (o := .cells #[.int .i64 t272, .int .i64 t273, .int .i64 t274, .slice none 0 0, .slice none 0 0, .slice none 0 0] 34 (0, 0)) (kpq_ (kputs BK275 [(0, _), (1, _), (2, _), (3, _), (4, _), (5, _)])) hb); replace HB := hbs_ HB hb; (try clear hb); (try clear hb2); (try clear hk); (try clear hi)) | ((with_reducible refine gate_dst (N := 28) rfl ?_); refine Kd.S_make (Kd.slice 29 k29) _ 42 rfl (N := 28) rfl 100 _ _ rfl t276 rfl rfl Try.underlying100 (.slice none 0 0) 24 info42 rfl (by decide) (by omega) [] (ok := fun _ => True) (okp := fun _ => True) ⟨_, rfl, Kd.R_nil _ _ _ _ _⟩ (fun _ hk => hk) trivial (of_decide_eq_true (by first | (with_reducible assumption) | assumption)) (Nat.le_trans (Nat.mul_le_mul_right _ (of_decide_eq_true (by first | (with_reducible assumption) | assumption) : t276.toNat ≤ 11728124029610)) (by omega)) (Below.refl _ _) (Nat.le_refl _) ?_; intro v278 w20 ho21 hb hg_ hnew_; clear hg_ hnew_; (first | rw [← Ny277.out] at ho21 | (simp only [Int.reduceToNat] at ho21; rw [← Ny277.out] at ho21)); have HO279 := Aside0.mk (Kd.S_lower ho21 (below_size (hb_ HB))); replace BK269 := kb_ BK269 hb; replace BK270 := kb_ BK270 hb; replace BK275 := kb_ BK275 hb; replace HB := hbs_ HB hb; clear hb ho21; obtain ⟨hcz22_0, hcz22_1, hcz22_2, hcz22_3, hcz22_4, hcz22_5, hfz22_0, hfz22_1, hfz22_2, hfz22_3, hfz22_4, hfz22_5⟩ := bx6 BK269))
    go_loopg [7, 32] k (fun kq v7 v32 w' => ∃ (x6_1 : List (List (S29))) (x7_1 : Int) (x32_1 : Int), v7 = .int .i64 x7_1 ∧ v32 = .int .i64 x32_1 ∧ Aside0 (impl_CoarseModel.l0 kq x6_1 x7_1 (l0_3.length : Int) x32_1 a0_0 a0_1 a0_2 l0_3 l0_4 l0_5 t272 t273 t274 = some (r1, r2, r3, r4, r5, r6, r7, r8)) ∧ Aside0 (kq ≤ k) ∧ Aside0 (Kd.S (Kd.slice 29 k29) 42 w' w.heap.size (fun _ => True) v278 x6_1) ∧ Aside0 (w'.heap[gb269]? = some (.cells #[.int .i64 a0_0, .int .i64 a0_1, .int .i64 a0_2, (.slice A0_3 l0_3.length c0_3), (.slice A0_4 l0_4.length c0_4), (.slice A0_5 l0_5.length c0_5)] 34 (0, 0))) ∧ Aside0 (w'.heap[gb270]? = some (.cells #[.int .i64 0, .int .i64 0, .int .i64 0, (.slice none 0 0), (.slice none 0 0), (.slice none 0 0)] 34 (0, 0))) ∧ Aside0 (w'.heap[gb275]? = some (.cells #[.int .i64 t272, .int .i64 t273, .int .i64 t274, (.slice none 0 0), (.slice none 0 0), (.slice none 0 0)] 34 (0, 0))) ∧ Aside0 (Below w.heap.size w w'))
    case atStart => exact ⟨(y277), (0), (0), (by first | rfl | (simp; done) | (simp [*]; done)), (by first | rfl | (simp; done) | (simp [*]; done)), H', ⟨Nat.le_refl _⟩, ⟨by (with_reducible repeat (first | apply Kd.S_alloc | apply Kd.S_drewN | apply Kd.S_drew)); exact HO279.out⟩, ⟨kp_ BK269⟩, ⟨kp_ BK270⟩, ⟨kp_ BK275⟩, ⟨hb_ HB⟩⟩
    case round =>
     clear H'
     (try clear c1); (try clear p2); (try clear c3); (try clear c5); (try clear c6); (try clear c6b0); (try clear c6b1); (try clear c7); (try clear c7b0); (try clear c7b1); (try clear c8); (try clear c10); (try clear c16); (try clear c17); (try clear hcz11_0); (try clear hcz11_1); (try clear hcz11_2); (try clear hcz11_3); (try clear hcz11_4); (try clear hcz11_5); (try clear hcz13_0); (try clear hcz13_1); (try clear hcz13_2); (try clear hcz13_3); (try clear hcz13_4); (try clear hcz13_5); (try clear hcz18_0); (try clear hcz18_1); (try clear hcz18_2); (try clear hcz18_3); (try clear hcz18_4); (try clear hcz18_5); (try clear hcz22_0); (try clear hcz22_1); (try clear hcz22_2); (try clear hcz22_3); (try clear hcz22_4); (try clear hcz22_5); (try clear hfz11_0); (try clear hfz11_1); (try clear hfz11_2); (try clear hfz11_3); (try clear hfz11_4); (try clear hfz11_5); (try clear hfz13_0); (try clear hfz13_1); (try clear hfz13_2); (try clear hfz13_3); (try clear hfz13_4); (try clear hfz13_5); (try clear hfz18_0); (try clear hfz18_1); (try clear hfz18_2); (try clear hfz18_3); (try clear hfz18_4); (try clear hfz18_5); (try clear hfz22_0); (try clear hfz22_1); (try clear hfz22_2); (try clear hfz22_3); (try clear hfz22_4); (try clear hfz22_5)
     obtain ⟨x6_1, x7_1, x32_1, rfl, rfl, HA, HK1, HO_6, BK269, BK270, BK275, HB⟩ := hrel
     cases gk with
     | zero => exact absurd HA.out (by simp [impl_CoarseModel.l0])
     | succ k1 =>
      have H := HA.out
      clear HA
      simp only [impl_CoarseModel.l0] at H
      by_cases c23 : x32_1 < (l0_3.length : Int)
      ·rw [if_pos c23] at H
       have c23b0 : decide (x32_1 < (l0_3.length : Int)) = true := decide_eq_true c23
       clear c23
       replace H := Option.bind_eq_some_iff.mp H
       obtain ⟨⟨t280, t281, t282, t283⟩, A240, H⟩ := H
       replace H : ((impl_CoarseBlock.f a0_0 a0_1 a0_2 x32_1).bind fun bt285 => (if 0 ≤ bt285.1 then (if bt285.1 < (x6_1.length : Int) then (if (rd_L2 x6_1 bt285.1).length < 5864062014805 then (impl_CoarseModel.l0 k1 (x6_1.set (bt285.1 : Int).toNat ((rd_L2 x6_1 bt285.1) ++ [(⟨t280, t281, t282⟩ : S29)])) (wrap64 (x7_1 - t281)) (l0_3.length : Int) (wrap64 (x32_1 + 1)) a0_0 a0_1 a0_2 l0_3 l0_4 l0_5 t272 t273 t274) else (none)) else (none)) else (none))) = some (r1, r2, r3, r4, r5, r6, r7, r8) := H
       have A24 := Aside0.mk A240
       clear A240
       replace H := Option.bind_eq_some_iff.mp H
       obtain ⟨⟨t285, t286⟩, A250, H⟩ := H
       replace H : (if 0 ≤ t285 then (if t285 < (x6_1.length : Int) then (if (rd_L2 x6_1 t285).length < 5864062014805 then (impl_CoarseModel.l0 k1 (x6_1.set (t285 : Int).toNat ((rd_L2 x6_1 t285) ++ [(⟨t280, t281, t282⟩ : S29)])) (wrap64 (x7_1 - t281)) (l0_3.length : Int) (wrap64 (x32_1 + 1)) a0_0 a0_1 a0_2 l0_3 l0_4 l0_5 t272 t273 t274) else (none)) else (none)) else (none)) = some (r1, r2, r3, r4, r5, r6, r7, r8) := H
       have A25 := Aside0.mk A250
       clear A250
       by_cases c26 : 0 ≤ t285
       ·rw [if_pos c26] at H
        have c26b0 : decide (0 ≤ t285) = true := decide_eq_true c26
        clear c26
        by_cases c27 : t285 < (x6_1.length : Int)
        ·rw [if_pos c27] at H
         have c27b0 : decide (t285 < (x6_1.length : Int)) = true := decide_eq_true c27
         clear c27
         by_cases c28 : (rd_L2 x6_1 t285).length < 5864062014805
         ·rw [if_pos c28] at H
          have LMc28 := Aside0.mk c28
          clear c28
          obtain ⟨y288, hy288⟩ : ∃ y_ : List (S29), y_ = ((rd_L2 x6_1 t285) ++ [(⟨t280, t281, t282⟩ : S29)]) := ⟨_, rfl⟩
          replace H : (impl_CoarseModel.l0 k1 (x6_1.set (t285 : Int).toNat y288) (wrap64 (x7_1 - t281)) (l0_3.length : Int) (wrap64 (x32_1 + 1)) a0_0 a0_1 a0_2 l0_3 l0_4 l0_5 t272 t273 t274) = some (r1, r2, r3, r4, r5, r6, r7, r8) := by first | (rw [hy288]; with_reducible exact H) | (have H2_ := (Option.bind_some _ _).symm.trans H; rw [hy288]; with_reducible exact H2_) | (have H2_ := (Option.bind_some _ _).symm.trans H; with_reducible exact H2_) | with_reducible exact H | (rw [hy288]; exact H) | exact H
          have Ny288 := Aside0.mk hy288
          clear hy288
          obtain ⟨y291, hy291⟩ : ∃ y_ : List (List (S29)), y_ = (x6_1.set (t285 : Int).toNat y288) := ⟨_, rfl⟩
          replace H : (impl_CoarseModel.l0 k1 y291 (wrap64 (x7_1 - t281)) (l0_3.length : Int) (wrap64 (x32_1 + 1)) a0_0 a0_1 a0_2 l0_3 l0_4 l0_5 t272 t273 t274) = some (r1, r2, r3, r4, r5, r6, r7, r8) := by first | (rw [hy291]; with_reducible exact H) | (have H2_ := (Option.bind_some _ _).symm.trans H; rw [hy291]; with_reducible exact H2_) | (have H2_ := (Option.bind_some _ _).symm.trans H; with_reducible exact H2_) | with_reducible exact H | (rw [hy291]; exact H) | exact H
          have Ny291 := Aside0.mk hy291
          clear hy291
          have H' := Aside0.mk H
          clear H
          have hnb30 := NB269_270.out
          have hnc30 := NB270_269.out
          have hnb31 := NB269_275.out
          have hnc31 := NB275_269.out
          have hcz32_0 : wr.cell? ⟨gb269, 0, none⟩ = some (.int .i64 a0_0) := (blk_cell BK269.out 0).trans rfl
          have hcz32_1 : wr.cell? ⟨gb269, 1, none⟩ = some (.int .i64 a0_1) := (blk_cell BK269.out 1).trans rfl
          have hcz32_2 : wr.cell? ⟨gb269, 2, none⟩ = some (.int .i64 a0_2) := (blk_cell BK269.out 2).trans rfl
          have hcz32_3 : wr.cell? ⟨gb269, 3, none⟩ = some (.slice A0_3 l0_3.length c0_3) := (blk_cell BK269.out 3).trans rfl
          have hcz32_4 : wr.cell? ⟨gb269, 4, none⟩ = some (.slice A0_4 l0_4.length c0_4) := (blk_cell BK269.out 4).trans rfl
          have hcz32_5 : wr.cell? ⟨gb269, 5, none⟩ = some (.slice A0_5 l0_5.length c0_5) := (blk_cell BK269.out 5).trans rfl
          have hfz32_0 := blk_frozen BK269.out 0
          have hfz32_1 := blk_frozen BK269.out 1
          have hfz32_2 := blk_frozen BK269.out 2
          have hfz32_3 := blk_frozen BK269.out 3
          have hfz32_4 := blk_frozen BK269.out 4
          have hfz32_5 := blk_frozen BK269.out 5
          try go_wp2_with (first | ((with_reducible refine gate_callee (f := 14) rfl ?_); refine gl_ (some 38) Try.func14 #[.agg #[.int .i64 a0_0, .int .i64 a0_1, .int .i64 a0_2, .slice A0_3 l0_3.length c0_3, .slice A0_4 l0_4.length c0_4, .slice A0_5 l0_5.length c0_5], .int .i64 x32_1] rfl rfl rfl ?_; (with_reducible refine (impl_PieceOf.calls k1 a0_0 a0_1 a0_2 _ _ l0_3 _ _ l0_4 _ _ l0_5 x32_1 t280 t281 t282 t283 _ ?side1 ?side2 ?side3 ?side4 ?side5 ?side6 A24.out).mono ?_); (case side1 => exact Kd.C_w HR0_3 HB); (case side2 => exact HC0_3.out); (case side3 => exact Kd.C_w HR0_4 HB); (case side4 => exact HC0_4.out); (case side5 => exact Kd.C_w HR0_5 HB); (case side6 => exact HC0_5.out); rintro e w33 ⟨rfl, hb⟩; refine ⟨_, rfl, ?_⟩; replace HO_6 := Aside0.mk (Kd.S_below (by (with_reducible repeat (first | apply Kd.S_alloc | apply Kd.S_drewN | apply Kd.S_drew)); exact HO_6.out) hb); replace BK269 := kb_ BK269 hb; replace BK270 := kb_ BK270 hb; replace BK275 := kb_ BK275 hb; replace HB := hbs_ HB hb; (try clear hb); (try clear hb2); (try clear hk); (try clear hi)) | ((with_reducible refine gate_dst (N := 9) rfl ?_); refine box_event ?hg (N := 9) ?hd (cs := #[.int .i64 0, .int .i64 0, .int .i64 0]) (t := 29) ?hr ?_; (case hd => rfl); (case hg => rfl); (case hr => first | (go_simp; done) | (go_simp; rfl)); intro gb284 hg w34 hbox hb; have BK284 := Aside0.mk (hbox); have GW284 := gs_ hg HB; have GE284 := gs_ hg HB; have NB269_284 := nl_ hg BK269; have NB284_269 := ng_ hg BK269; have NB270_284 := nl_ hg BK270; have NB284_270 := ng_ hg BK270; have NB275_284 := nl_ hg BK275; have NB284_275 := ng_ hg BK275; replace HO_6 := Aside0.mk (Kd.S_below (Kd.S_elderB (by (with_reducible repeat (first | apply Kd.S_alloc | apply Kd.S_drewN | apply Kd.S_drew)); exact HO_6.out) gb284 (Nat.le_of_eq hg.symm)) hb); replace BK269 := kb_ BK269 hb; replace BK270 := kb_ BK270 hb; replace BK275 := kb_ BK275 hb; replace HB := hbs_ HB hb; clear hb hbox hg; have hnb35 := NB284_269.out; have hnc35 := NB269_284.out; have hnb36 := NB284_270.out; have hnc36 := NB270_284.out; have hnb37 := NB284_275.out; have hnc37 := NB275_284.out; obtain ⟨hcz38_0, hcz38_1, hcz38_2, hfz38_0, hfz38_1, hfz38_2⟩ := bx3 BK284; obtain ⟨hcz39_0, hcz39_1, hcz39_2, hcz39_3, hcz39_4, hcz39_5, hfz39_0, hfz39_1, hfz39_2, hfz39_3, hfz39_4, hfz39_5⟩ := bx6 BK269) | ((with_reducible refine gate_callee (f := 53) rfl ?_); refine gl_ (some 45) Try.func53 #[.agg #[.int .i64 a0_0, .int .i64 a0_1, .int .i64 a0_2], .int .i64 x32_1] rfl rfl rfl ?_; (with_reducible refine (impl_CoarseBlock.calls a0_0 a0_1 a0_2 x32_1 t285 t286 _ A25.out).mono ?_); rintro e w40 ⟨rfl, hb⟩; refine ⟨_, rfl, ?_⟩; replace HO_6 := Aside0.mk (Kd.S_below (by (with_reducible repeat (first | apply Kd.S_alloc | apply Kd.S_drewN | apply Kd.S_drew)); exact (Kd.S_mono (Kd.S_far (p := ⟨gb284, 2, none⟩) (Kd.S_far (p := ⟨gb284, 1, none⟩) (Kd.S_far (p := ⟨gb284, 0, none⟩) (Kd.S_mono HO_6.out (fun k_ hk => (⟨hk, hk.2⟩ : _ ∧ k_ ≠ gb284))) (fun _ hk => hk.2) (.int .i64 t280)) (fun _ hk => hk.2) (.int .i64 t281)) (fun _ hk => hk.2) (.int .i64 t282)) (fun _ h_ => h_.1))) hb); replace BK269 := kfb_ BK269 NB269_284 hb; replace BK270 := kfb_ BK270 NB270_284 hb; replace BK275 := kfb_ BK275 NB275_284 hb; replace BK284 := Aside0.mk (blk_below (g := gb284) (o := .cells #[.int .i64 t280, .int .i64 t281, .int .i64 t282] 29 (0, 0)) (kpq_ (kputs BK284 [(0, _), (1, _), (2, _)])) hb); replace HB := hbs_ HB hb; (try clear hb); (try clear hb2); (try clear hk); (try clear hi)))
          have n0_ := Aside0.mk (Kd.S_drew HO_6.out)
          have n1_ := Aside0.mk (blk_drew BK269.out)
          have n2_ := Aside0.mk (blk_drew BK270.out)
          have n3_ := Aside0.mk (blk_drew BK275.out)
          have n4_ := Aside0.mk (blk_drew BK284.out)
          have n5_ := Aside0.mk (below_drew1 HB.out)
          clear HO_6
          clear BK269
          clear BK270
          clear BK275
          clear BK284
          clear HB
          have HO_6 := n0_
          have BK269 := n1_
          have BK270 := n2_
          have BK275 := n3_
          have BK284 := n4_
          have HB := n5_
          clear n0_ n1_ n2_ n3_ n4_ n5_
          obtain ⟨Ao42, co42, eo42⟩ := Kd.S_slice HO_6.out
          (first | subst eo42 | (injection eo42 with f1_ f2_ f3_; have f4_ := f1_.symm; have f5_ := f3_.symm; clear f1_ f2_ f3_; subst f4_; subst f5_))
          have p287 : 0 ≤ (t285 : Int) := of_decide_eq_true (by first | (with_reducible assumption) | assumption)
          have q287 : t285 < (x6_1.length : Int) := of_decide_eq_true (by first | (with_reducible assumption) | assumption)
          obtain ⟨ad287, A287_0, c287_0, e287, hx287_0, hl287_0, hi287_0⟩ := at_L2 (Kd.S_reads' HO_6.out).2.2 t285 p287 q287
          cases e287
          obtain ⟨ce287, hce287, hMe287, hcc287⟩ := Kd.S_get HO_6.out [] t285 p287 (by first | exact q287 | exact of_decide_eq_true (by first | (with_reducible assumption) | assumption) | (have e_ := (Kd.S_reads' HO_6.out).1; omega))
          obtain ⟨ve287_0, rfl, ge287_0⟩ := hMe287
          have hv287_0 := hcc287 0 _ rfl
          rw [Nat.add_zero, show ((Kd.slice 29 k29)).sz = 1 from rfl, Nat.mul_one] at hv287_0
          replace hv287_0 := Option.some.inj (hv287_0.symm.trans hx287_0)
          rw [hv287_0] at ge287_0
          have HL287_0 := Aside0.mk (show Kd.R k29 29 _ _ _ _ (rd_L2 x6_1 t285) from ge287_0)
          clear hv287_0 ge287_0
          have HX287_0 := Aside0.mk hx287_0
          clear hcc287 hce287
          have HR287_0 := Aside0.mk hi287_0
          have HC287_0 := Aside0.mk hl287_0
          clear hi287_0 hl287_0
          replace p287 := eq_true p287
          replace q287 := eq_true q287
          have n_ := Aside0.mk (Kd.S_mono (ok' := (fun k_ => k_ ≠ gb284)) HO_6.out (fun k_ hk => hk.2))
          clear HO_6
          have HO_6 := n_
          clear n_
          obtain ⟨go43, co43, eo43, gb43, gl43, cl43, HG43⟩ := Kd.S_form HO_6.out (by have h_ : (t285 : Int) < ((x6_1.length : Int) : Int) := of_decide_eq_true (by first | (with_reducible assumption) | assumption); have h2_ : 0 ≤ (t285 : Int) := (of_decide_eq_true (by first | (with_reducible assumption) | assumption)); omega)
          (first | cases eo43 | (injection eo43 with ea_ en_ ec_; (first | subst ea_ | (injection ea_ with ea_; subst ea_)); subst ec_; clear en_))
          have GB43 := Aside0.mk gb43
          have GG43 := Aside0.mk HG43
          clear gb43 gl43 HG43
          (first | simp only [add_plain] at hx287_0 | skip)
          obtain ⟨oki43, ce43, hcl43, hM43, hcc43, _, _, hH43⟩ := Kd.S_elem HO_6.out [] (t285 : Int) (of_decide_eq_true (by first | (with_reducible assumption) | assumption)) (by have h_ : (t285 : Int) < ((x6_1.length : Int) : Int) := of_decide_eq_true (by first | (with_reducible assumption) | assumption); first | exact h_ | (have e_ := (Kd.S_reads' HO_6.out).1; omega) | simpa using h_)
          obtain ⟨ve43_0, rfl, ge43_0⟩ := hM43
          have hv43 := hcc43 0 _ rfl
          have hX43 := HX287_0.out
          (try simp only [add_plain] at hX43)
          (try simp only [Nat.add_zero] at hv43)
          (try rw [show ((Kd.slice 29 k29)).sz = 1 from rfl, Nat.mul_one] at hv43)
          replace hv43 := Option.some.inj (hv43.symm.trans hX43)
          subst hv43
          clear hX43 hcc43 hcl43
          have UU43 := Aside0.mk (show Kd.R k29 29 _ w.heap.size oki43 (.slice A287_0 (rd_L2 x6_1 t285).length c287_0) (rd_L2 x6_1 t285) from ge43_0)
          have HH43 := Aside0.mk hH43
          have HN43 := Aside0.mk (Kd.S_reads' HO_6.out).1
          clear hH43 ge43_0
          refine start_ (n := 11) (S := fun w' => w'.cell? ⟨gb284, 0, none⟩ = some (.int .i64 t280) ∧ w'.cell? ⟨gb284, 1, none⟩ = some (.int .i64 t281) ∧ w'.cell? ⟨gb284, 2, none⟩ = some (.int .i64 t282) ∧ w'.cell? ⟨go43, (t285).toNat, none⟩ = some (.slice A287_0 (rd_L2 x6_1 t285).length c287_0)) (ds := [10]) #[false, false, false, false, false, false, false, false, false, false, false] (by kernel_rfl) rfl rfl ⟨(blk_cell BK284.out 0).trans rfl, (blk_cell BK284.out 1).trans rfl, (blk_cell BK284.out 2).trans rfl, hx287_0⟩ (fun hHeld => ?_); refine with_tabW impl_CoarseModel.tab11 impl_CoarseModel.bits11 (fun HT_ HW_ => ?_)
          generalize w40.drew = w41 at HO_6 BK269 BK270 BK275 BK284 HB GG43 HH43 HL287_0 HR287_0 HX287_0 UU43 hx287_0 hHeld ⊢
          refine pure_ (i := 0) (N := some 48) (v := ?_) (a' := ?_) #[true, false, false, false, false, false, false, false, false, false, false] rfl rfl (any_of HT_.out (by kernel_rfl)) (fun _ _ _ h => h) (Or.inl ⟨by rfl, ?_⟩) ?_ ?_
          rotate_left
          ·intro w'
           go_simp
           with_reducible rfl
          rotate_left
          ·simp only [Act.put, List.setIfInBounds_toArray, List.set_cons_zero, List.set_cons_succ, i64_w, i32_w]
           rfl
          refine pure_ (i := 1) (N := some 49) (v := ?_) (a' := ?_) #[true, true, false, false, false, false, false, false, false, false, false] rfl rfl (any_of HT_.out (by kernel_rfl)) (fun _ _ _ h => h) (Or.inl ⟨by rfl, ?_⟩) ?_ ?_
          rotate_left
          ·intro w'
           go_simp
           with_reducible rfl
          rotate_left
          ·simp only [Act.put, List.setIfInBounds_toArray, List.set_cons_zero, List.set_cons_succ, i64_w, i32_w]
           rfl
          refine pure_ (i := 2) (N := some 50) (v := ?_) (a' := ?_) #[true, true, true, false, false, false, false, false, false, false, false] rfl rfl (any_of HT_.out (by kernel_rfl)) (fun _ _ _ h => h) (Or.inl ⟨by rfl, ?_⟩) ?_ ?_
          rotate_left
          ·intro w'
           go_simp
           with_reducible rfl
          rotate_left
          ·simp only [Act.put, List.setIfInBounds_toArray, List.set_cons_zero, List.set_cons_succ, i64_w, i32_w]
           rfl
          refine pure_ (i := 3) (N := some 51) (v := ?_) (a' := ?_) #[true, true, true, true, false, false, false, false, false, false, false] rfl rfl (any_of HT_.out (by kernel_rfl)) (fun _ _ _ h => h) (Or.inl ⟨by rfl, ?_⟩) ?_ ?_
          rotate_left
          ·intro w'
           go_simp
           with_reducible rfl
          rotate_left
          ·simp only [Act.put, List.setIfInBounds_toArray, List.set_cons_zero, List.set_cons_succ, i64_w, i32_w]
           rfl
          refine pure_ (i := 4) (N := some 52) (v := ?_) (a' := ?_) #[true, true, true, true, true, false, false, false, false, false, false] rfl rfl (any_of HT_.out (by kernel_rfl)) (fun _ _ _ h => h) (Or.inl ⟨by rfl, ?_⟩) ?_ ?_
          rotate_left
          ·intro w'
           go_simp
           with_reducible rfl
          rotate_left
          ·simp only [Act.put, List.setIfInBounds_toArray, List.set_cons_zero, List.set_cons_succ, i64_w, i32_w]
           rfl
          refine take_ (i := 5) (N := some 53) (v := ?_) (a' := ?_) #[true, true, true, true, true, true, false, false, false, false, false] rfl rfl (take_ofW HT_.out HW_.out (by kernel_rfl)) (fun _ _ _ h => h) (Or.inl ⟨by rfl, ?_⟩) hHeld ?_ ?_
          rotate_left
          ·rintro w' ⟨s0, s1, s2, s3⟩
           go_simp
           with_reducible rfl
          rotate_left
          ·simp only [Act.put, List.setIfInBounds_toArray, List.set_cons_zero, List.set_cons_succ, i64_w, i32_w]
           rfl
          refine take_ (i := 6) (N := some 54) (v := ?_) (a' := ?_) #[true, true, true, true, true, true, true, false, false, false, false] rfl rfl (take_ofW HT_.out HW_.out (by kernel_rfl)) (fun _ _ _ h => h) (Or.inl ⟨by rfl, ?_⟩) hHeld ?_ ?_
          rotate_left
          ·rintro w' ⟨s0, s1, s2, s3⟩
           go_simp
           with_reducible rfl
          rotate_left
          ·simp only [Act.put, List.setIfInBounds_toArray, List.set_cons_zero, List.set_cons_succ, i64_w, i32_w]
           rfl
          refine one_ (i := 7) (N := some 55) #[true, true, true, true, true, true, true, true, false, false, false] rfl rfl (one_of HT_.out (by kernel_rfl)) (by decide) (fun K hK => ?_)
          refine value_ (w1 := ?_) (v := ?_) (by rfl) rfl ?_ ?_
          rotate_left 2
          ·go_simp
           constructor
           ·rfl
           ·rfl
          refine hK.out _ _ ⟨(blk_cell (blk_alloc BK284.out _) 0).trans rfl, (blk_cell (blk_alloc BK284.out _) 1).trans rfl, (blk_cell (blk_alloc BK284.out _) 2).trans rfl, (World.cell?_alloc_lt _ _ _ (World.block_lt_of_cell? _ _ (hHeld.2.2.2))).trans (hHeld.2.2.2)⟩ (fun hHeld => ?_)
          clear hK K
          refine norm_ (a' := ?_) ?_ ?_
          rotate_left
          ·show Act.put _ (some 55) _ = _
           simp only [Act.put, List.setIfInBounds_toArray, List.set_cons_zero, List.set_cons_succ, i64_w, i32_w]
           rfl
          refine one_ (i := 8) (N := some 56) #[true, true, true, true, true, true, true, true, true, false, false] rfl rfl (one_of HT_.out (by kernel_rfl)) (by decide) (fun K hK => ?_)
          refine Kd.R_append_step k29 (w0 := w) w.heap.size (by rfl) (.tmp 53) (.tmp 55) 42 29 (.agg #[(.int .i64 0), (.int .i64 0), (.int .i64 0)]) 24 rfl Try.underlying42 info29 rfl (by decide) (by omega) (.slice A287_0 (rd_L2 x6_1 t285).length c287_0) (rd_L2 x6_1 t285) (⟨t280, t281, t282⟩ : S29) [.int .i64 t280, .int .i64 t281, .int .i64 t282] (fun k_ => oki43 k_ ∨ ((fun k_ => k_ ≠ gb284)) k_ ∧ w41.heap.size ≤ k_) (fun _ => False) rfl rfl ?aP (fun _ hk => hk.elim) ?aF ?aO ?aB ?aS ?aL ?_
          (case aP => exact k29_mkM _ _ _ (⟨t280, t281, t282⟩ : S29))
          (case aB => exact (hb_ HB))
          (case aF => exact (fun k_ hk => .inr ⟨Kd.freshB (g := gb284) (o := .cells #[.int .i64 t280, .int .i64 t281, .int .i64 t282] 29 (0, 0)) (kp_ BK284) k_ hk, hk⟩))
          (case aO => exact (Kd.R_pp (Kd.R_mono UU43.out (fun _ hk => .inl hk))))
          (case aS => exact (below_size (hb_ HB)))
          (case aL => have := LMc28.out; omega)
          intro v289 w44 ho hb hg hat
          (first | have HS3_ := cell_grown hg (hHeld.2.2.2) (by first | (rw [add_block]; exact (fun e_ => ((HL287_0.out.1 _ e_.symm).2) rfl)) | (show some (Addr.add _ _).block ≠ _; rw [add_block]; exact (fun e_ => ((HL287_0.out.1 _ e_.symm).2) rfl)) | exact (fun e_ => ((HL287_0.out.1 _ e_.symm).2) rfl)) | have HS3_ := cell_grown hg (cell_unalloc (hHeld.2.2.2) (by first | (rw [add_block]; exact Kd.S_lt HO_6.out _ rfl) | (show (Addr.add _ _).block < _; rw [add_block]; exact Kd.S_lt HO_6.out _ rfl) | exact Kd.S_lt HO_6.out _ rfl)) (by first | (rw [add_block]; exact (fun e_ => ((HL287_0.out.1 _ e_.symm).2) rfl)) | (show some (Addr.add _ _).block ≠ _; rw [add_block]; exact (fun e_ => ((HL287_0.out.1 _ e_.symm).2) rfl)) | exact (fun e_ => ((HL287_0.out.1 _ e_.symm).2) rfl)))
          rw [← Ny288.out] at ho
          have n0_ := Aside0.mk (blk_grown (kp_ BK269) hg (Kd.R_ne HL287_0.out BK269.out (by decide)))
          have n1_ := Aside0.mk (blk_grown (kp_ BK270) hg (Kd.R_ne HL287_0.out BK270.out (by decide)))
          have n2_ := Aside0.mk (blk_grown (kp_ BK275) hg (Kd.R_ne HL287_0.out BK275.out (by decide)))
          have n3_ := Aside0.mk (blk_grown (kp_ BK284) hg (Kd.R_away HL287_0.out (fun _ hk => hk.1.2)))
          have n4_ := Aside0.mk (hb)
          have n5_ := Aside0.mk (Kd.H_grown (Kd.H_widen (by repeat (first | exact HH43.out | refine Kd.H_alloc ?_ _ | refine Kd.H_drewN ?_ _ | refine Kd.H_drew ?_))) hg (fun k_ e_ => .inl (UU43.out.1 k_ e_)))
          have n6_ := Aside0.mk (ho)
          clear BK269
          clear BK270
          clear BK275
          clear BK284
          clear HB
          clear HH43
          clear HO_6
          clear UU43
          clear HL287_0
          have BK269 := n0_
          have BK270 := n1_
          have BK275 := n2_
          have BK284 := n3_
          have HB := n4_
          have HH43 := n5_
          have HO290 := n6_
          clear n0_ n1_ n2_ n3_ n4_ n5_ n6_
          clear ho hb hg hat
          have p29 : 0 ≤ (t285 : Int) := of_decide_eq_true (by first | (with_reducible assumption) | assumption)
          have q29 : (t285 : Int) < ((x6_1.length : Int) : Int) := of_decide_eq_true (by first | (with_reducible assumption) | assumption)
          replace p29 := eq_true p29
          replace q29 := eq_true q29
          obtain ⟨Ao47, co47, eo47⟩ := Kd.R_slice HO290.out
          (first | subst eo47 | (injection eo47 with f1_ f2_ f3_; have f4_ := f1_.symm; have f5_ := f3_.symm; clear f1_ f2_ f3_; subst f4_; subst f5_))
          obtain ⟨_, _, hraw45, _, _, hcc45, _⟩ := Kd.H_raw HH43.out (of_decide_eq_true (by first | (with_reducible assumption) | assumption)) (by have h_ : (t285 : Int) < ((x6_1.length : Int) : Int) := of_decide_eq_true (by first | (with_reducible assumption) | assumption); first | exact h_ | (have e_ := (HN43.out); omega) | simpa using h_)
          obtain ⟨_, hfr45⟩ := Kd.H_at HH43.out (of_decide_eq_true (by first | (with_reducible assumption) | assumption)) (by have h_ : (t285 : Int) < ((x6_1.length : Int) : Int) := of_decide_eq_true (by first | (with_reducible assumption) | assumption); first | exact h_ | (have e_ := (HN43.out); omega) | simpa using h_)
          have hx45_0 := hcc45 0 _ rfl
          have hf45_0 := hfr45 0
          (try simp only [Nat.add_zero] at hx45_0 hf45_0)
          (try rw [show ((Kd.slice 29 k29)).sz = 1 from rfl, Nat.mul_one] at hx45_0)
          (try rw [show ((Kd.slice 29 k29)).sz = 1 from rfl, Nat.mul_one] at hf45_0)
          have HP45 := Kd.S_seg0 HH43.out (of_decide_eq_true (by first | (with_reducible assumption) | assumption)) (by have h_ : (t285 : Int) < ((x6_1.length : Int) : Int) := of_decide_eq_true (by first | (with_reducible assumption) | assumption); first | exact h_ | (have e_ := (HN43.out); omega) | simpa using h_) (seg := [.slice Ao47 y288.length co47]) (j := 0) (show 1 ≤ 1 from by decide) (x' := y288) (Kd.M_row HO290.out) (fun _ hk => hk)
          (try simp only [show ((Kd.slice 29 k29)).sz = 1 from rfl, Nat.mul_one, Nat.add_zero] at HP45)
          clear hcc45 hfr45
          have HNB269_go43 := Aside0.mk (show gb269 ≠ go43 from by have h_ := Kd.R_ne hraw45 BK269.out (by decide); intro e_; exact h_ (by rw [e_]; rfl))
          have HNB270_go43 := Aside0.mk (show gb270 ≠ go43 from by have h_ := Kd.R_ne hraw45 BK270.out (by decide); intro e_; exact h_ (by rw [e_]; rfl))
          have HNB275_go43 := Aside0.mk (show gb275 ≠ go43 from by have h_ := Kd.R_ne hraw45 BK275.out (by decide); intro e_; exact h_ (by rw [e_]; rfl))
          have HNB284_go43 := Aside0.mk (show gb284 ≠ go43 from by have h_ := Kd.R_ne hraw45 BK284.out (by decide); intro e_; exact h_ (by rw [e_]; rfl))
          have HS45 := HP45.1
          rw [← Ny291.out] at HS45
          have HQ45 := Aside0.mk HS45
          obtain ⟨_, hgg45⟩ := Kd.R_typed hraw45 go43 rfl
          have GG45_ := Aside0.mk hgg45
          clear HP45 HS45 hgg45
          refine hK.out _ _ ⟨(blk_cell BK284.out 0).trans rfl, (blk_cell BK284.out 1).trans rfl, (blk_cell BK284.out 2).trans rfl, HS3_⟩ (fun hHeld => ?_)
          clear hK K
          refine norm_ (a' := ?_) ?_ ?_
          rotate_left
          ·show Act.put _ (some 56) _ = _
           simp only [Act.put, List.setIfInBounds_toArray, List.set_cons_zero, List.set_cons_succ, i64_w, i32_w]
           rfl
          refine pure_ (i := 9) (N := some 57) (v := ?_) (a' := ?_) #[true, true, true, true, true, true, true, true, true, true, false] rfl rfl (any_of HT_.out (by kernel_rfl)) (fun _ _ _ h => h) (Or.inl ⟨by rfl, ?_⟩) ?_ ?_
          rotate_left
          ·intro w'
           go_simp
           with_reducible rfl
          rotate_left
          ·simp only [Act.put, List.setIfInBounds_toArray, List.set_cons_zero, List.set_cons_succ, i64_w, i32_w]
           rfl
          refine last_ (i := 10) (N := none) #[true, true, true, true, true, true, true, true, true, true, true] rfl rfl (one_of HT_.out (by kernel_rfl)) (by decide) (fun K hK => ?_)
          refine skip_ (w1 := ?_) (by rfl) rfl ?_ ?_
          rotate_left
          ·go_simp
           rfl
          refine hK.out _ _ ?_
          clear hK K
          refine done_ (done_of HT_.out (by kernel_rfl)) ?_
          have hcz48_0 : w44.cell? ⟨gb284, 0, none⟩ = some (.int .i64 t280) := (blk_cell BK284.out 0).trans rfl
          have hcz48_1 : w44.cell? ⟨gb284, 1, none⟩ = some (.int .i64 t281) := (blk_cell BK284.out 1).trans rfl
          have hcz48_2 : w44.cell? ⟨gb284, 2, none⟩ = some (.int .i64 t282) := (blk_cell BK284.out 2).trans rfl
          have hfz48_0 := blk_frozen BK284.out 0
          have hfz48_1 := blk_frozen BK284.out 1
          have hfz48_2 := blk_frozen BK284.out 2
          have hnb48 := HNB284_go43.out
          have hnc48 := Ne.symm hnb48
          try go_wp2
          go_roundg k1
          case measure => have := HK1.out; omega
          case rel => exact ⟨(y291), (wrap64 (x7_1 - t281)), (wrap64 (x32_1 + 1)), (by first | rfl | (simp; done) | (simp [*]; done)), (by first | rfl | (simp; done) | (simp [*]; done)), H', ⟨by have := HK1.out; omega⟩, ⟨by (with_reducible repeat (first | apply Kd.S_alloc | apply Kd.S_drewN | apply Kd.S_drew)); exact Kd.S_mono HQ45.out (fun _ hk => trivial)⟩, ⟨by (with_reducible repeat (first | refine blk_drewN ?_ _ | refine blk_drew ?_ | refine blk_alloc ?_ _)); refine blk_far ?_ HNB269_go43.out _; (with_reducible repeat (first | refine blk_drewN ?_ _ | refine blk_drew ?_ | refine blk_alloc ?_ _)); exact BK269.out⟩, ⟨by (with_reducible repeat (first | refine blk_drewN ?_ _ | refine blk_drew ?_ | refine blk_alloc ?_ _)); refine blk_far ?_ HNB270_go43.out _; (with_reducible repeat (first | refine blk_drewN ?_ _ | refine blk_drew ?_ | refine blk_alloc ?_ _)); exact BK270.out⟩, ⟨by (with_reducible repeat (first | refine blk_drewN ?_ _ | refine blk_drew ?_ | refine blk_alloc ?_ _)); refine blk_far ?_ HNB275_go43.out _; (with_reducible repeat (first | refine blk_drewN ?_ _ | refine blk_drew ?_ | refine blk_alloc ?_ _)); exact BK275.out⟩, ⟨by repeat (first | (with_reducible first | exact HB.out | apply below_alloc | apply pw_below_drewN | apply below_drew1 | refine below_set ?_ GB43.out | refine below_set ?_ GE269.out | refine below_set ?_ GE270.out | refine below_set ?_ GE275.out | refine below_set ?_ GE284.out) | exact HB.out)⟩⟩
         ·rw [if_neg c28] at H
          exact absurd H (by simp)
        ·rw [if_neg c27] at H
         exact absurd H (by simp)
       ·rw [if_neg c26] at H
        exact absurd H (by simp)
      ·rw [if_neg c23] at H
       have c23b0 : decide (x32_1 < (l0_3.length : Int)) = false := decide_eq_false c23
       clear c23
       have H' := Aside0.mk H
       clear H
       obtain ⟨Ao49, co49, eo49⟩ := Kd.S_slice HO_6.out
       subst eo49
       go_wp2
       go_loopg [7, 65] k1 (fun kq v7 v65 w' => ∃ (x7_2 : Int) (x65_2 : Int) (x271000_2 : Int) (x271001_2 : Int) (x271002_2 : Int) (x276003_2 : List Int) (x276004_2 : List Int) (x276005_2 : List Int) (u276003 : Value) (u276004 : Value) (u276005 : Value), v7 = .int .i64 x7_2 ∧ v65 = .int .i64 x65_2 ∧ Aside0 (impl_CoarseModel.l1 kq x7_2 x6_1 (x6_1.length : Int) x65_2 t272 t273 t274 x276003_2 x276004_2 x276005_2 = some (r1, r2, r3, r4, r5, r6, r7, r8)) ∧ Aside0 (kq ≤ k1) ∧ Aside0 (Kd.S (Kd.slice 29 k29) 42 w' w.heap.size (fun _ => True) (.slice Ao49 x6_1.length co49) x6_1) ∧ Aside0 (Kd.R (Kd.int .i64) 3 w' w.heap.size (fun k_ => some k_ ≠ (u276004 : Value).ownBlock ∧ some k_ ≠ (u276005 : Value).ownBlock) u276003 x276003_2) ∧ Aside0 (Kd.R (Kd.int .i64) 3 w' w.heap.size (fun k_ => some k_ ≠ (u276003 : Value).ownBlock ∧ some k_ ≠ (u276005 : Value).ownBlock) u276004 x276004_2) ∧ Aside0 (Kd.R (Kd.int .i64) 3 w' w.heap.size (fun k_ => some k_ ≠ (u276003 : Value).ownBlock ∧ some k_ ≠ (u276004 : Value).ownBlock) u276005 x276005_2) ∧ Aside0 (w'.heap[gb270]? = some (.cells #[.int .i64 x271000_2, .int .i64 x271001_2, .int .i64 x271002_2, (.slice none 0 0), (.slice none 0 0), (.slice none 0 0)] 34 (0, 0))) ∧ Aside0 (w'.heap[gb275]? = some (.cells #[.int .i64 t272, .int .i64 t273, .int .i64 t274, u276003, u276004, u276005] 34 (0, 0))) ∧ Aside0 (Below w.heap.size w w'))
       case atStart => exact ⟨(x7_1), (0), (0), (0), (0), (([] : List Int)), (([] : List Int)), (([] : List Int)), (.slice none 0 0), (.slice none 0 0), (.slice none 0 0), (by first | rfl | (simp; done) | (simp [*]; done)), (by first | rfl | (simp; done) | (simp [*]; done)), H', ⟨Nat.le_refl _⟩, ⟨by (with_reducible repeat (first | apply Kd.S_alloc | apply Kd.S_drewN | apply Kd.S_drew)); exact HO_6.out⟩, ⟨by first | exact Kd.R_nil _ _ _ _ _ | exact Kd.N_nil _ _ _ _ _ | exact Kd.V_nil _ _ _ _ _ | exact Kd.Q_nil _ _ _ _ _ | exact Kd.S_nil _ _ _ _ _⟩, ⟨by first | exact Kd.R_nil _ _ _ _ _ | exact Kd.N_nil _ _ _ _ _ | exact Kd.V_nil _ _ _ _ _ | exact Kd.Q_nil _ _ _ _ _ | exact Kd.S_nil _ _ _ _ _⟩, ⟨by first | exact Kd.R_nil _ _ _ _ _ | exact Kd.N_nil _ _ _ _ _ | exact Kd.V_nil _ _ _ _ _ | exact Kd.Q_nil _ _ _ _ _ | exact Kd.S_nil _ _ _ _ _⟩, ⟨kp_ BK270⟩, ⟨kp_ BK275⟩, ⟨hb_ HB⟩⟩
       case round =>
        clear H'
        (try clear c1); (try clear c2); (try clear p2); (try clear q2); (try clear hx2); (try clear c3); (try clear c4); (try clear hx4); (try clear hf4); (try clear c5); (try clear c6); (try clear c6b0); (try clear c6b1); (try clear p6); (try clear c7); (try clear c7b0); (try clear c7b1); (try clear c8); (try clear c10); (try clear c14); (try clear c16); (try clear c17); (try clear c23); (try clear c23b0); (try clear c26); (try clear c26b0); (try clear c27); (try clear c27b0); (try clear c28); (try clear p28); (try clear q28); (try clear hx28); (try clear p29); (try clear q29); (try clear c30); (try clear c31); (try clear c34); (try clear c35); (try clear c36); (try clear c37); (try clear c43); (try clear c45); (try clear hx45); (try clear hf45)
        obtain ⟨x7_2, x65_2, x271000_2, x271001_2, x271002_2, x276003_2, x276004_2, x276005_2, u276003, u276004, u276005, rfl, rfl, HA, HK2, HO_63, HO_276003, HO_276004, HO_276005, BK270, BK275, HB⟩ := hrel
        cases gk with
        | zero => exact absurd HA.out (by simp [impl_CoarseModel.l1])
        | succ k2 =>
         have H := HA.out
         clear HA
         simp only [impl_CoarseModel.l1] at H
         by_cases c50 : x65_2 < (x6_1.length : Int)
         ·rw [if_pos c50] at H
          have c50b0 : decide (x65_2 < (x6_1.length : Int)) = true := decide_eq_true c50
          clear c50
          by_cases c51 : 0 ≤ x65_2
          ·rw [if_pos c51] at H
           have c51b0 : decide (0 ≤ x65_2) = true := decide_eq_true c51
           clear c51
           by_cases c52 : x65_2 < (x6_1.length : Int)
           ·rw [if_pos c52] at H
            have c52b0 : decide (x65_2 < (x6_1.length : Int)) = true := decide_eq_true c52
            clear c52
            replace H := Option.bind_eq_some_iff.mp H
            obtain ⟨⟨t293, t294, t295, t296⟩, A530, H⟩ := H
            replace H : (if t296 = true then (if x276003_2.length < 17592186044416 then ((impl_roundedGrade.f t293 t294 t295).bind fun t301 => (if x276004_2.length < 17592186044416 then (if x276005_2.length < 17592186044416 then ((impl_roundedGrade.f t293 t294 t295).bind fun t308 => (impl_CoarseModel.l1 k2 (wrap64 (x7_2 + (wrap64 (t293 * t308)))) x6_1 (x6_1.length : Int) (wrap64 (x65_2 + 1)) t272 t273 t274 (x276003_2 ++ [t293]) (x276004_2 ++ [t301]) (x276005_2 ++ [t295]))) else (none)) else (none))) else (none)) else (some (0, 0, 0, ([] : List Int), ([] : List Int), ([] : List Int), 0, false))) = some (r1, r2, r3, r4, r5, r6, r7, r8) := H
            have A53 := Aside0.mk A530
            clear A530
            by_cases c54 : t296 = true
            ·subst c54
             have H1 : (if x276003_2.length < 17592186044416 then ((impl_roundedGrade.f t293 t294 t295).bind fun t301 => (if x276004_2.length < 17592186044416 then (if x276005_2.length < 17592186044416 then ((impl_roundedGrade.f t293 t294 t295).bind fun t308 => (impl_CoarseModel.l1 k2 (wrap64 (x7_2 + (wrap64 (t293 * t308)))) x6_1 (x6_1.length : Int) (wrap64 (x65_2 + 1)) t272 t273 t274 (x276003_2 ++ [t293]) (x276004_2 ++ [t301]) (x276005_2 ++ [t295]))) else (none)) else (none))) else (none)) = some (r1, r2, r3, r4, r5, r6, r7, r8) := by rw [if_pos rfl] at H; exact H
             clear H
             have H := H1
             clear H1
             by_cases c55 : x276003_2.length < 17592186044416
             ·rw [if_pos c55] at H
              have LMc55 := Aside0.mk c55
              clear c55
              obtain ⟨y298, hy298⟩ : ∃ y_ : List Int, y_ = (x276003_2 ++ [t293]) := ⟨_, rfl⟩
              replace H : ((impl_roundedGrade.f t293 t294 t295).bind fun t301 => (if x276004_2.length < 17592186044416 then (if x276005_2.length < 17592186044416 then ((impl_roundedGrade.f t293 t294 t295).bind fun t308 => (impl_CoarseModel.l1 k2 (wrap64 (x7_2 + (wrap64 (t293 * t308)))) x6_1 (x6_1.length : Int) (wrap64 (x65_2 + 1)) t272 t273 t274 y298 (x276004_2 ++ [t301]) (x276005_2 ++ [t295]))) else (none)) else (none))) = some (r1, r2, r3, r4, r5, r6, r7, r8) := by first | (rw [hy298]; with_reducible exact H) | (have H2_ := (Option.bind_some _ _).symm.trans H; rw [hy298]; with_reducible exact H2_) | (have H2_ := (Option.bind_some _ _).symm.trans H; with_reducible exact H2_) | with_reducible exact H | (rw [hy298]; exact H) | exact H
              have Ny298 := Aside0.mk hy298
              clear hy298
              replace H := Option.bind_eq_some_iff.mp H
              obtain ⟨t301, A560, H⟩ := H
              replace H : (if x276004_2.length < 17592186044416 then (if x276005_2.length < 17592186044416 then ((impl_roundedGrade.f t293 t294 t295).bind fun t308 => (impl_CoarseModel.l1 k2 (wrap64 (x7_2 + (wrap64 (t293 * t308)))) x6_1 (x6_1.length : Int) (wrap64 (x65_2 + 1)) t272 t273 t274 y298 (x276004_2 ++ [t301]) (x276005_2 ++ [t295]))) else (none)) else (none)) = some (r1, r2, r3, r4, r5, r6, r7, r8) := H
              have A56 := Aside0.mk A560
              clear A560
              by_cases c57 : x276004_2.length < 17592186044416
              ·rw [if_pos c57] at H
               have LMc57 := Aside0.mk c57
               clear c57
               obtain ⟨y302, hy302⟩ : ∃ y_ : List Int, y_ = (x276004_2 ++ [t301]) := ⟨_, rfl⟩
               replace H : (if x276005_2.length < 17592186044416 then ((impl_roundedGrade.f t293 t294 t295).bind fun t308 => (impl_CoarseModel.l1 k2 (wrap64 (x7_2 + (wrap64 (t293 * t308)))) x6_1 (x6_1.length : Int) (wrap64 (x65_2 + 1)) t272 t273 t274 y298 y302 (x276005_2 ++ [t295]))) else (none)) = some (r1, r2, r3, r4, r5, r6, r7, r8) := by first | (rw [hy302]; with_reducible exact H) | (have H2_ := (Option.bind_some _ _).symm.trans H; rw [hy302]; with_reducible exact H2_) | (have H2_ := (Option.bind_some _ _).symm.trans H; with_reducible exact H2_) | with_reducible exact H | (rw [hy302]; exact H) | exact H
               have Ny302 := Aside0.mk hy302
               clear hy302
               by_cases c58 : x276005_2.length < 17592186044416
               ·rw [if_pos c58] at H
                have LMc58 := Aside0.mk c58
                clear c58
                obtain ⟨y305, hy305⟩ : ∃ y_ : List Int, y_ = (x276005_2 ++ [t295]) := ⟨_, rfl⟩
                replace H : ((impl_roundedGrade.f t293 t294 t295).bind fun t308 => (impl_CoarseModel.l1 k2 (wrap64 (x7_2 + (wrap64 (t293 * t308)))) x6_1 (x6_1.length : Int) (wrap64 (x65_2 + 1)) t272 t273 t274 y298 y302 y305)) = some (r1, r2, r3, r4, r5, r6, r7, r8) := by first | (rw [hy305]; with_reducible exact H) | (have H2_ := (Option.bind_some _ _).symm.trans H; rw [hy305]; with_reducible exact H2_) | (have H2_ := (Option.bind_some _ _).symm.trans H; with_reducible exact H2_) | with_reducible exact H | (rw [hy305]; exact H) | exact H
                have Ny305 := Aside0.mk hy305
                clear hy305
                replace H := Option.bind_eq_some_iff.mp H
                obtain ⟨t308, A590, H⟩ := H
                replace H : (impl_CoarseModel.l1 k2 (wrap64 (x7_2 + (wrap64 (t293 * t308)))) x6_1 (x6_1.length : Int) (wrap64 (x65_2 + 1)) t272 t273 t274 y298 y302 y305) = some (r1, r2, r3, r4, r5, r6, r7, r8) := H
                have A59 := Aside0.mk A590
                clear A590
                have H' := Aside0.mk H
                clear H
                have p292 : 0 ≤ (x65_2 : Int) := of_decide_eq_true (by first | (with_reducible assumption) | assumption)
                have q292 : x65_2 < (x6_1.length : Int) := of_decide_eq_true (by first | (with_reducible assumption) | assumption)
                obtain ⟨ad292, A292_0, c292_0, e292, hx292_0, hl292_0, hi292_0⟩ := at_L2 (Kd.S_reads' HO_63.out).2.2 x65_2 p292 q292
                cases e292
                obtain ⟨ce292, hce292, hMe292, hcc292⟩ := Kd.S_get HO_63.out [] x65_2 p292 (by first | exact q292 | exact of_decide_eq_true (by first | (with_reducible assumption) | assumption) | (have e_ := (Kd.S_reads' HO_63.out).1; omega))
                obtain ⟨ve292_0, rfl, ge292_0⟩ := hMe292
                have hv292_0 := hcc292 0 _ rfl
                rw [Nat.add_zero, show ((Kd.slice 29 k29)).sz = 1 from rfl, Nat.mul_one] at hv292_0
                replace hv292_0 := Option.some.inj (hv292_0.symm.trans hx292_0)
                rw [hv292_0] at ge292_0
                have HL292_0 := Aside0.mk (show Kd.R k29 29 _ _ _ _ (rd_L2 x6_1 x65_2) from ge292_0)
                clear hv292_0 ge292_0
                have HX292_0 := Aside0.mk hx292_0
                clear hcc292 hce292
                have HR292_0 := Aside0.mk hi292_0
                have HC292_0 := Aside0.mk hl292_0
                clear hi292_0 hl292_0
                replace p292 := eq_true p292
                replace q292 := eq_true q292
                try go_wp2_with (first | ((with_reducible refine gate_callee (f := 69) rfl ?_); refine gl_ (some 71) Try.func69 #[.slice A292_0 (rd_L2 x6_1 x65_2).length c292_0] rfl rfl rfl ?_; (with_reducible refine (impl_joinPieces.calls k2 _ _ (rd_L2 x6_1 x65_2) t293 t294 t295 true _ ?side1 ?side2 A53.out).mono ?_); (case side1 => repeat (first | exact (by repeat (first | (with_reducible exact HR292_0.out) | (with_reducible refine Kd.C_alloc ?_ _) | (with_reducible refine Kd.C_drewN ?_ _) | (with_reducible refine Kd.C_drew ?_) | exact HR292_0.out)) | (with_reducible refine Kd.C_alloc ?_ _) | (with_reducible refine Kd.C_drewN ?_ _) | (with_reducible refine Kd.C_drew ?_))); (case side2 => exact HC292_0.out); rintro e w60 ⟨rfl, hb⟩; refine ⟨_, rfl, ?_⟩; replace HO_63 := Aside0.mk (Kd.S_below (by (with_reducible repeat (first | apply Kd.S_alloc | apply Kd.S_drewN | apply Kd.S_drew)); exact HO_63.out) hb); replace HO_276003 := Kd.R_b HO_276003 hb; replace HO_276004 := Kd.R_b HO_276004 hb; replace HO_276005 := Kd.R_b HO_276005 hb; replace HL292_0 := Kd.R_b HL292_0 hb; replace BK270 := kb_ BK270 hb; replace BK275 := kb_ BK275 hb; replace HR292_0 := Aside0.mk (Kd.C_below (by repeat (first | (with_reducible exact HR292_0.out) | (with_reducible refine Kd.C_alloc ?_ _) | (with_reducible refine Kd.C_drewN ?_ _) | (with_reducible refine Kd.C_drew ?_) | exact HR292_0.out)) hb); replace HX292_0 := Aside0.mk (pw_cell_below hb HX292_0.out); replace HB := hbs_ HB hb; (try clear hb); (try clear hb2); (try clear hk); (try clear hi); try clear HR292_0) | ((with_reducible refine gate_dst (N := 15) rfl ?_); refine box_event ?hg (N := 15) ?hd (cs := #[.int .i64 0, .int .i64 0, .int .i64 0]) (t := 29) ?hr ?_; (case hd => rfl); (case hg => rfl); (case hr => first | (go_simp; done) | (go_simp; rfl)); intro gb297 hg w61 hbox hb; have BK297 := Aside0.mk (hbox); have GW297 := gs_ hg HB; have GE297 := gs_ hg HB; have NB270_297 := nl_ hg BK270; have NB297_270 := ng_ hg BK270; have NB275_297 := nl_ hg BK275; have NB297_275 := ng_ hg BK275; replace HO_63 := Aside0.mk (Kd.S_below (Kd.S_elderB (by (with_reducible repeat (first | apply Kd.S_alloc | apply Kd.S_drewN | apply Kd.S_drew)); exact HO_63.out) gb297 (Nat.le_of_eq hg.symm)) hb); replace HO_276003 := Kd.R_b HO_276003 hb; replace HO_276004 := Kd.R_b HO_276004 hb; replace HO_276005 := Kd.R_b HO_276005 hb; replace HL292_0 := Aside0.mk (Kd.R_below (Kd.R_elderB (Kd.R_p HL292_0) gb297 (Nat.le_of_eq hg.symm)) hb); replace BK270 := kb_ BK270 hb; replace BK275 := kb_ BK275 hb; replace HX292_0 := Aside0.mk (pw_cell_below hb HX292_0.out); replace HB := hbs_ HB hb; clear hb hbox hg; have hnb62 := NB297_270.out; have hnc62 := NB270_297.out; have hnb63 := NB297_275.out; have hnc63 := NB275_297.out; obtain ⟨hcz64_0, hcz64_1, hcz64_2, hfz64_0, hfz64_1, hfz64_2⟩ := bx3 BK297; have hnb65 := NB275_270.out; have hnc65 := NB270_275.out; obtain ⟨hcz66_0, hcz66_1, hcz66_2, hcz66_3, hcz66_4, hcz66_5, hfz66_0, hfz66_1, hfz66_2, hfz66_3, hfz66_4, hfz66_5⟩ := bx6 BK275) | ((with_reducible refine gate_builtin (b := .append) (xs := #[.tmp 78, .tmp 81]) rfl ?_); at_builtin; refine Kd.R_append (Kd.int .i64) (w0 := w) w.heap.size rfl (.tmp 78) (.tmp 81) 24 3 (.int .i64 0) 8 rfl Try.underlying24 info3 rfl (by decide) (by omega) u276003 x276003_2 t293 [.int .i64 t293] (fun k_ => some k_ ≠ (u276004 : Value).ownBlock ∧ some k_ ≠ (u276005 : Value).ownBlock) (fun _ => False) rfl (by first | (go_simp; done) | (go_simp; rfl)) ?aP (fun _ hk => hk.elim) ?aF ?aO ?aB ?aS ?aL ?_; (case aP => exact rfl); (case aB => exact (hb_ HB)); (case aF => exact (fun k_ hk => ⟨Kd.fresh' (Kd.R_lt (Kd.R_s HO_276004 BK297)) k_ hk, Kd.fresh' (Kd.R_lt (Kd.R_s HO_276005 BK297)) k_ hk⟩)); (case aO => exact (Kd.R_mono (Kd.R_s HO_276003 BK297) (fun _ hk => ⟨hk.1, hk.2⟩))); (case aS => exact (below_size (hb_ HB))); (case aL => have := LMc55.out; omega); intro v299 w67 ho hb hg hat; rw [← Ny298.out] at ho; have HO300 := Aside0.mk (ho); replace HO_63 := Aside0.mk (Kd.S_over' (by (with_reducible repeat (first | apply Kd.S_alloc | apply Kd.S_drewN | apply Kd.S_drew)); exact (Kd.S_mono (Kd.S_far (p := ⟨gb297, 2, none⟩) (Kd.S_far (p := ⟨gb297, 1, none⟩) (Kd.S_far (p := ⟨gb297, 0, none⟩) (Kd.S_mono HO_63.out (fun k_ hk => (⟨hk, hk.2⟩ : _ ∧ k_ ≠ gb297))) (fun _ hk => hk.2) (.int .i64 t293)) (fun _ hk => hk.2) (.int .i64 t294)) (fun _ hk => hk.2) (.int .i64 t295)) (fun _ h_ => h_.1))) (Kd.R_typed (Kd.R_s HO_276003 BK297)) (by decide) hg); replace HO_276004 := Aside0.mk (Kd.R_after (ok := (fun k_ => some k_ ≠ (u276005 : Value).ownBlock)) (Kd.R_mono (Kd.R_s HO_276004 BK297) (fun _ hk => ⟨hk.2, hk.1⟩)) hg hat); replace HO_276005 := Aside0.mk (Kd.R_after (ok := (fun k_ => some k_ ≠ (u276004 : Value).ownBlock)) (Kd.R_mono (Kd.R_s HO_276005 BK297) (fun _ hk => ⟨hk.2, hk.1⟩)) hg hat); replace BK270 := Aside0.mk (blk_grown (kf_ BK270 NB270_297) hg (Kd.R_ne HO_276003.out BK270.out (by decide))); replace BK275 := Aside0.mk (blk_grown (kf_ BK275 NB275_297) hg (Kd.R_ne HO_276003.out BK275.out (by decide))); replace HL292_0 := Aside0.mk (Kd.R_over' (Kd.R_pp ((Kd.R_mono (Kd.R_far (p := ⟨gb297, 2, none⟩) (Kd.R_far (p := ⟨gb297, 1, none⟩) (Kd.R_far (p := ⟨gb297, 0, none⟩) (Kd.R_mono HL292_0.out (fun k_ hk => (⟨hk, hk.2⟩ : _ ∧ k_ ≠ gb297))) (fun _ hk => hk.2) (.int .i64 t293)) (fun _ hk => hk.2) (.int .i64 t294)) (fun _ hk => hk.2) (.int .i64 t295)) (fun _ h_ => h_.1)))) (Kd.R_typed (Kd.R_s HO_276003 BK297)) (by decide) hg); replace HB := Aside0.mk (hb); replace BK297 := Aside0.mk (blk_grown (g := gb297) (o := .cells #[.int .i64 t293, .int .i64 t294, .int .i64 t295] 29 (0, 0)) (kpq_ (kputs BK297 [(0, _), (1, _), (2, _)])) hg (Kd.R_ne HO_276003.out BK297.out (by decide))); clear HO_276003; clear ho hb hg hat; obtain ⟨Ao68, co68, eo68⟩ := Kd.R_slice HO300.out; subst eo68; obtain ⟨hcz69_0, hcz69_1, hcz69_2, hcz69_3, hcz69_4, hcz69_5, hfz69_0, hfz69_1, hfz69_2, hfz69_3, hfz69_4, hfz69_5⟩ := bx6 BK275))
                have n0_ : Aside0 (Kd.S (Kd.slice 29 k29) 42 (w67.setCell ⟨gb275, 3, none⟩ (.slice Ao68 y298.length co68)) w.heap.size (fun k_ => k_ ≠ gb297) (.slice (some ad292) x6_1.length co49) x6_1) := ⟨by (with_reducible repeat (first | apply Kd.S_alloc | apply Kd.S_drewN | apply Kd.S_drew)); exact Kd.S_mono (Kd.S_far (p := ⟨gb275, 3, none⟩) (Kd.S_types HO_63.out BK275.out (by decide)) (fun _ hk => hk.2) (.slice Ao68 y298.length co68)) (fun _ hk => hk.1.2)⟩
                have n1_ : Aside0 (Kd.R (Kd.int .i64) 3 (w67.setCell ⟨gb275, 3, none⟩ (.slice Ao68 y298.length co68)) w.heap.size (fun k_ => some k_ ≠ (u276005 : Value).ownBlock ∧ some k_ ≠ (.slice Ao68 y298.length co68 : Value).ownBlock) u276004 x276004_2) := ⟨Kd.R_mono (Kd.R_s HO_276004 BK275) (fun _ hk => ⟨hk.1, hk.2⟩)⟩
                have n2_ : Aside0 (Kd.R (Kd.int .i64) 3 (w67.setCell ⟨gb275, 3, none⟩ (.slice Ao68 y298.length co68)) w.heap.size (fun k_ => some k_ ≠ (u276004 : Value).ownBlock ∧ some k_ ≠ (.slice Ao68 y298.length co68 : Value).ownBlock) u276005 x276005_2) := ⟨Kd.R_mono (Kd.R_s HO_276005 BK275) (fun _ hk => ⟨hk.1, hk.2⟩)⟩
                have n3_ : Aside0 (Kd.R k29 29 (w67.setCell ⟨gb275, 3, none⟩ (.slice Ao68 y298.length co68)) w.heap.size (fun k_ => some k_ ≠ (.slice (some ad292) x6_1.length co49 : Value).ownBlock ∧ k_ ≠ gb297) (.slice A292_0 (rd_L2 x6_1 x65_2).length c292_0) (rd_L2 x6_1 x65_2)) := ⟨Kd.R_mono (Kd.R_s HL292_0 BK275) (fun _ hk => ⟨hk.1.2, hk.2⟩)⟩
                have n4_ : Aside0 (Kd.R (Kd.int .i64) 3 (w67.setCell ⟨gb275, 3, none⟩ (.slice Ao68 y298.length co68)) w.heap.size (fun k_ => some k_ ≠ (u276004 : Value).ownBlock ∧ some k_ ≠ (u276005 : Value).ownBlock) (.slice Ao68 y298.length co68) y298) := ⟨Kd.R_mono (Kd.R_s HO300 BK275) (fun _ hk => ⟨hk.1, hk.2⟩)⟩
                have n5_ : Aside0 ((w67.setCell ⟨gb275, 3, none⟩ (.slice Ao68 y298.length co68)).heap[gb270]? = some (.cells #[.int .i64 x271000_2, .int .i64 x271001_2, .int .i64 x271002_2, .slice none 0 0, .slice none 0 0, .slice none 0 0] 34 (0, 0))) := ⟨kf_ BK270 NB270_275⟩
                have n6_ : Aside0 ((w67.setCell ⟨gb275, 3, none⟩ (.slice Ao68 y298.length co68)).heap[gb275]? = some (.cells #[.int .i64 t272, .int .i64 t273, .int .i64 t274, .slice Ao68 y298.length co68, u276004, u276005] 34 (0, 0))) := ⟨kpq_ (kputs BK275 [(3, _)])⟩
                have n7_ : Aside0 ((w67.setCell ⟨gb275, 3, none⟩ (.slice Ao68 y298.length co68)).heap[gb297]? = some (.cells #[.int .i64 t293, .int .i64 t294, .int .i64 t295] 29 (0, 0))) := ⟨kf_ BK297 NB297_275⟩
                have n8_ : Aside0 (Below w.heap.size w (w67.setCell ⟨gb275, 3, none⟩ (.slice Ao68 y298.length co68))) := ⟨hb_ HB⟩
                (try clear HO_63)
                (try clear HO_276004)
                (try clear HO_276005)
                (try clear HL292_0)
                (try clear HO300)
                (try clear BK270)
                (try clear BK275)
                (try clear BK297)
                (try clear HB)
                generalize (w67.setCell ⟨gb275, 3, none⟩ (.slice Ao68 y298.length co68)) = w70 at n0_ n1_ n2_ n3_ n4_ n5_ n6_ n7_ n8_ ⊢
                have HO_63 := n0_
                have HO_276004 := n1_
                have HO_276005 := n2_
                have HL292_0 := n3_
                have HO300 := n4_
                have BK270 := n5_
                have BK275 := n6_
                have BK297 := n7_
                have HB := n8_
                clear n0_ n1_ n2_ n3_ n4_ n5_ n6_ n7_ n8_
                have n0_ := Aside0.mk (Kd.S_drew HO_63.out)
                have n1_ := Aside0.mk (Kd.R_drew HO_276004.out)
                have n2_ := Aside0.mk (Kd.R_drew HO_276005.out)
                have n3_ := Aside0.mk (Kd.R_drew HL292_0.out)
                have n4_ := Aside0.mk (Kd.R_drew HO300.out)
                have n5_ := Aside0.mk (blk_drew BK270.out)
                have n6_ := Aside0.mk (blk_drew BK275.out)
                have n7_ := Aside0.mk (blk_drew BK297.out)
                have n8_ := Aside0.mk (below_drew1 HB.out)
                clear HO_63
                clear HO_276004
                clear HO_276005
                clear HL292_0
                clear HO300
                clear BK270
                clear BK275
                clear BK297
                clear HB
                have HO_63 := n0_
                have HO_276004 := n1_
                have HO_276005 := n2_
                have HL292_0 := n3_
                have HO300 := n4_
                have BK270 := n5_
                have BK275 := n6_
                have BK297 := n7_
                have HB := n8_
                clear n0_ n1_ n2_ n3_ n4_ n5_ n6_ n7_ n8_
                refine start_ (n := 8) (S := fun w' => w'.cell? ⟨gb275, 0, none⟩ = some (.int .i64 t272) ∧ w'.cell? ⟨gb275, 1, none⟩ = some (.int .i64 t273) ∧ w'.cell? ⟨gb275, 2, none⟩ = some (.int .i64 t274) ∧ w'.cell? ⟨gb275, 3, none⟩ = some (.slice Ao68 y298.length co68) ∧ w'.cell? ⟨gb275, 4, none⟩ = some (u276004) ∧ w'.cell? ⟨gb275, 5, none⟩ = some (u276005) ∧ w'.cell? ⟨gb297, 0, none⟩ = some (.int .i64 t293) ∧ w'.cell? ⟨gb297, 1, none⟩ = some (.int .i64 t294) ∧ w'.cell? ⟨gb297, 2, none⟩ = some (.int .i64 t295)) (ds := [7]) #[false, false, false, false, false, false, false, false] (by kernel_rfl) rfl rfl ⟨(blk_cell BK275.out 0).trans rfl, (blk_cell BK275.out 1).trans rfl, (blk_cell BK275.out 2).trans rfl, (blk_cell BK275.out 3).trans rfl, (blk_cell BK275.out 4).trans rfl, (blk_cell BK275.out 5).trans rfl, (blk_cell BK297.out 0).trans rfl, (blk_cell BK297.out 1).trans rfl, (blk_cell BK297.out 2).trans rfl⟩ (fun hHeld => ?_); refine with_tabW impl_CoarseModel.tab21 impl_CoarseModel.bits21 (fun HT_ HW_ => ?_)
                generalize w70.drew = w71 at HO_63 HO_276004 HO_276005 HL292_0 HO300 BK270 BK275 BK297 HB hHeld ⊢
                refine pure_ (i := 0) (N := some 84) (v := ?_) (a' := ?_) #[true, false, false, false, false, false, false, false] rfl rfl (any_of HT_.out (by kernel_rfl)) (fun _ _ _ h => h) (Or.inl ⟨by rfl, ?_⟩) ?_ ?_
                rotate_left
                ·intro w'
                 go_simp
                 with_reducible rfl
                rotate_left
                ·simp only [Act.put, List.setIfInBounds_toArray, List.set_cons_zero, List.set_cons_succ, i64_w, i32_w]
                 rfl
                refine take_ (i := 1) (N := some 85) (v := ?_) (a' := ?_) #[true, true, false, false, false, false, false, false] rfl rfl (take_ofW HT_.out HW_.out (by kernel_rfl)) (fun _ _ _ h => h) (Or.inl ⟨by rfl, ?_⟩) hHeld ?_ ?_
                rotate_left
                ·rintro w' ⟨s0, s1, s2, s3, s4, s5, s6, s7, s8⟩
                 go_simp
                 with_reducible rfl
                rotate_left
                ·simp only [Act.put, List.setIfInBounds_toArray, List.set_cons_zero, List.set_cons_succ, i64_w, i32_w]
                 rfl
                refine take_ (i := 2) (N := some 86) (v := ?_) (a' := ?_) #[true, true, true, false, false, false, false, false] rfl rfl (take_ofW HT_.out HW_.out (by kernel_rfl)) (fun _ _ _ h => h) (Or.inl ⟨by rfl, ?_⟩) hHeld ?_ ?_
                rotate_left
                ·rintro w' ⟨s0, s1, s2, s3, s4, s5, s6, s7, s8⟩
                 go_simp
                 with_reducible rfl
                rotate_left
                ·simp only [Act.put, List.setIfInBounds_toArray, List.set_cons_zero, List.set_cons_succ, i64_w, i32_w]
                 rfl
                refine one_ (i := 3) (N := some 87) #[true, true, true, true, false, false, false, false] rfl rfl (one_of HT_.out (by kernel_rfl)) (by decide) (fun K hK => ?_)
                refine goes_ Try.func84 (by kernel_rfl) rfl #[.agg #[.int .i64 t293, .int .i64 t294, .int .i64 t295]] (by rfl) rfl rfl (by (try simp only [List.map_toArray, List.map_cons, List.map_nil]); first | done | rfl | (simp only [List.length_drop, List.length_take]; rfl)) ?_
                with_reducible refine (impl_roundedGrade.calls t293 t294 t295 t301 _ A56.out).mono ?_
                rintro e w72 ⟨rfl, hb⟩
                refine ⟨_, rfl, ?_⟩
                have n0_ := Aside0.mk (Kd.S_below (by (with_reducible repeat (first | apply Kd.S_alloc | apply Kd.S_drewN | apply Kd.S_drew)); exact HO_63.out) hb)
                have n1_ := Aside0.mk (Kd.R_below (Kd.R_p HO_276004) hb)
                have n2_ := Aside0.mk (Kd.R_below (Kd.R_p HO_276005) hb)
                have n3_ := Aside0.mk (Kd.R_below (Kd.R_p HL292_0) hb)
                have n4_ := Aside0.mk (Kd.R_below (Kd.R_p HO300) hb)
                have n5_ := Aside0.mk (blk_below (kp_ BK270) hb)
                have n6_ := Aside0.mk (blk_below (kp_ BK275) hb)
                have n7_ := Aside0.mk (blk_below (kp_ BK297) hb)
                have n8_ := Aside0.mk (below_step (hb_ HB) hb)
                clear HO_63
                clear HO_276004
                clear HO_276005
                clear HL292_0
                clear HO300
                clear BK270
                clear BK275
                clear BK297
                clear HB
                have HO_63 := n0_
                have HO_276004 := n1_
                have HO_276005 := n2_
                have HL292_0 := n3_
                have HO300 := n4_
                have BK270 := n5_
                have BK275 := n6_
                have BK297 := n7_
                have HB := n8_
                clear n0_ n1_ n2_ n3_ n4_ n5_ n6_ n7_ n8_
                (try clear hb)
                (try clear hb2)
                (try clear hk)
                (try clear hi)
                refine hK.out _ _ ⟨(blk_cell BK275.out 0).trans rfl, (blk_cell BK275.out 1).trans rfl, (blk_cell BK275.out 2).trans rfl, (blk_cell BK275.out 3).trans rfl, (blk_cell BK275.out 4).trans rfl, (blk_cell BK275.out 5).trans rfl, (blk_cell BK297.out 0).trans rfl, (blk_cell BK297.out 1).trans rfl, (blk_cell BK297.out 2).trans rfl⟩ (fun hHeld => ?_)
                clear hK K
                refine norm_ (a' := ?_) ?_ ?_
                rotate_left
                ·show Act.put _ (some 87) _ = _
                 simp only [Act.put, List.setIfInBounds_toArray, List.set_cons_zero, List.set_cons_succ, i64_w, i32_w]
                 rfl
                refine one_ (i := 4) (N := some 88) #[true, true, true, true, true, false, false, false] rfl rfl (one_of HT_.out (by kernel_rfl)) (by decide) (fun K hK => ?_)
                refine value_ (w1 := ?_) (v := ?_) (by rfl) rfl ?_ ?_
                rotate_left 2
                ·go_simp
                 constructor
                 ·rfl
                 ·rfl
                refine hK.out _ _ ⟨(blk_cell (blk_alloc BK275.out _) 0).trans rfl, (blk_cell (blk_alloc BK275.out _) 1).trans rfl, (blk_cell (blk_alloc BK275.out _) 2).trans rfl, (blk_cell (blk_alloc BK275.out _) 3).trans rfl, (blk_cell (blk_alloc BK275.out _) 4).trans rfl, (blk_cell (blk_alloc BK275.out _) 5).trans rfl, (blk_cell (blk_alloc BK297.out _) 0).trans rfl, (blk_cell (blk_alloc BK297.out _) 1).trans rfl, (blk_cell (blk_alloc BK297.out _) 2).trans rfl⟩ (fun hHeld => ?_)
                clear hK K
                refine norm_ (a' := ?_) ?_ ?_
                rotate_left
                ·show Act.put _ (some 88) _ = _
                 simp only [Act.put, List.setIfInBounds_toArray, List.set_cons_zero, List.set_cons_succ, i64_w, i32_w]
                 rfl
                refine one_ (i := 5) (N := some 89) #[true, true, true, true, true, true, false, false] rfl rfl (one_of HT_.out (by kernel_rfl)) (by decide) (fun K hK => ?_)
                refine Kd.R_append_step (Kd.int .i64) (w0 := w) w.heap.size (by rfl) (.tmp 85) (.tmp 88) 24 3 (.int .i64 0) 8 rfl Try.underlying24 info3 rfl (by decide) (by omega) u276004 x276004_2 t301 [.int .i64 t301] (fun k_ => some k_ ≠ (u276005 : Value).ownBlock ∧ some k_ ≠ (.slice Ao68 y298.length co68 : Value).ownBlock) (fun _ => False) rfl rfl ?aP (fun _ hk => hk.elim) ?aF ?aO ?aB ?aS ?aL ?_
                (case aP => exact rfl)
                (case aB => exact (hb_ HB))
                (case aF => exact (fun k_ hk => ⟨Kd.fresh' (Kd.R_lt (Kd.R_p HO_276005)) k_ hk, Kd.fresh' (Kd.R_lt (Kd.R_p HO300)) k_ hk⟩))
                (case aO => exact (Kd.R_p HO_276004))
                (case aS => exact (below_size (hb_ HB)))
                (case aL => have := LMc57.out; omega)
                intro v303 w73 ho hb hg hat
                rw [← Ny302.out] at ho
                have n0_ := Aside0.mk (Kd.S_over' (by (with_reducible repeat (first | apply Kd.S_alloc | apply Kd.S_drewN | apply Kd.S_drew)); exact HO_63.out) (Kd.R_typed (Kd.R_p HO_276004)) (by decide) hg)
                have n1_ := Aside0.mk (Kd.R_after (ok := (fun k_ => some k_ ≠ (.slice Ao68 y298.length co68 : Value).ownBlock)) (Kd.R_pp (Kd.R_mono HO_276005.out (fun _ hk => ⟨hk.2, hk.1⟩))) hg hat)
                have n2_ := Aside0.mk (blk_grown (kp_ BK270) hg (Kd.R_ne HO_276004.out BK270.out (by decide)))
                have n3_ := Aside0.mk (blk_grown (kp_ BK275) hg (Kd.R_ne HO_276004.out BK275.out (by decide)))
                have n4_ := Aside0.mk (Kd.R_over' (Kd.R_p HL292_0) (Kd.R_typed (Kd.R_p HO_276004)) (by decide) hg)
                have n5_ := Aside0.mk (blk_grown (kp_ BK297) hg (Kd.R_ne HO_276004.out BK297.out (by decide)))
                have n6_ := Aside0.mk (Kd.R_after (ok := (fun k_ => some k_ ≠ (u276005 : Value).ownBlock)) (Kd.R_pp (Kd.R_mono HO300.out (fun _ hk => ⟨hk.2, hk.1⟩))) hg hat)
                have n7_ := Aside0.mk (hb)
                have n8_ := Aside0.mk (ho)
                clear HO_63
                clear HO_276005
                clear BK270
                clear BK275
                clear HL292_0
                clear BK297
                clear HO300
                clear HB
                clear HO_276004
                have HO_63 := n0_
                have HO_276005 := n1_
                have BK270 := n2_
                have BK275 := n3_
                have HL292_0 := n4_
                have BK297 := n5_
                have HO300 := n6_
                have HB := n7_
                have HO304 := n8_
                clear n0_ n1_ n2_ n3_ n4_ n5_ n6_ n7_ n8_
                clear ho hb hg hat
                obtain ⟨Ao74, co74, eo74⟩ := Kd.R_slice HO304.out
                (first | subst eo74 | (injection eo74 with f1_ f2_ f3_; have f4_ := f1_.symm; have f5_ := f3_.symm; clear f1_ f2_ f3_; subst f4_; subst f5_))
                refine hK.out _ _ ⟨(blk_cell BK275.out 0).trans rfl, (blk_cell BK275.out 1).trans rfl, (blk_cell BK275.out 2).trans rfl, (blk_cell BK275.out 3).trans rfl, (blk_cell BK275.out 4).trans rfl, (blk_cell BK275.out 5).trans rfl, (blk_cell BK297.out 0).trans rfl, (blk_cell BK297.out 1).trans rfl, (blk_cell BK297.out 2).trans rfl⟩ (fun hHeld => ?_)
                clear hK K
                refine norm_ (a' := ?_) ?_ ?_
                rotate_left
                ·show Act.put _ (some 89) _ = _
                 simp only [Act.put, List.setIfInBounds_toArray, List.set_cons_zero, List.set_cons_succ, i64_w, i32_w]
                 rfl
                refine pure_ (i := 6) (N := some 90) (v := ?_) (a' := ?_) #[true, true, true, true, true, true, true, false] rfl rfl (any_of HT_.out (by kernel_rfl)) (fun _ _ _ h => h) (Or.inl ⟨by rfl, ?_⟩) ?_ ?_
                rotate_left
                ·intro w'
                 go_simp
                 with_reducible rfl
                rotate_left
                ·simp only [Act.put, List.setIfInBounds_toArray, List.set_cons_zero, List.set_cons_succ, i64_w, i32_w]
                 rfl
                refine last_ (i := 7) (N := none) #[true, true, true, true, true, true, true, true] rfl rfl (one_of HT_.out (by kernel_rfl)) (by decide) (fun K hK => ?_)
                have hs75 : w73.cell? ⟨gb275, 4, none⟩ = some (u276004) := (blk_cell BK275.out 4).trans rfl
                have hfs75 := blk_frozen BK275.out 4
                have hns75_0 := NB270_275.out
                have hns75_2 := NB297_275.out
                have hms75_0 := NB275_270.out
                have hms75_2 := NB275_297.out
                refine skip_ (w1 := ?_) (by rfl) rfl ?_ ?_
                rotate_left
                ·go_simp
                 rfl
                refine hK.out _ _ ?_
                clear hK K
                refine done_ (done_of HT_.out (by kernel_rfl)) ?_
                have hcz76_0 : w73.cell? ⟨gb275, 0, none⟩ = some (.int .i64 t272) := (blk_cell BK275.out 0).trans rfl
                have hcz76_1 : w73.cell? ⟨gb275, 1, none⟩ = some (.int .i64 t273) := (blk_cell BK275.out 1).trans rfl
                have hcz76_2 : w73.cell? ⟨gb275, 2, none⟩ = some (.int .i64 t274) := (blk_cell BK275.out 2).trans rfl
                have hcz76_3 : w73.cell? ⟨gb275, 3, none⟩ = some (.slice Ao68 y298.length co68) := (blk_cell BK275.out 3).trans rfl
                have hcz76_4 : w73.cell? ⟨gb275, 4, none⟩ = some (u276004) := (blk_cell BK275.out 4).trans rfl
                have hcz76_5 : w73.cell? ⟨gb275, 5, none⟩ = some (u276005) := (blk_cell BK275.out 5).trans rfl
                have hfz76_0 := blk_frozen BK275.out 0
                have hfz76_1 := blk_frozen BK275.out 1
                have hfz76_2 := blk_frozen BK275.out 2
                have hfz76_3 := blk_frozen BK275.out 3
                have hfz76_4 := blk_frozen BK275.out 4
                have hfz76_5 := blk_frozen BK275.out 5
                have hcz77_0 : w73.cell? ⟨gb297, 0, none⟩ = some (.int .i64 t293) := (blk_cell BK297.out 0).trans rfl
                have hcz77_1 : w73.cell? ⟨gb297, 1, none⟩ = some (.int .i64 t294) := (blk_cell BK297.out 1).trans rfl
                have hcz77_2 : w73.cell? ⟨gb297, 2, none⟩ = some (.int .i64 t295) := (blk_cell BK297.out 2).trans rfl
                have hfz77_0 := blk_frozen BK297.out 0
                have hfz77_1 := blk_frozen BK297.out 1
                have hfz77_2 := blk_frozen BK297.out 2
                try go_wp2_with (first | ((with_reducible refine gate_builtin (b := .append) (xs := #[.tmp 92, .tmp 95]) rfl ?_); at_builtin; refine Kd.R_append (Kd.int .i64) (w0 := w) w.heap.size rfl (.tmp 92) (.tmp 95) 24 3 (.int .i64 0) 8 rfl Try.underlying24 info3 rfl (by decide) (by omega) u276005 x276005_2 t295 [.int .i64 t295] (fun k_ => some k_ ≠ (.slice Ao68 y298.length co68 : Value).ownBlock ∧ some k_ ≠ (.slice Ao74 y302.length co74 : Value).ownBlock) (fun _ => False) rfl (by first | (go_simp; done) | (go_simp; rfl)) ?aP (fun _ hk => hk.elim) ?aF ?aO ?aB ?aS ?aL ?_; (case aP => exact rfl); (case aB => exact (hb_ HB)); (case aF => exact (fun k_ hk => ⟨Kd.fresh' (Kd.R_lt (Kd.R_s HO300 BK275)) k_ hk, Kd.fresh' (Kd.R_lt (Kd.R_s HO304 BK275)) k_ hk⟩)); (case aO => exact (Kd.R_mono (Kd.R_s HO_276005 BK275) (fun _ hk => ⟨hk.1, hk.2⟩))); (case aS => exact (below_size (hb_ HB))); (case aL => have := LMc58.out; omega); intro v306 w78 ho hb hg hat; rw [← Ny305.out] at ho; have HO307 := Aside0.mk (ho); replace HO_63 := Aside0.mk (Kd.S_over' (by (with_reducible repeat (first | apply Kd.S_alloc | apply Kd.S_drewN | apply Kd.S_drew)); exact (Kd.S_mono (Kd.S_far (p := ⟨gb275, 4, none⟩) (Kd.S_types HO_63.out BK275.out (by decide)) (fun _ hk => hk.2) (.slice Ao74 y302.length co74)) (fun _ h_ => h_.1))) (Kd.R_typed (Kd.R_s HO_276005 BK275)) (by decide) hg); replace BK270 := Aside0.mk (blk_grown (kf_ BK270 NB270_275) hg (Kd.R_ne HO_276005.out BK270.out (by decide))); replace HL292_0 := Aside0.mk (Kd.R_over' (Kd.R_s HL292_0 BK275) (Kd.R_typed (Kd.R_s HO_276005 BK275)) (by decide) hg); replace BK297 := Aside0.mk (blk_grown (kf_ BK297 NB297_275) hg (Kd.R_ne HO_276005.out BK297.out (by decide))); replace HO300 := Aside0.mk (Kd.R_after (ok := (fun k_ => some k_ ≠ (.slice Ao74 y302.length co74 : Value).ownBlock)) (Kd.R_mono (Kd.R_s HO300 BK275) (fun _ hk => ⟨hk.2, hk.1⟩)) hg hat); replace HO304 := Aside0.mk (Kd.R_after (ok := (fun k_ => some k_ ≠ (.slice Ao68 y298.length co68 : Value).ownBlock)) (Kd.R_mono (Kd.R_s HO304 BK275) (fun _ hk => ⟨hk.2, hk.1⟩)) hg hat); replace HB := Aside0.mk (hb); replace BK275 := Aside0.mk (blk_grown (g := gb275) (o := .cells #[.int .i64 t272, .int .i64 t273, .int .i64 t274, .slice Ao68 y298.length co68, .slice Ao74 y302.length co74, u276005] 34 (0, 0)) (kpq_ (kputs BK275 [(4, _)])) hg (Kd.R_ne HO_276005.out BK275.out (by decide))); clear HO_276005; clear ho hb hg hat; obtain ⟨Ao79, co79, eo79⟩ := Kd.R_slice HO307.out; subst eo79; obtain ⟨hcz80_0, hcz80_1, hcz80_2, hcz80_3, hcz80_4, hcz80_5, hfz80_0, hfz80_1, hfz80_2, hfz80_3, hfz80_4, hfz80_5⟩ := bx6 BK275))
                have n0_ : Aside0 (Kd.S (Kd.slice 29 k29) 42 (w78.setCell ⟨gb275, 5, none⟩ (.slice Ao79 y305.length co79)) w.heap.size (fun k_ => k_ ≠ gb297) (.slice (some ad292) x6_1.length co49) x6_1) := ⟨by (with_reducible repeat (first | apply Kd.S_alloc | apply Kd.S_drewN | apply Kd.S_drew)); exact Kd.S_mono (Kd.S_far (p := ⟨gb275, 5, none⟩) (Kd.S_types HO_63.out BK275.out (by decide)) (fun _ hk => hk.2) (.slice Ao79 y305.length co79)) (fun _ hk => hk.1)⟩
                have n1_ : Aside0 (Kd.R k29 29 (w78.setCell ⟨gb275, 5, none⟩ (.slice Ao79 y305.length co79)) w.heap.size (fun k_ => some k_ ≠ (.slice (some ad292) x6_1.length co49 : Value).ownBlock ∧ k_ ≠ gb297) (.slice A292_0 (rd_L2 x6_1 x65_2).length c292_0) (rd_L2 x6_1 x65_2)) := ⟨Kd.R_mono (Kd.R_s HL292_0 BK275) (fun _ hk => ⟨hk.1, hk.2⟩)⟩
                have n2_ : Aside0 (Kd.R (Kd.int .i64) 3 (w78.setCell ⟨gb275, 5, none⟩ (.slice Ao79 y305.length co79)) w.heap.size (fun k_ => some k_ ≠ (.slice Ao74 y302.length co74 : Value).ownBlock ∧ some k_ ≠ (.slice Ao79 y305.length co79 : Value).ownBlock) (.slice Ao68 y298.length co68) y298) := ⟨Kd.R_mono (Kd.R_s HO300 BK275) (fun _ hk => ⟨hk.1, hk.2⟩)⟩
                have n3_ : Aside0 (Kd.R (Kd.int .i64) 3 (w78.setCell ⟨gb275, 5, none⟩ (.slice Ao79 y305.length co79)) w.heap.size (fun k_ => some k_ ≠ (.slice Ao68 y298.length co68 : Value).ownBlock ∧ some k_ ≠ (.slice Ao79 y305.length co79 : Value).ownBlock) (.slice Ao74 y302.length co74) y302) := ⟨Kd.R_mono (Kd.R_s HO304 BK275) (fun _ hk => ⟨hk.1, hk.2⟩)⟩
                have n4_ : Aside0 (Kd.R (Kd.int .i64) 3 (w78.setCell ⟨gb275, 5, none⟩ (.slice Ao79 y305.length co79)) w.heap.size (fun k_ => some k_ ≠ (.slice Ao68 y298.length co68 : Value).ownBlock ∧ some k_ ≠ (.slice Ao74 y302.length co74 : Value).ownBlock) (.slice Ao79 y305.length co79) y305) := ⟨Kd.R_mono (Kd.R_s HO307 BK275) (fun _ hk => ⟨hk.1, hk.2⟩)⟩
                have n5_ : Aside0 ((w78.setCell ⟨gb275, 5, none⟩ (.slice Ao79 y305.length co79)).heap[gb270]? = some (.cells #[.int .i64 x271000_2, .int .i64 x271001_2, .int .i64 x271002_2, .slice none 0 0, .slice none 0 0, .slice none 0 0] 34 (0, 0))) := ⟨kf_ BK270 NB270_275⟩
                have n6_ : Aside0 ((w78.setCell ⟨gb275, 5, none⟩ (.slice Ao79 y305.length co79)).heap[gb275]? = some (.cells #[.int .i64 t272, .int .i64 t273, .int .i64 t274, .slice Ao68 y298.length co68, .slice Ao74 y302.length co74, .slice Ao79 y305.length co79] 34 (0, 0))) := ⟨kpq_ (kputs BK275 [(5, _)])⟩
                have n7_ : Aside0 ((w78.setCell ⟨gb275, 5, none⟩ (.slice Ao79 y305.length co79)).heap[gb297]? = some (.cells #[.int .i64 t293, .int .i64 t294, .int .i64 t295] 29 (0, 0))) := ⟨kf_ BK297 NB297_275⟩
                have n8_ : Aside0 (Below w.heap.size w (w78.setCell ⟨gb275, 5, none⟩ (.slice Ao79 y305.length co79))) := ⟨hb_ HB⟩
                (try clear HO_63)
                (try clear HL292_0)
                (try clear HO300)
                (try clear HO304)
                (try clear HO307)
                (try clear BK270)
                (try clear BK275)
                (try clear BK297)
                (try clear HB)
                generalize (w78.setCell ⟨gb275, 5, none⟩ (.slice Ao79 y305.length co79)) = w81 at n0_ n1_ n2_ n3_ n4_ n5_ n6_ n7_ n8_ ⊢
                have HO_63 := n0_
                have HL292_0 := n1_
                have HO300 := n2_
                have HO304 := n3_
                have HO307 := n4_
                have BK270 := n5_
                have BK275 := n6_
                have BK297 := n7_
                have HB := n8_
                clear n0_ n1_ n2_ n3_ n4_ n5_ n6_ n7_ n8_
                have n0_ := Aside0.mk (Kd.S_drew HO_63.out)
                have n1_ := Aside0.mk (Kd.R_drew HL292_0.out)
                have n2_ := Aside0.mk (Kd.R_drew HO300.out)
                have n3_ := Aside0.mk (Kd.R_drew HO304.out)
                have n4_ := Aside0.mk (Kd.R_drew HO307.out)
                have n5_ := Aside0.mk (blk_drew BK270.out)
                have n6_ := Aside0.mk (blk_drew BK275.out)
                have n7_ := Aside0.mk (blk_drew BK297.out)
                have n8_ := Aside0.mk (below_drew1 HB.out)
                clear HO_63
                clear HL292_0
                clear HO300
                clear HO304
                clear HO307
                clear BK270
                clear BK275
                clear BK297
                clear HB
                have HO_63 := n0_
                have HL292_0 := n1_
                have HO300 := n2_
                have HO304 := n3_
                have HO307 := n4_
                have BK270 := n5_
                have BK275 := n6_
                have BK297 := n7_
                have HB := n8_
                clear n0_ n1_ n2_ n3_ n4_ n5_ n6_ n7_ n8_
                refine start_ (n := 8) (S := fun w' => w'.cell? ⟨gb297, 0, none⟩ = some (.int .i64 t293) ∧ w'.cell? ⟨gb297, 1, none⟩ = some (.int .i64 t294) ∧ w'.cell? ⟨gb297, 2, none⟩ = some (.int .i64 t295)) (ds := []) #[false, false, false, false, false, false, false, false] (by kernel_rfl) rfl rfl ⟨(blk_cell BK297.out 0).trans rfl, (blk_cell BK297.out 1).trans rfl, (blk_cell BK297.out 2).trans rfl⟩ (fun hHeld => ?_); refine with_tabW impl_CoarseModel.tab23 impl_CoarseModel.bits23 (fun HT_ HW_ => ?_)
                generalize w81.drew = w82 at HO_63 HL292_0 HO300 HO304 HO307 BK270 BK275 BK297 HB hHeld ⊢
                refine pure_ (i := 0) (N := some 98) (v := ?_) (a' := ?_) #[true, false, false, false, false, false, false, false] rfl rfl (any_of HT_.out (by kernel_rfl)) (fun _ _ _ h => h) (Or.inl ⟨by rfl, ?_⟩) ?_ ?_
                rotate_left
                ·intro w'
                 go_simp
                 with_reducible rfl
                rotate_left
                ·simp only [Act.put, List.setIfInBounds_toArray, List.set_cons_zero, List.set_cons_succ, i64_w, i32_w]
                 rfl
                refine pure_ (i := 1) (N := some 99) (v := ?_) (a' := ?_) #[true, true, false, false, false, false, false, false] rfl rfl (any_of HT_.out (by kernel_rfl)) (fun _ _ _ h => h) (Or.inl ⟨by rfl, ?_⟩) ?_ ?_
                rotate_left
                ·intro w'
                 go_simp
                 with_reducible rfl
                rotate_left
                ·simp only [Act.put, List.setIfInBounds_toArray, List.set_cons_zero, List.set_cons_succ, i64_w, i32_w]
                 rfl
                refine take_ (i := 2) (N := some 100) (v := ?_) (a' := ?_) #[true, true, true, false, false, false, false, false] rfl rfl (take_ofW HT_.out HW_.out (by kernel_rfl)) (fun _ _ _ h => h) (Or.inl ⟨by rfl, ?_⟩) hHeld ?_ ?_
                rotate_left
                ·rintro w' ⟨s0, s1, s2⟩
                 go_simp
                 with_reducible rfl
                rotate_left
                ·simp only [Act.put, List.setIfInBounds_toArray, List.set_cons_zero, List.set_cons_succ, i64_w, i32_w]
                 rfl
                refine take_ (i := 3) (N := some 101) (v := ?_) (a' := ?_) #[true, true, true, true, false, false, false, false] rfl rfl (take_ofW HT_.out HW_.out (by kernel_rfl)) (fun _ _ _ h => h) (Or.inl ⟨by rfl, ?_⟩) hHeld ?_ ?_
                rotate_left
                ·rintro w' ⟨s0, s1, s2⟩
                 go_simp
                 with_reducible rfl
                rotate_left
                ·simp only [Act.put, List.setIfInBounds_toArray, List.set_cons_zero, List.set_cons_succ, i64_w, i32_w]
                 rfl
                refine one_ (i := 4) (N := some 102) #[true, true, true, true, true, false, false, false] rfl rfl (one_of HT_.out (by kernel_rfl)) (by decide) (fun K hK => ?_)
                refine goes_ Try.func84 (by kernel_rfl) rfl #[.agg #[.int .i64 t293, .int .i64 t294, .int .i64 t295]] (by rfl) rfl rfl (by (try simp only [List.map_toArray, List.map_cons, List.map_nil]); first | done | rfl | (simp only [List.length_drop, List.length_take]; rfl)) ?_
                with_reducible refine (impl_roundedGrade.calls t293 t294 t295 t308 _ A59.out).mono ?_
                rintro e w83 ⟨rfl, hb⟩
                refine ⟨_, rfl, ?_⟩
                have n0_ := Aside0.mk (Kd.S_below (by (with_reducible repeat (first | apply Kd.S_alloc | apply Kd.S_drewN | apply Kd.S_drew)); exact HO_63.out) hb)
                have n1_ := Aside0.mk (Kd.R_below (Kd.R_p HL292_0) hb)
                have n2_ := Aside0.mk (Kd.R_below (Kd.R_p HO300) hb)
                have n3_ := Aside0.mk (Kd.R_below (Kd.R_p HO304) hb)
                have n4_ := Aside0.mk (Kd.R_below (Kd.R_p HO307) hb)
                have n5_ := Aside0.mk (blk_below (kp_ BK270) hb)
                have n6_ := Aside0.mk (blk_below (kp_ BK275) hb)
                have n7_ := Aside0.mk (blk_below (kp_ BK297) hb)
                have n8_ := Aside0.mk (below_step (hb_ HB) hb)
                clear HO_63
                clear HL292_0
                clear HO300
                clear HO304
                clear HO307
                clear BK270
                clear BK275
                clear BK297
                clear HB
                have HO_63 := n0_
                have HL292_0 := n1_
                have HO300 := n2_
                have HO304 := n3_
                have HO307 := n4_
                have BK270 := n5_
                have BK275 := n6_
                have BK297 := n7_
                have HB := n8_
                clear n0_ n1_ n2_ n3_ n4_ n5_ n6_ n7_ n8_
                (try clear hb)
                (try clear hb2)
                (try clear hk)
                (try clear hi)
                refine hK.out _ _ ⟨(blk_cell BK297.out 0).trans rfl, (blk_cell BK297.out 1).trans rfl, (blk_cell BK297.out 2).trans rfl⟩ (fun hHeld => ?_)
                clear hK K
                refine norm_ (a' := ?_) ?_ ?_
                rotate_left
                ·show Act.put _ (some 102) _ = _
                 simp only [Act.put, List.setIfInBounds_toArray, List.set_cons_zero, List.set_cons_succ, i64_w, i32_w]
                 rfl
                refine pure_ (i := 5) (N := some 103) (v := ?_) (a' := ?_) #[true, true, true, true, true, true, false, false] rfl rfl (any_of HT_.out (by kernel_rfl)) (fun _ _ _ h => h) (Or.inl ⟨by rfl, ?_⟩) ?_ ?_
                rotate_left
                ·intro w'
                 go_simp
                 with_reducible rfl
                rotate_left
                ·simp only [Act.put, List.setIfInBounds_toArray, List.set_cons_zero, List.set_cons_succ, i64_w, i32_w]
                 rfl
                refine pure_ (i := 6) (N := some 104) (v := ?_) (a' := ?_) #[true, true, true, true, true, true, true, false] rfl rfl (any_of HT_.out (by kernel_rfl)) (fun _ _ _ h => h) (Or.inl ⟨by rfl, ?_⟩) ?_ ?_
                rotate_left
                ·intro w'
                 go_simp
                 with_reducible rfl
                rotate_left
                ·simp only [Act.put, List.setIfInBounds_toArray, List.set_cons_zero, List.set_cons_succ, i64_w, i32_w]
                 rfl
                refine pure_ (i := 7) (N := some 7) (v := ?_) (a' := ?_) #[true, true, true, true, true, true, true, true] rfl rfl (any_of HT_.out (by kernel_rfl)) (fun _ _ _ h => h) (Or.inl ⟨by rfl, ?_⟩) ?_ ?_
                rotate_left
                ·intro w'
                 go_simp
                 with_reducible rfl
                rotate_left
                ·simp only [Act.put, List.setIfInBounds_toArray, List.set_cons_zero, List.set_cons_succ, i64_w, i32_w]
                 rfl
                refine done_ (done_of HT_.out (by kernel_rfl)) ?_
                try go_wp2
                go_roundg k2
                case measure => have := HK1.out; have := HK2.out; omega
                case rel => exact ⟨(wrap64 (x7_2 + (wrap64 (t293 * t308)))), (wrap64 (x65_2 + 1)), (x271000_2), (x271001_2), (x271002_2), (y298), (y302), (y305), (.slice Ao68 y298.length co68), (.slice Ao74 y302.length co74), (.slice Ao79 y305.length co79), (by first | rfl | (simp; done) | (simp [*]; done)), (by first | rfl | (simp; done) | (simp [*]; done)), H', ⟨by have := HK1.out; have := HK2.out; omega⟩, ⟨by (with_reducible repeat (first | apply Kd.S_alloc | apply Kd.S_drewN | apply Kd.S_drew)); exact Kd.S_mono HO_63.out (fun _ hk => trivial)⟩, ⟨Kd.R_p HO300⟩, ⟨Kd.R_p HO304⟩, ⟨Kd.R_p HO307⟩, ⟨kp_ BK270⟩, ⟨kp_ BK275⟩, ⟨hb_ HB⟩⟩
               ·rw [if_neg c58] at H
                exact absurd H (by simp)
              ·rw [if_neg c57] at H
               exact absurd H (by simp)
             ·rw [if_neg c55] at H
              exact absurd H (by simp)
            ·replace c54 := Bool.eq_false_iff.mpr c54
             subst c54
             have H1 : (some (0, 0, 0, ([] : List Int), ([] : List Int), ([] : List Int), 0, false)) = some (r1, r2, r3, r4, r5, r6, r7, r8) := by rw [if_neg (show ¬ (false = true) by decide)] at H; exact H
             clear H
             have H := H1
             clear H1
             simp only [Option.some.injEq, Prod.mk.injEq] at H
             obtain ⟨rfl, rfl, rfl, rfl, rfl, rfl, rfl, rfl⟩ := H
             have p292 : 0 ≤ (x65_2 : Int) := of_decide_eq_true (by first | (with_reducible assumption) | assumption)
             have q292 : x65_2 < (x6_1.length : Int) := of_decide_eq_true (by first | (with_reducible assumption) | assumption)
             obtain ⟨ad292, A292_0, c292_0, e292, hx292_0, hl292_0, hi292_0⟩ := at_L2 (Kd.S_reads' HO_63.out).2.2 x65_2 p292 q292
             cases e292
             obtain ⟨ce292, hce292, hMe292, hcc292⟩ := Kd.S_get HO_63.out [] x65_2 p292 (by first | exact q292 | exact of_decide_eq_true (by first | (with_reducible assumption) | assumption) | (have e_ := (Kd.S_reads' HO_63.out).1; omega))
             obtain ⟨ve292_0, rfl, ge292_0⟩ := hMe292
             have hv292_0 := hcc292 0 _ rfl
             rw [Nat.add_zero, show ((Kd.slice 29 k29)).sz = 1 from rfl, Nat.mul_one] at hv292_0
             replace hv292_0 := Option.some.inj (hv292_0.symm.trans hx292_0)
             rw [hv292_0] at ge292_0
             have HL292_0 := Aside0.mk (show Kd.R k29 29 _ _ _ _ (rd_L2 x6_1 x65_2) from ge292_0)
             clear hv292_0 ge292_0
             have HX292_0 := Aside0.mk hx292_0
             clear hcc292 hce292
             have HR292_0 := Aside0.mk hi292_0
             have HC292_0 := Aside0.mk hl292_0
             clear hi292_0 hl292_0
             replace p292 := eq_true p292
             replace q292 := eq_true q292
             (try clear BK275); (try clear GW275); (try clear GE275); (try clear NB275_270); (try clear NB270_275)
             go_wp2_with (first | ((with_reducible refine gate_callee (f := 69) rfl ?_); refine gl_ (some 71) Try.func69 #[.slice A292_0 (rd_L2 x6_1 x65_2).length c292_0] rfl rfl rfl ?_; (with_reducible refine (impl_joinPieces.calls k2 _ _ (rd_L2 x6_1 x65_2) t293 t294 t295 false _ ?side1 ?side2 A53.out).mono ?_); (case side1 => repeat (first | exact (by repeat (first | (with_reducible exact HR292_0.out) | (with_reducible refine Kd.C_alloc ?_ _) | (with_reducible refine Kd.C_drewN ?_ _) | (with_reducible refine Kd.C_drew ?_) | exact HR292_0.out)) | (with_reducible refine Kd.C_alloc ?_ _) | (with_reducible refine Kd.C_drewN ?_ _) | (with_reducible refine Kd.C_drew ?_))); (case side2 => exact HC292_0.out); rintro e w84 ⟨rfl, hb⟩; refine ⟨_, rfl, ?_⟩; replace HO_63 := Aside0.mk (Kd.S_below (by (with_reducible repeat (first | apply Kd.S_alloc | apply Kd.S_drewN | apply Kd.S_drew)); exact HO_63.out) hb); replace HO_276003 := Kd.R_b HO_276003 hb; replace HO_276004 := Kd.R_b HO_276004 hb; replace HO_276005 := Kd.R_b HO_276005 hb; replace HL292_0 := Kd.R_b HL292_0 hb; replace BK270 := kb_ BK270 hb; replace HR292_0 := Aside0.mk (Kd.C_below (by repeat (first | (with_reducible exact HR292_0.out) | (with_reducible refine Kd.C_alloc ?_ _) | (with_reducible refine Kd.C_drewN ?_ _) | (with_reducible refine Kd.C_drew ?_) | exact HR292_0.out)) hb); replace HX292_0 := Aside0.mk (pw_cell_below hb HX292_0.out); replace HB := hbs_ HB hb; (try clear hb); (try clear hb2); (try clear hk); (try clear hi); try clear HR292_0) | ((with_reducible refine gate_dst (N := 15) rfl ?_); refine box_event ?hg (N := 15) ?hd (cs := #[.int .i64 0, .int .i64 0, .int .i64 0]) (t := 29) ?hr ?_; (case hd => rfl); (case hg => rfl); (case hr => first | (go_simp; done) | (go_simp; rfl)); intro gb297 hg w85 hbox hb; have BK297 := Aside0.mk (hbox); have GW297 := gs_ hg HB; have GE297 := gs_ hg HB; have NB270_297 := nl_ hg BK270; have NB297_270 := ng_ hg BK270; replace HO_63 := Aside0.mk (Kd.S_below (Kd.S_elderB (by (with_reducible repeat (first | apply Kd.S_alloc | apply Kd.S_drewN | apply Kd.S_drew)); exact HO_63.out) gb297 (Nat.le_of_eq hg.symm)) hb); replace HO_276003 := Kd.R_b HO_276003 hb; replace HO_276004 := Kd.R_b HO_276004 hb; replace HO_276005 := Kd.R_b HO_276005 hb; replace HL292_0 := Aside0.mk (Kd.R_below (Kd.R_elderB (Kd.R_p HL292_0) gb297 (Nat.le_of_eq hg.symm)) hb); replace BK270 := kb_ BK270 hb; replace HX292_0 := Aside0.mk (pw_cell_below hb HX292_0.out); replace HB := hbs_ HB hb; clear hb hbox hg; have hnb86 := NB297_270.out; have hnc86 := NB270_297.out; obtain ⟨hcz87_0, hcz87_1, hcz87_2, hfz87_0, hfz87_1, hfz87_2⟩ := bx3 BK297; obtain ⟨hcz88_0, hcz88_1, hcz88_2, hcz88_3, hcz88_4, hcz88_5, hfz88_0, hfz88_1, hfz88_2, hfz88_3, hfz88_4, hfz88_5⟩ := bx6 BK270))
             refine bodyPost_ret (results_ctt rfl _ _ gb270 34 #[.int .i64 0, .int .i64 0, .int .i64 0, .slice none 0 0, .slice none 0 0, .slice none 0 0] (0, 0) _ rfl (by (with_reducible repeat (first | refine blk_drewN ?_ _ | refine blk_drew ?_ | refine blk_alloc ?_ _)); refine blk_put (cs := #[.int .i64 0, .int .i64 0, .int .i64 0, .slice none 0 0, .slice none 0 0, .slice none 0 0]) ?_ 5 _ rfl; (with_reducible repeat (first | refine blk_drewN ?_ _ | refine blk_drew ?_ | refine blk_alloc ?_ _)); refine blk_put (cs := #[.int .i64 0, .int .i64 0, .int .i64 0, .slice none 0 0, .slice none 0 0, .slice none 0 0]) ?_ 4 _ rfl; (with_reducible repeat (first | refine blk_drewN ?_ _ | refine blk_drew ?_ | refine blk_alloc ?_ _)); refine blk_put (cs := #[.int .i64 0, .int .i64 0, .int .i64 0, .slice none 0 0, .slice none 0 0, .slice none 0 0]) ?_ 3 _ rfl; (with_reducible repeat (first | refine blk_drewN ?_ _ | refine blk_drew ?_ | refine blk_alloc ?_ _)); refine blk_put (cs := #[.int .i64 0, .int .i64 0, .int .i64 x271002_2, .slice none 0 0, .slice none 0 0, .slice none 0 0]) ?_ 2 _ rfl; (with_reducible repeat (first | refine blk_drewN ?_ _ | refine blk_drew ?_ | refine blk_alloc ?_ _)); refine blk_put (cs := #[.int .i64 0, .int .i64 x271001_2, .int .i64 x271002_2, .slice none 0 0, .slice none 0 0, .slice none 0 0]) ?_ 1 _ rfl; (with_reducible repeat (first | refine blk_drewN ?_ _ | refine blk_drew ?_ | refine blk_alloc ?_ _)); refine blk_put (cs := #[.int .i64 x271000_2, .int .i64 x271001_2, .int .i64 x271002_2, .slice none 0 0, .slice none 0 0, .slice none 0 0]) ?_ 0 _ rfl; (with_reducible repeat (first | refine blk_drewN ?_ _ | refine blk_drew ?_ | refine blk_alloc ?_ _)); refine blk_far ?_ NB270_297.out _; (with_reducible repeat (first | refine blk_drewN ?_ _ | refine blk_drew ?_ | refine blk_alloc ?_ _)); refine blk_far ?_ NB270_297.out _; (with_reducible repeat (first | refine blk_drewN ?_ _ | refine blk_drew ?_ | refine blk_alloc ?_ _)); refine blk_far ?_ NB270_297.out _; (with_reducible repeat (first | refine blk_drewN ?_ _ | refine blk_drew ?_ | refine blk_alloc ?_ _)); exact BK270.out) Try.underlying34 rfl (by kernel_rfl)) rfl ?_
             exact ⟨_, _, _, by first | rfl | (simp [errW_none, errW_some] <;> rfl) | (simp [*, errW_none, errW_some] <;> rfl), by first | exact Kd.R_nil _ _ _ _ _ | exact Kd.N_nil _ _ _ _ _ | exact Kd.V_nil _ _ _ _ _ | exact Kd.Q_nil _ _ _ _ _ | exact Kd.S_nil _ _ _ _ _, by first | exact Kd.R_nil _ _ _ _ _ | exact Kd.N_nil _ _ _ _ _ | exact Kd.V_nil _ _ _ _ _ | exact Kd.Q_nil _ _ _ _ _ | exact Kd.S_nil _ _ _ _ _, by first | exact Kd.R_nil _ _ _ _ _ | exact Kd.N_nil _ _ _ _ _ | exact Kd.V_nil _ _ _ _ _ | exact Kd.Q_nil _ _ _ _ _ | exact Kd.S_nil _ _ _ _ _, hb_ HB⟩
           ·rw [if_neg c52] at H
            exact absurd H (by simp)
          ·rw [if_neg c51] at H
           exact absurd H (by simp)
         ·rw [if_neg c50] at H
          have c50b0 : decide (x65_2 < (x6_1.length : Int)) = false := decide_eq_false c50
          clear c50
          simp only [Option.some.injEq, Prod.mk.injEq] at H
          obtain ⟨rfl, rfl, rfl, rfl, rfl, rfl, rfl, rfl⟩ := H
          have hnb89 := NB275_270.out
          have hnc89 := NB270_275.out
          have hcz90_0 : wr.cell? ⟨gb275, 0, none⟩ = some (.int .i64 t272) := (blk_cell BK275.out 0).trans rfl
          have hcz90_1 : wr.cell? ⟨gb275, 1, none⟩ = some (.int .i64 t273) := (blk_cell BK275.out 1).trans rfl
          have hcz90_2 : wr.cell? ⟨gb275, 2, none⟩ = some (.int .i64 t274) := (blk_cell BK275.out 2).trans rfl
          have hcz90_3 : wr.cell? ⟨gb275, 3, none⟩ = some (u276003) := (blk_cell BK275.out 3).trans rfl
          have hcz90_4 : wr.cell? ⟨gb275, 4, none⟩ = some (u276004) := (blk_cell BK275.out 4).trans rfl
          have hcz90_5 : wr.cell? ⟨gb275, 5, none⟩ = some (u276005) := (blk_cell BK275.out 5).trans rfl
          have hfz90_0 := blk_frozen BK275.out 0
          have hfz90_1 := blk_frozen BK275.out 1
          have hfz90_2 := blk_frozen BK275.out 2
          have hfz90_3 := blk_frozen BK275.out 3
          have hfz90_4 := blk_frozen BK275.out 4
          have hfz90_5 := blk_frozen BK275.out 5
          have hcz91_0 : wr.cell? ⟨gb270, 0, none⟩ = some (.int .i64 x271000_2) := (blk_cell BK270.out 0).trans rfl
          have hcz91_1 : wr.cell? ⟨gb270, 1, none⟩ = some (.int .i64 x271001_2) := (blk_cell BK270.out 1).trans rfl
          have hcz91_2 : wr.cell? ⟨gb270, 2, none⟩ = some (.int .i64 x271002_2) := (blk_cell BK270.out 2).trans rfl
          have hcz91_3 : wr.cell? ⟨gb270, 3, none⟩ = some (.slice none 0 0) := (blk_cell BK270.out 3).trans rfl
          have hcz91_4 : wr.cell? ⟨gb270, 4, none⟩ = some (.slice none 0 0) := (blk_cell BK270.out 4).trans rfl
          have hcz91_5 : wr.cell? ⟨gb270, 5, none⟩ = some (.slice none 0 0) := (blk_cell BK270.out 5).trans rfl
          have hfz91_0 := blk_frozen BK270.out 0
          have hfz91_1 := blk_frozen BK270.out 1
          have hfz91_2 := blk_frozen BK270.out 2
          have hfz91_3 := blk_frozen BK270.out 3
          have hfz91_4 := blk_frozen BK270.out 4
          have hfz91_5 := blk_frozen BK270.out 5
          obtain ⟨Ao92, co92, eo92⟩ := Kd.R_slice HO_276003.out
          subst eo92
          obtain ⟨Ao93, co93, eo93⟩ := Kd.R_slice HO_276004.out
          subst eo93
          obtain ⟨Ao94, co94, eo94⟩ := Kd.R_slice HO_276005.out
          subst eo94
          go_wp2
          refine bodyPost_ret (results_ctt rfl _ _ gb270 34 #[.int .i64 t272, .int .i64 t273, .int .i64 t274, .slice Ao92 x276003_2.length co92, .slice Ao93 x276004_2.length co93, .slice Ao94 x276005_2.length co94] (0, 0) _ rfl (kpq_ (kputs BK270 [(0, _), (1, _), (2, _), (3, _), (4, _), (5, _)])) Try.underlying34 rfl (by kernel_rfl)) rfl ?_
          exact ⟨_, _, _, by first | rfl | (simp [errW_none, errW_some] <;> rfl) | (simp [*, errW_none, errW_some] <;> rfl), Kd.R_mono (Kd.R_s HO_276003 BK270) (fun _ hk => ⟨hk.1, hk.2⟩), Kd.R_mono (Kd.R_s HO_276004 BK270) (fun _ hk => ⟨hk.1, hk.2⟩), Kd.R_mono (Kd.R_s HO_276005 BK270) (fun _ hk => ⟨hk.1, hk.2⟩), hb_ HB⟩
   ·rw [if_neg c7] at H
    exact absurd H (by simp)
  ·rw [if_neg c6] at H
   exact absurd H (by simp)
 ·replace c3 := Bool.eq_false_iff.mpr c3
  subst c3
  have H1 : (some (0, 0, 0, ([] : List Int), ([] : List Int), ([] : List Int), 0, false)) = some (r1, r2, r3, r4, r5, r6, r7, r8) := by rw [if_neg (show ¬ (false = true) by decide)] at H; exact H
  clear H
  have H := H1
  clear H1
  simp only [Option.some.injEq, Prod.mk.injEq] at H
  obtain ⟨rfl, rfl, rfl, rfl, rfl, rfl, rfl, rfl⟩ := H
  go_enter Try.func34, Try.ntmps34
  go_wp2_with (first | ((with_reducible refine gate_dst (N := 1) rfl ?_); refine box_event ?hg (N := 1) ?hd (cs := #[.int .i64 a0_0, .int .i64 a0_1, .int .i64 a0_2, .slice A0_3 l0_3.length c0_3, .slice A0_4 l0_4.length c0_4, .slice A0_5 l0_5.length c0_5]) (t := 34) ?hr ?_; (case hd => rfl); (case hg => rfl); (case hr => first | (go_simp; done) | (go_simp; rfl)); intro gb269 hg w95 hbox hb; have BK269 := Aside0.mk (hbox); have GW269 := gs_ hg HB; have GE269 := gs_ hg HB; replace HB := hbs_ HB hb; clear hb hbox hg) | ((with_reducible refine gate_dst (N := 2) rfl ?_); refine box_event ?hg (N := 2) ?hd (cs := #[.int .i64 0, .int .i64 0, .int .i64 0, .slice none 0 0, .slice none 0 0, .slice none 0 0]) (t := 34) ?hr ?_; (case hd => rfl); (case hg => rfl); (case hr => first | (go_simp; done) | (go_simp; rfl)); intro gb270 hg w96 hbox hb; have BK270 := Aside0.mk (hbox); have GW270 := gs_ hg HB; have GE270 := gs_ hg HB; have NB269_270 := nl_ hg BK269; have NB270_269 := ng_ hg BK269; replace BK269 := kb_ BK269 hb; replace HB := hbs_ HB hb; clear hb hbox hg; have hnb97 := NB269_270.out; have hnc97 := NB270_269.out; obtain ⟨hcz98_0, hcz98_1, hcz98_2, hcz98_3, hcz98_4, hcz98_5, hfz98_0, hfz98_1, hfz98_2, hfz98_3, hfz98_4, hfz98_5⟩ := bx6 BK269) | ((with_reducible refine gate_callee (f := 59) rfl ?_); refine gl_ (some 18) Try.func59 #[.agg #[.int .i64 a0_0, .int .i64 a0_1, .int .i64 a0_2, .slice A0_3 l0_3.length c0_3, .slice A0_4 l0_4.length c0_4, .slice A0_5 l0_5.length c0_5]] rfl rfl rfl ?_; (with_reducible refine (impl_IsModel.calls k a0_0 a0_1 a0_2 _ _ l0_3 _ _ l0_4 _ _ l0_5 false _ ?side1 ?side2 ?side3 ?side4 ?side5 ?side6 A2.out).mono ?_); (case side1 => exact Kd.C_w HR0_3 HB); (case side2 => exact HC0_3.out); (case side3 => exact Kd.C_w HR0_4 HB); (case side4 => exact HC0_4.out); (case side5 => exact Kd.C_w HR0_5 HB); (case side6 => exact HC0_5.out); rintro e w99 ⟨rfl, hb⟩; refine ⟨_, rfl, ?_⟩; replace BK269 := kb_ BK269 hb; replace BK270 := kb_ BK270 hb; replace HB := hbs_ HB hb; (try clear hb); (try clear hb2); (try clear hk); (try clear hi); obtain ⟨hcz100_0, hcz100_1, hcz100_2, hcz100_3, hcz100_4, hcz100_5, hfz100_0, hfz100_1, hfz100_2, hfz100_3, hfz100_4, hfz100_5⟩ := bx6 BK270))
  refine bodyPost_ret (results_ctt rfl _ _ gb270 34 #[.int .i64 0, .int .i64 0, .int .i64 0, .slice none 0 0, .slice none 0 0, .slice none 0 0] (0, 0) _ rfl (kpq_ (kputs BK270 [(0, _), (1, _), (2, _), (3, _), (4, _), (5, _)])) Try.underlying34 rfl (by kernel_rfl)) rfl ?_
  exact ⟨_, _, _, by first | rfl | (simp [errW_none, errW_some] <;> rfl) | (simp [*, errW_none, errW_some] <;> rfl), by first | exact Kd.R_nil _ _ _ _ _ | exact Kd.N_nil _ _ _ _ _ | exact Kd.V_nil _ _ _ _ _ | exact Kd.Q_nil _ _ _ _ _ | exact Kd.S_nil _ _ _ _ _, by first | exact Kd.R_nil _ _ _ _ _ | exact Kd.N_nil _ _ _ _ _ | exact Kd.V_nil _ _ _ _ _ | exact Kd.Q_nil _ _ _ _ _ | exact Kd.S_nil _ _ _ _ _, by first | exact Kd.R_nil _ _ _ _ _ | exact Kd.N_nil _ _ _ _ _ | exact Kd.V_nil _ _ _ _ _ | exact Kd.Q_nil _ _ _ _ _ | exact Kd.S_nil _ _ _ _ _, hb_ HB⟩

end Go.Proofs.Ytceajigggcihnaa.PFnExactCoarseModel
