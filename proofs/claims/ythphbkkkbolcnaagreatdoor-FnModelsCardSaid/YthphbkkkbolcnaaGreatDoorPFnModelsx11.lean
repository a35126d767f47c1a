-- Laid for this claim by wip/tools/print2.sh, a changed copy of the kit's print (wip/tools/patch_print.py): not by print.sh. Changed by wip/fix/laid.py.
import Derived.Test.YthphbkkkbolcnaaGreatDoorPFnModelsx10
import Derived.Test.YthphbkkkbolcnaaGreatDoorVFnModels
namespace Go.Proofs.YthphbkkkbolcnaaGreatDoor.PFnModels
open Go.RowKit Go.Proofs.YthphbkkkbolcnaaGreatDoorW.PrintWords Go.Proofs.YthphbkkkbolcnaaGreatDoorW.PrintLast Go.Proofs.YthphbkkkbolcnaaGreatDoorW.PrintMore
set_option linter.unusedVariables false
set_option linter.unusedSimpArgs false

/-! ### impl_ParseModel: function 9 -/
mutual
def impl_ParseModel.j0 : Nat → List ByteArray → Bool → Option (Int × Int × Int × List Int × List Int × List Int × Bool)
 | 0, _, _ => none
 | k + 1, x4, x25 => if x25 = true then (some (0, 0, 0, ([] : List Int), ([] : List Int), ([] : List Int), false)) else (if 0 < (x4.length : Int) then ((strings_CutPrefix.f (rdOf ByteArray.empty x4 0) (⟨#[109, 111, 100, 101, 108, 32]⟩ : ByteArray)).bind fun bt393 => ((strings_ReplaceAll.f bt393.1 (⟨#[120]⟩ : ByteArray) (⟨#[32]⟩ : ByteArray)).bind fun t395 => ((impl_decimals.f k t395 3).bind fun bt396 => (if bt393.2 = true then (if bt396.2 = true then ((strings_Contains.f bt393.1 (⟨#[32]⟩ : ByteArray)).bind fun t400 => (impl_ParseModel.j1 k x4 bt396.1 t400)) else (impl_ParseModel.j1 k x4 bt396.1 true)) else (impl_ParseModel.j1 k x4 bt396.1 true))))) else (none))
def impl_ParseModel.j1 : Nat → List ByteArray → List Int → Bool → Option (Int × Int × Int × List Int × List Int × List Int × Bool)
 | 0, _, _, _ => none
 | k + 1, x4, x8, x50 => if x50 = true then (some (0, 0, 0, ([] : List Int), ([] : List Int), ([] : List Int), false)) else (if 0 < (x8.length : Int) then (if 1 < (x8.length : Int) then (if 2 < (x8.length : Int) then (if 1 ≤ (x4.length : Int) then ((some (x4.drop 1 : List ByteArray)).bind fun y404 => (impl_ParseModel.l0 k y404 (y404.length : Int) 0 (rd x8 0) (rd x8 1) (rd x8 2) ([] : List Int) ([] : List Int) ([] : List Int))) else (none)) else (none)) else (none)) else (none))
def impl_ParseModel.l0 : Nat → List ByteArray → Int → Int → Int → Int → Int → List Int → List Int → List Int → Option (Int × Int × Int × List Int × List Int × List Int × Bool)
 | 0, _, _, _, _, _, _, _, _, _ => none
 | k + 1, x64, x65, x66, x392000, x392001, x392002, x392003, x392004, x392005 => if x66 < x65 then (if 0 ≤ x66 then (if x66 < (x64.length : Int) then ((impl_decimals.f k (rdOf ByteArray.empty x64 x66) 3).bind fun bt409 => (if bt409.2 = true then (if 0 < (bt409.1.length : Int) then (if x392003.length < 17592186044416 then (if 1 < (bt409.1.length : Int) then (if x392004.length < 17592186044416 then (if 2 < (bt409.1.length : Int) then (if x392005.length < 17592186044416 then (impl_ParseModel.l0 k x64 x65 (wrap64 (x66 + 1)) x392000 x392001 x392002 (x392003 ++ [rd bt409.1 0]) (x392004 ++ [rd bt409.1 1]) (x392005 ++ [rd bt409.1 2])) else (none)) else (none)) else (none)) else (none)) else (none)) else (none)) else (some (0, 0, 0, ([] : List Int), ([] : List Int), ([] : List Int), false)))) else (none)) else (none)) else ((impl_IsModel.f k x392000 x392001 x392002 x392003 x392004 x392005).bind fun t425 => (if t425 = true then (some (x392000, x392001, x392002, x392003, x392004, x392005, true)) else (some (0, 0, 0, ([] : List Int), ([] : List Int), ([] : List Int), false))))
end
def impl_ParseModel.f (k : Nat) (a0 : ByteArray) : Option (Int × Int × Int × List Int × List Int × List Int × Bool) := (impl_linesOf.f a0).bind fun bt387 => (if bt387.2 = true then (impl_ParseModel.j0 k bt387.1 (decide ((bt387.1.length : Int) < 2))) else (impl_ParseModel.j0 k bt387.1 true))
def impl_ParseModel.T9 : Bool × List (List Nat × List Nat) := (true, [([], []), ([0], [0]), ([1], [1]), ([], []), ([3], [3]), ([4], [4]), ([], []), ([6], [6]), ([7], [7]), ([2, 5, 8], [2, 5, 8]), ([0, 1, 2, 3, 4, 5, 6, 7, 8, 9], []), ([10, 9, 0, 1, 2, 3, 4, 5, 6, 7, 8, 9], [9, 10])])
def impl_ParseModel.B9 : List Nat := [0, 1, 3, 0, 8, 24, 0, 64, 192, 511, 1023, 2047]
theorem impl_ParseModel.tab9 : rtab .any (opsOf Tryz.f9 9) = impl_ParseModel.T9 := by kernel_rfl
theorem impl_ParseModel.bits9 : waitsOk impl_ParseModel.T9.2 impl_ParseModel.B9 = true := by kernel_rfl
def impl_ParseModel.T16 : Bool × List (List Nat × List Nat) := (true, [([], []), ([0], [0]), ([], []), ([2], [2]), ([3], [3]), ([4], [4]), ([1, 5], [1, 5]), ([0, 1, 2, 3, 4, 5, 6], []), ([7, 6, 6, 0, 1, 2, 3, 4, 5, 6], [6, 7])])
def impl_ParseModel.B16 : List Nat := [0, 1, 0, 4, 12, 28, 63, 127, 255]
theorem impl_ParseModel.tab16 : rtab .any (opsOf Tryz.f9 16) = impl_ParseModel.T16 := by kernel_rfl
theorem impl_ParseModel.bits16 : waitsOk impl_ParseModel.T16.2 impl_ParseModel.B16 = true := by kernel_rfl
def impl_ParseModel.T17 : Bool × List (List Nat × List Nat) := (true, [([], []), ([0], [0]), ([], []), ([2], [2]), ([3], [3]), ([4], [4]), ([1, 5], [1, 5]), ([0, 1, 2, 3, 4, 5, 6], []), ([7, 6, 6, 0, 1, 2, 3, 4, 5, 6], [6, 7])])
def impl_ParseModel.B17 : List Nat := [0, 1, 0, 4, 12, 28, 63, 127, 255]
theorem impl_ParseModel.tab17 : rtab .any (opsOf Tryz.f9 17) = impl_ParseModel.T17 := by kernel_rfl
theorem impl_ParseModel.bits17 : waitsOk impl_ParseModel.T17.2 impl_ParseModel.B17 = true := by kernel_rfl
def impl_ParseModel.T18 : Bool × List (List Nat × List Nat) := (true, [([], []), ([0], [0]), ([], []), ([2], [2]), ([3], [3]), ([4], [4]), ([1, 5], [1, 5]), ([0, 1, 2, 3, 4, 5, 6], []), ([7, 6, 6, 0, 1, 2, 3, 4, 5, 6], [6, 7])])
def impl_ParseModel.B18 : List Nat := [0, 1, 0, 4, 12, 28, 63, 127, 255]
theorem impl_ParseModel.tab18 : rtab .any (opsOf Tryz.f9 18) = impl_ParseModel.T18 := by kernel_rfl
theorem impl_ParseModel.bits18 : waitsOk impl_ParseModel.T18.2 impl_ParseModel.B18 = true := by kernel_rfl
set_option maxHeartbeats 8000000 in
set_option maxRecDepth 100000 in
theorem impl_ParseModel.calls (k : Nat) (a0 : ByteArray) (r1 : Int) (r2 : Int) (r3 : Int) (r4 : List Int) (r5 : List Int) (r6 : List Int) (r7 : Bool) (w : World) (h : impl_ParseModel.f k a0 = some (r1, r2, r3, r4, r5, r6, r7)) (hL : LaidW w) :
  Calls Tryz.prog 9 #[.string a0] w fun e w' => ∃ v3_ v4_ v5_ : Value, e = .returned (.tuple #[.agg #[.int .i64 r1, .int .i64 r2, .int .i64 r3, v3_, v4_, v5_], .bool r7]) ∧ Kd.R (Kd.int .i64) 3 w' w.heap.size (fun k_ => some k_ ≠ (v4_ : Value).ownBlock ∧ some k_ ≠ (v5_ : Value).ownBlock) v3_ r4 ∧ Kd.R (Kd.int .i64) 3 w' w.heap.size (fun k_ => some k_ ≠ (v3_ : Value).ownBlock ∧ some k_ ≠ (v5_ : Value).ownBlock) v4_ r5 ∧ Kd.R (Kd.int .i64) 3 w' w.heap.size (fun k_ => some k_ ≠ (v3_ : Value).ownBlock ∧ some k_ ≠ (v4_ : Value).ownBlock) v5_ r6 ∧ Below w.heap.size w w' := by
 have HLw := am_ hL
 clear hL
 have hu28 := Tryz.underlying28
 have hu25 := Tryz.underlying25
 have HB := am_ (Below.refl w.heap.size w)
 have H := h
 unfold impl_ParseModel.f at H
 clear h
 revert H; refine bn_ ?_; rintro ⟨t387, t388⟩ A2 H; try dsimp only at H
 have HC3 := am_ H
 clear H
 go_enter Tryz.func9, Tryz.ntmps9
 go_upto_region 2 with (first | ((with_reducible refine gate_dst (N := 2) rfl ?_); (try (refine gate_guard (by rfl) ?_; dsimp only)); refine bv_ 2 (cs := #[.int .i64 0, .int .i64 0, .int .i64 0, .slice none 0 0, .slice none 0 0, .slice none 0 0]) (t := 28) ?_; intro gb386 hg w4 hbox hb; have BK386 := am_ (hbox); have GW386 := gs_ hg HB; have GE386 := gs_ hg HB; replace HB := hbs_ HB hb; clear hb hbox hg) | ((with_reducible refine gk_ 35 ?_); refine gq_ 16 Tryz.func35 #[.string a0] ?_; (with_reducible refine (impl_linesOf.calls a0 t387 t388 _ A2.out (by exact LaidW.step HLw (hb_ HB))).mono ?_); rintro e w5 ⟨v389, rfl, ho0, hb⟩; refine ⟨_, rfl, ?_⟩; have HO390 := Kd.R_lo ho0 HB; replace BK386 := kb_ BK386 hb; replace HB := hbs_ HB hb))
 (try simp only [Act.put, List.setIfInBounds_toArray, List.set_cons_zero, List.set_cons_succ])
 go_cut [25] (fun v25 wc => ∃ (kq : Nat) (x25_2 : Bool), v25 = .bool x25_2 ∧ Aside0 (impl_ParseModel.j0 kq t387 x25_2 = some (r1, r2, r3, r4, r5, r6, r7)) ∧ Aside0 (kq ≤ k) ∧ Aside0 (Kd.R Kd.string 9 wc w.heap.size (fun _ => True) v389 t387) ∧ Aside0 (wc.heap[gb386]? = some (.cells #[.int .i64 0, .int .i64 0, .int .i64 0, (.slice none 0 0), (.slice none 0 0), (.slice none 0 0)] 28 (0, 0))) ∧ Aside0 (Below w.heap.size w wc))
 case first =>
  have H := HC3.out
  clear HC3
  by_cases c6 : t388 = true
  ·subst c6
   rw [if_pos rfl] at H
   have H' := am_ H
   clear H
   obtain ⟨Ao7, co7, eo7⟩ := Kd.R_slice HO390.out
   subst eo7
   go_wp2
   go_meet
   case rel => exact ⟨_, (decide ((t387.length : Int) < 2)), sr_, H', ⟨by first | omega | exact Nat.le_refl _⟩, ⟨Kd.R_p HO390⟩, ⟨kp_ BK386⟩, ⟨hb_ HB⟩⟩
  replace c6 := Bool.eq_false_iff.mpr c6
  subst c6
  rw [if_neg (show ¬ (false = true) by decide)] at H
  have H' := am_ H
  clear H
  go_wp2
  go_meet
  case rel => exact ⟨_, (true), sr_, H', ⟨by first | omega | exact Nat.le_refl _⟩, ⟨Kd.R_p HO390⟩, ⟨kp_ BK386⟩, ⟨hb_ HB⟩⟩
 clear HC3
 obtain ⟨kq, x25_2, rfl, HA, HJ2, HO_4, BK386, HB⟩ := hcut
 cases kq with
 | zero => exact absurd HA.out (by simp [impl_ParseModel.j0])
 | succ kj2 => ?_
 have H := HA.out
 clear HA
 simp only [impl_ParseModel.j0] at H
 by_cases c8 : x25_2 = true
 ·subst c8
  rw [if_pos rfl] at H
  simp only [Option.some.injEq, Prod.mk.injEq] at H
  obtain ⟨rfl, rfl, rfl, rfl, rfl, rfl, rfl⟩ := H
  obtain ⟨hcz9_0, hcz9_1, hcz9_2, hcz9_3, hcz9_4, hcz9_5, hfz9_0, hfz9_1, hfz9_2, hfz9_3, hfz9_4, hfz9_5⟩ := bx6 BK386
  go_wp2
  refine bodyPost_ret (results_ct rfl _ _ gb386 28 #[.int .i64 0, .int .i64 0, .int .i64 0, .slice none 0 0, .slice none 0 0, .slice none 0 0] (0, 0) _ rfl (kpq_ (kputs BK386 [(0, _), (1, _), (2, _), (3, _), (4, _), (5, _)])) Tryz.underlying28 rfl (by kernel_rfl)) rfl ?_
  exact ⟨_, _, _, se_, by first | exact Kd.R_nil _ _ _ _ _ | exact Kd.N_nil _ _ _ _ _ | exact Kd.V_nil _ _ _ _ _ | exact Kd.Q_nil _ _ _ _ _ | exact Kd.S_nil _ _ _ _ _, by first | exact Kd.R_nil _ _ _ _ _ | exact Kd.N_nil _ _ _ _ _ | exact Kd.V_nil _ _ _ _ _ | exact Kd.Q_nil _ _ _ _ _ | exact Kd.S_nil _ _ _ _ _, by first | exact Kd.R_nil _ _ _ _ _ | exact Kd.N_nil _ _ _ _ _ | exact Kd.V_nil _ _ _ _ _ | exact Kd.Q_nil _ _ _ _ _ | exact Kd.S_nil _ _ _ _ _, hb_ HB⟩
 replace c8 := Bool.eq_false_iff.mpr c8
 subst c8
 rw [if_neg (show ¬ (false = true) by decide)] at H
 revert H; refine pf_ fun c10 H => ?_
 have c10b0 := decide_eq_true c10
 have c10b1 : decide (0 < t387.length) = true := decide_eq_true (by omega)
 clear c10
 revert H; refine bn_ ?_; rintro ⟨t393, t394⟩ A11 H; try dsimp only at H
 revert H; refine bn_ ?_; rintro t395 A12 H; try dsimp only at H
 revert H; refine bn_ ?_; rintro ⟨t396, t397⟩ A13 H; try dsimp only at H
 have HC14 := am_ H
 clear H
 go_upto_region 7 with (first | ((with_reducible refine gate_dst (N := 6) rfl ?_); (try (refine gate_guard (by rfl) ?_; dsimp only)); refine bv_ 6 (cs := #[.int .i64 0, .int .i64 0, .int .i64 0, .slice none 0 0, .slice none 0 0, .slice none 0 0]) (t := 28) ?_; intro gb391 hg w15 hbox hb; have BK391 := am_ (hbox); have GW391 := gs_ hg HB; have GE391 := gs_ hg HB; have NB386_391 := nl_ hg BK386; have NB391_386 := ng_ hg BK386; replace HO_4 := Kd.R_b HO_4 hb; replace BK386 := kb_ BK386 hb; replace HB := hbs_ HB hb; clear hb hbox hg; have := NB391_386.out; have := NB386_391.out; obtain ⟨hcz17_0, hcz17_1, hcz17_2, hcz17_3, hcz17_4, hcz17_5, hfz17_0, hfz17_1, hfz17_2, hfz17_3, hfz17_4, hfz17_5⟩ := bx6 BK391; obtain ⟨Ao18, co18, eo18⟩ := Kd.R_slice HO_4.out; subst eo18; have p392 : 0 ≤ (0 : Int) := (by omega); have q392 : 0 < (t387.length : Int) := od_; obtain ⟨ad392, e392, hx392_0⟩ := Kd.at_string (Kd.R_reads' HO_4.out).2.2 0 p392 q392; cases e392; have qi392 : (0 < t387.length) = True := eq_true (by omega); (try rw [show ((0 : Int)).toNat = 0 from rfl] at hx392_0); (try rw [Addr.add_zero'] at hx392_0); have hn392_0 : ad392.block ≠ gb391 := Kd.own_blk (Kd.R_ne HO_4.out BK391.out (by decide)); have hn392_1 : ad392.block ≠ gb391 := Kd.own_blk (Kd.R_ne HO_4.out BK391.out (by decide)); have hn392_2 : ad392.block ≠ gb391 := Kd.own_blk (Kd.R_ne HO_4.out BK391.out (by decide)); have hn392_3 : ad392.block ≠ gb391 := Kd.own_blk (Kd.R_ne HO_4.out BK391.out (by decide)); have hn392_4 : ad392.block ≠ gb391 := Kd.own_blk (Kd.R_ne HO_4.out BK391.out (by decide)); have hn392_5 : ad392.block ≠ gb391 := Kd.own_blk (Kd.R_ne HO_4.out BK391.out (by decide)); replace hx392_0 := (cell_far (p := ⟨gb391, 0, none⟩) (by first | (rw [add_block]; exact hn392_0) | (show (Addr.add _ _).block ≠ _; rw [add_block]; exact hn392_0) | exact hn392_0) (.int .i64 0)).trans hx392_0; replace hx392_0 := (cell_far (p := ⟨gb391, 1, none⟩) (by first | (rw [add_block]; exact hn392_1) | (show (Addr.add _ _).block ≠ _; rw [add_block]; exact hn392_1) | exact hn392_1) (.int .i64 0)).trans hx392_0; replace hx392_0 := (cell_far (p := ⟨gb391, 2, none⟩) (by first | (rw [add_block]; exact hn392_2) | (show (Addr.add _ _).block ≠ _; rw [add_block]; exact hn392_2) | exact hn392_2) (.int .i64 0)).trans hx392_0; replace hx392_0 := (cell_far (p := ⟨gb391, 3, none⟩) (by first | (rw [add_block]; exact hn392_3) | (show (Addr.add _ _).block ≠ _; rw [add_block]; exact hn392_3) | exact hn392_3) (.slice none 0 0)).trans hx392_0; replace hx392_0 := (cell_far (p := ⟨gb391, 4, none⟩) (by first | (rw [add_block]; exact hn392_4) | (show (Addr.add _ _).block ≠ _; rw [add_block]; exact hn392_4) | exact hn392_4) (.slice none 0 0)).trans hx392_0; replace hx392_0 := (cell_far (p := ⟨gb391, 5, none⟩) (by first | (rw [add_block]; exact hn392_5) | (show (Addr.add _ _).block ≠ _; rw [add_block]; exact hn392_5) | exact hn392_5) (.slice none 0 0)).trans hx392_0; clear hn392_0 hn392_1 hn392_2 hn392_3 hn392_4 hn392_5; replace p392 := eq_true p392; replace q392 := eq_true q392) | ((with_reducible refine gk_ 36 ?_); refine gq_ 32 Tryz.func36 #[.string (rdOf ByteArray.empty t387 0), .string ⟨#[109, 111, 100, 101, 108, 32]⟩] ?_; (with_reducible refine (strings_CutPrefix.calls (rdOf ByteArray.empty t387 0) (⟨#[109, 111, 100, 101, 108, 32]⟩ : ByteArray) t393 t394 _ A11.out).mono ?_); rintro e w' ⟨rfl, ⟨nd, rfl⟩⟩; refine ⟨_, rfl, ?_⟩) | ((with_reducible refine gk_ 38 ?_); refine gq_ 37 Tryz.func38 #[.string t393, .string ⟨#[120]⟩, .string ⟨#[32]⟩] ?_; (with_reducible refine (strings_ReplaceAll.calls t393 (⟨#[120]⟩ : ByteArray) (⟨#[32]⟩ : ByteArray) t395 _ A12.out (by exact LaidW.step HLw (hb_ HB))).mono ?_); rintro e w19 ⟨rfl, hb⟩; refine ⟨_, rfl, ?_⟩; replace HO_4 := Kd.R_sb HO_4 BK391 hb; replace BK386 := kfb_ BK386 NB386_391 hb; replace HB := hbs_ HB hb; replace BK391 := am_ (blk_below (g := gb391) (o := .cells #[.int .i64 0, .int .i64 0, .int .i64 0, .slice none 0 0, .slice none 0 0, .slice none 0 0] 28 (0, 0)) (kpq_ (kputs BK391 [(0, _), (1, _), (2, _), (3, _), (4, _), (5, _)])) hb)) | ((with_reducible refine gk_ 37 ?_); refine gq_ 38 Tryz.func37 #[.string t395, .int .i64 3] ?_; (with_reducible refine (impl_decimals.calls kj2 t395 3 t396 t397 _ A13.out (by exact LaidW.step HLw (hb_ HB))).mono ?_); rintro e w20 ⟨v398, rfl, ho0, hb⟩; refine ⟨_, rfl, ?_⟩; have HO399 := Kd.R_lo ho0 HB; replace HO_4 := Kd.R_b HO_4 hb; replace BK386 := kb_ BK386 hb; replace BK391 := kb_ BK391 hb; replace HB := hbs_ HB hb))
 (try simp only [Act.put, List.setIfInBounds_toArray, List.set_cons_zero, List.set_cons_succ])
 go_cut [50] (fun v50 wc => ∃ (kq : Nat) (x50_13 : Bool), v50 = .bool x50_13 ∧ Aside0 (impl_ParseModel.j1 kq t387 t396 x50_13 = some (r1, r2, r3, r4, r5, r6, r7)) ∧ Aside0 (kq ≤ kj2) ∧ Aside0 (Kd.R Kd.string 9 wc w.heap.size (fun _ => True) (.slice (some ad392) t387.length co18) t387) ∧ Aside0 (Kd.R (Kd.int .i64) 3 wc w.heap.size (fun _ => True) v398 t396) ∧ Aside0 (wc.heap[gb386]? = some (.cells #[.int .i64 0, .int .i64 0, .int .i64 0, (.slice none 0 0), (.slice none 0 0), (.slice none 0 0)] 28 (0, 0))) ∧ Aside0 (wc.heap[gb391]? = some (.cells #[.int .i64 0, .int .i64 0, .int .i64 0, (.slice none 0 0), (.slice none 0 0), (.slice none 0 0)] 28 (0, 0))) ∧ Aside0 (Below w.heap.size w wc))
 case first =>
  have H := HC14.out
  clear HC14
  by_cases c21 : t394 = true
  case neg => replace c21 := Bool.eq_false_iff.mpr c21; subst c21; rw [if_neg (show ¬ (false = true) by decide)] at H; have H' := am_ H; clear H; go_wp2; go_meet; (case rel => exact ⟨_, (true), sr_, H', ⟨by have := HJ2.out; first | omega | exact Nat.le_refl _⟩, ⟨Kd.R_p HO_4⟩, ⟨Kd.R_p HO399⟩, ⟨kp_ BK386⟩, ⟨kp_ BK391⟩, ⟨hb_ HB⟩⟩)
  subst c21
  rw [if_pos rfl] at H
  by_cases c22 : t397 = true
  case neg => replace c22 := Bool.eq_false_iff.mpr c22; subst c22; rw [if_neg (show ¬ (false = true) by decide)] at H; have H' := am_ H; clear H; go_wp2; go_meet; (case rel => exact ⟨_, (true), sr_, H', ⟨by have := HJ2.out; first | omega | exact Nat.le_refl _⟩, ⟨Kd.R_p HO_4⟩, ⟨Kd.R_p HO399⟩, ⟨kp_ BK386⟩, ⟨kp_ BK391⟩, ⟨hb_ HB⟩⟩)
  subst c22
  rw [if_pos rfl] at H
  revert H; refine bn_ ?_; rintro t400 A23 H; try dsimp only at H
  have H' := am_ H
  clear H
  go_wp2_with (first | (go_at_call 39; (with_reducible refine (strings_Contains.calls t393 (⟨#[32]⟩ : ByteArray) t400 _ A23.out).mono ?_); rintro e w' ⟨rfl, ⟨nd, rfl⟩⟩))
  go_meet
  case rel => exact ⟨_, (t400), sr_, H', ⟨by have := HJ2.out; first | omega | exact Nat.le_refl _⟩, ⟨Kd.R_p HO_4⟩, ⟨Kd.R_p HO399⟩, ⟨kp_ BK386⟩, ⟨kp_ BK391⟩, ⟨hb_ HB⟩⟩
 clear HC14
 obtain ⟨kq, x50_13, rfl, HA, HJ13, HO_4, HO_8, BK386, BK391, HB⟩ := hcut
 cases kq with
 | zero => exact absurd HA.out (by simp [impl_ParseModel.j1])
 | succ kj13 => ?_
 have H := HA.out
 clear HA
 simp only [impl_ParseModel.j1] at H
 by_cases c24 : x50_13 = true
 ·subst c24
  rw [if_pos rfl] at H
  simp only [Option.some.injEq, Prod.mk.injEq] at H
  obtain ⟨rfl, rfl, rfl, rfl, rfl, rfl, rfl⟩ := H
  have := NB386_391.out
  have := NB391_386.out
  obtain ⟨hcz26_0, hcz26_1, hcz26_2, hcz26_3, hcz26_4, hcz26_5, hfz26_0, hfz26_1, hfz26_2, hfz26_3, hfz26_4, hfz26_5⟩ := bx6 BK386
  go_wp2
  refine bodyPost_ret (results_ct rfl _ _ gb386 28 #[.int .i64 0, .int .i64 0, .int .i64 0, .slice none 0 0, .slice none 0 0, .slice none 0 0] (0, 0) _ rfl (kpq_ (kputs BK386 [(0, _), (1, _), (2, _), (3, _), (4, _), (5, _)])) Tryz.underlying28 rfl (by kernel_rfl)) rfl ?_
  exact ⟨_, _, _, se_, by first | exact Kd.R_nil _ _ _ _ _ | exact Kd.N_nil _ _ _ _ _ | exact Kd.V_nil _ _ _ _ _ | exact Kd.Q_nil _ _ _ _ _ | exact Kd.S_nil _ _ _ _ _, by first | exact Kd.R_nil _ _ _ _ _ | exact Kd.N_nil _ _ _ _ _ | exact Kd.V_nil _ _ _ _ _ | exact Kd.Q_nil _ _ _ _ _ | exact Kd.S_nil _ _ _ _ _, by first | exact Kd.R_nil _ _ _ _ _ | exact Kd.N_nil _ _ _ _ _ | exact Kd.V_nil _ _ _ _ _ | exact Kd.Q_nil _ _ _ _ _ | exact Kd.S_nil _ _ _ _ _, hb_ HB⟩
 replace c24 := Bool.eq_false_iff.mpr c24
 subst c24
 rw [if_neg (show ¬ (false = true) by decide)] at H
 revert H; refine pf_ fun c27 H => ?_
 have c27b0 := decide_eq_true c27
 have c27b1 : decide (0 < t396.length) = true := decide_eq_true (by omega)
 clear c27
 revert H; refine pf_ fun c28 H => ?_
 have c28b0 := decide_eq_true c28
 have c28b1 : decide (1 < t396.length) = true := decide_eq_true (by omega)
 clear c28
 revert H; refine pf_ fun c29 H => ?_
 have c29b0 := decide_eq_true c29
 have c29b1 : decide (2 < t396.length) = true := decide_eq_true (by omega)
 clear c29
 revert H; refine pf_ fun c30 H => ?_
 have c30b0 := eq_true c30
 have c30b1 := decide_eq_true c30
 clear c30
 obtain ⟨y404, hy404⟩ : ∃ y_ : List ByteArray, y_ = (t387.drop 1) := ⟨_, rfl⟩
 (try with_reducible replace H := (Option.bind_some _ _).symm.trans H); (try dsimp only at H); (try rw [← hy404] at H)
 have Ny404 := am_ hy404
 clear hy404
 have H' := am_ H
 clear H
 try go_wp2
 replace HO_4 := am_ (Kd.R_drew HO_4.out)
 replace HO_8 := am_ (Kd.R_drew HO_8.out)
 replace BK386 := am_ (blk_drew BK386.out)
 replace BK391 := am_ (blk_drew BK391.out)
 replace HB := am_ (below_drew1 HB.out)
 obtain ⟨Ao32, co32, eo32⟩ := Kd.R_slice HO_8.out
 (first | subst eo32 | (injection eo32 with f1_ f2_ f3_; have f4_ := f1_.symm; have f5_ := f3_.symm; clear f1_ f2_ f3_; subst f4_; subst f5_))
 have p401 : 0 ≤ (0 : Int) := (by omega)
 have q401 : 0 < (t396.length : Int) := od_
 obtain ⟨ad401, e401, hx401_0⟩ := Kd.at_int (Kd.R_reads' HO_8.out).2.2 0 p401 q401
 cases e401
 have qi401 : (0 < t396.length) = True := eq_true (by omega)
 (try rw [show ((0 : Int)).toNat = 0 from rfl] at hx401_0)
 (try rw [Addr.add_zero'] at hx401_0)
 replace p401 := eq_true p401
 replace q401 := eq_true q401
 have p402 : 0 ≤ (1 : Int) := (by omega)
 have q402 : 1 < (t396.length : Int) := od_
 obtain ⟨ad402, e402, hx402_0⟩ := Kd.at_int (Kd.R_reads' HO_8.out).2.2 1 p402 q402
 obtain rfl : ad401 = ad402 := (by injection e402)
 (try simp only [show (1 : Int).toNat = 1 from rfl, Nat.reduceMul, Nat.reduceEqDiff, Go.Addr.add, ↓reduceIte] at hx402_0)
 have qi402 : (1 < t396.length) = True := eq_true (by omega)
 (try rw [show ((1 : Int)).toNat = 1 from rfl] at hx402_0)
 replace p402 := eq_true p402
 replace q402 := eq_true q402
 have p403 : 0 ≤ (2 : Int) := (by omega)
 have q403 : 2 < (t396.length : Int) := od_
 obtain ⟨ad403, e403, hx403_0⟩ := Kd.at_int (Kd.R_reads' HO_8.out).2.2 2 p403 q403
 obtain rfl : ad401 = ad403 := (by injection e403)
 (try simp only [show (2 : Int).toNat = 2 from rfl, Nat.reduceMul, Nat.reduceEqDiff, Go.Addr.add, ↓reduceIte] at hx403_0)
 have qi403 : (2 < t396.length) = True := eq_true (by omega)
 (try rw [show ((2 : Int)).toNat = 2 from rfl] at hx403_0)
 replace p403 := eq_true p403
 replace q403 := eq_true q403
 refine start_ (n := 12) (S := fun w' => w'.cell? ad401 = some (.int .i64 (rd t396 0)) ∧ w'.cell? ⟨ad401.block, ad401.off + 1, none⟩ = some (.int .i64 (rd t396 1)) ∧ w'.cell? ⟨ad401.block, ad401.off + 2, none⟩ = some (.int .i64 (rd t396 2))) (ds := []) (bb 12 0) (by kernel_rfl) rfl rfl ⟨hx401_0, hx402_0, hx403_0⟩ (fun hHeld => ?_); refine with_tabW impl_ParseModel.tab9 impl_ParseModel.bits9 (fun HT_ HW_ => ?_)
 generalize wc.drew = w31 at HO_4 HO_8 BK386 BK391 HB hx401_0 hx402_0 hx403_0 hHeld ⊢
 refine pm_ HT_ 0 52 12 1 ?_
 refine pm_ HT_ 1 53 12 3 ?_
 refine pm_ HT_ 3 55 12 11 ?_
 refine pm_ HT_ 4 56 12 27 ?_
 refine pm_ HT_ 6 58 12 91 ?_
 refine pm_ HT_ 7 59 12 219 ?_
 refine tk_ HT_ HW_ hHeld 2 (some 54) (bb 12 223) (h := ?_)
 refine tk_ HT_ HW_ hHeld 5 (some 57) (bb 12 255) (h := ?_)
 refine tk_ HT_ HW_ hHeld 8 (some 60) (bb 12 511) (h := ?_)
 refine pm_ HT_ 9 61 12 1023 ?_
 refine pm_ HT_ 10 62 12 2047 ?_
 refine one_ (i := 11) (N := none) (bb 12 4095) rfl rfl (one_of HT_.out (by kernel_rfl)) (by decide) (fun K hK => ?_)
 have hs33 : w31.cell? ⟨gb391, 0, none⟩ = some (.int .i64 0) := (blk_cell BK391.out 0).trans rfl
 have hfs33 := blk_frozen BK391.out 0
 have hns33_0 := NB386_391.out
 have hms33_0 := NB391_386.out
 have hs34 : w31.cell? ⟨gb391, 1, none⟩ = some (.int .i64 0) := (blk_cell BK391.out 1).trans rfl
 have hfs34 := blk_frozen BK391.out 1
 have hns34_0 := NB386_391.out
 have hms34_0 := NB391_386.out
 have hs35 : w31.cell? ⟨gb391, 2, none⟩ = some (.int .i64 0) := (blk_cell BK391.out 2).trans rfl
 have hfs35 := blk_frozen BK391.out 2
 have hns35_0 := NB386_391.out
 have hms35_0 := NB391_386.out
 refine skip_ (w1 := ?_) (by rfl) rfl ?_ ?_
 rotate_left
 ·go_simp
  rfl
 refine hK.out _ _ ⟨((cell_far (p := ⟨gb391, _, none⟩) (by first | exact Kd.own_blk (Kd.R_ne HO_8.out BK391.out (by decide)) | (rw [add_block]; exact Kd.own_blk (Kd.R_ne HO_8.out BK391.out (by decide))) | (show (Addr.add _ _).block ≠ _; rw [add_block]; exact Kd.own_blk (Kd.R_ne HO_8.out BK391.out (by decide))) | (dsimp only; exact Kd.own_blk (Kd.R_ne HO_8.out BK391.out (by decide)))) _).trans (((cell_far (p := ⟨gb391, _, none⟩) (by first | exact Kd.own_blk (Kd.R_ne HO_8.out BK391.out (by decide)) | (rw [add_block]; exact Kd.own_blk (Kd.R_ne HO_8.out BK391.out (by decide))) | (show (Addr.add _ _).block ≠ _; rw [add_block]; exact Kd.own_blk (Kd.R_ne HO_8.out BK391.out (by decide))) | (dsimp only; exact Kd.own_blk (Kd.R_ne HO_8.out BK391.out (by decide)))) _).trans (((cell_far (p := ⟨gb391, _, none⟩) (by first | exact Kd.own_blk (Kd.R_ne HO_8.out BK391.out (by decide)) | (rw [add_block]; exact Kd.own_blk (Kd.R_ne HO_8.out BK391.out (by decide))) | (show (Addr.add _ _).block ≠ _; rw [add_block]; exact Kd.own_blk (Kd.R_ne HO_8.out BK391.out (by decide))) | (dsimp only; exact Kd.own_blk (Kd.R_ne HO_8.out BK391.out (by decide)))) _).trans (hHeld.1)))))), ((cell_far (p := ⟨gb391, _, none⟩) (by first | exact Kd.own_blk (Kd.R_ne HO_8.out BK391.out (by decide)) | (rw [add_block]; exact Kd.own_blk (Kd.R_ne HO_8.out BK391.out (by decide))) | (show (Addr.add _ _).block ≠ _; rw [add_block]; exact Kd.own_blk (Kd.R_ne HO_8.out BK391.out (by decide))) | (dsimp only; exact Kd.own_blk (Kd.R_ne HO_8.out BK391.out (by decide)))) _).trans (((cell_far (p := ⟨gb391, _, none⟩) (by first | exact Kd.own_blk (Kd.R_ne HO_8.out BK391.out (by decide)) | (rw [add_block]; exact Kd.own_blk (Kd.R_ne HO_8.out BK391.out (by decide))) | (show (Addr.add _ _).block ≠ _; rw [add_block]; exact Kd.own_blk (Kd.R_ne HO_8.out BK391.out (by decide))) | (dsimp only; exact Kd.own_blk (Kd.R_ne HO_8.out BK391.out (by decide)))) _).trans (((cell_far (p := ⟨gb391, _, none⟩) (by first | exact Kd.own_blk (Kd.R_ne HO_8.out BK391.out (by decide)) | (rw [add_block]; exact Kd.own_blk (Kd.R_ne HO_8.out BK391.out (by decide))) | (show (Addr.add _ _).block ≠ _; rw [add_block]; exact Kd.own_blk (Kd.R_ne HO_8.out BK391.out (by decide))) | (dsimp only; exact Kd.own_blk (Kd.R_ne HO_8.out BK391.out (by decide)))) _).trans (hHeld.2.1)))))), ((cell_far (p := ⟨gb391, _, none⟩) (by first | exact Kd.own_blk (Kd.R_ne HO_8.out BK391.out (by decide)) | (rw [add_block]; exact Kd.own_blk (Kd.R_ne HO_8.out BK391.out (by decide))) | (show (Addr.add _ _).block ≠ _; rw [add_block]; exact Kd.own_blk (Kd.R_ne HO_8.out BK391.out (by decide))) | (dsimp only; exact Kd.own_blk (Kd.R_ne HO_8.out BK391.out (by decide)))) _).trans (((cell_far (p := ⟨gb391, _, none⟩) (by first | exact Kd.own_blk (Kd.R_ne HO_8.out BK391.out (by decide)) | (rw [add_block]; exact Kd.own_blk (Kd.R_ne HO_8.out BK391.out (by decide))) | (show (Addr.add _ _).block ≠ _; rw [add_block]; exact Kd.own_blk (Kd.R_ne HO_8.out BK391.out (by decide))) | (dsimp only; exact Kd.own_blk (Kd.R_ne HO_8.out BK391.out (by decide)))) _).trans (((cell_far (p := ⟨gb391, _, none⟩) (by first | exact Kd.own_blk (Kd.R_ne HO_8.out BK391.out (by decide)) | (rw [add_block]; exact Kd.own_blk (Kd.R_ne HO_8.out BK391.out (by decide))) | (show (Addr.add _ _).block ≠ _; rw [add_block]; exact Kd.own_blk (Kd.R_ne HO_8.out BK391.out (by decide))) | (dsimp only; exact Kd.own_blk (Kd.R_ne HO_8.out BK391.out (by decide)))) _).trans (hHeld.2.2))))))⟩ (fun hHeld => ?_)
 clear hK K
 refine done_ (done_of HT_.out (by kernel_rfl)) ?_
 have n0_ : Aside0 (Kd.R Kd.string 9 (((w31.setCell ⟨gb391, 0, none⟩ (.int .i64 (rd t396 0))).setCell ⟨gb391, 1, none⟩ (.int .i64 (rd t396 1))).setCell ⟨gb391, 2, none⟩ (.int .i64 (rd t396 2))) w.heap.size (fun _ => True) (.slice (some ad392) t387.length co18) t387) := ⟨Kd.R_mono (Kd.R_s HO_4 BK391) (fun _ hk => trivial)⟩
 have n1_ : Aside0 (Kd.R (Kd.int .i64) 3 (((w31.setCell ⟨gb391, 0, none⟩ (.int .i64 (rd t396 0))).setCell ⟨gb391, 1, none⟩ (.int .i64 (rd t396 1))).setCell ⟨gb391, 2, none⟩ (.int .i64 (rd t396 2))) w.heap.size (fun _ => True) (.slice (some ad401) t396.length co32) t396) := ⟨Kd.R_mono (Kd.R_s HO_8 BK391) (fun _ hk => trivial)⟩
 have n2_ : Aside0 ((((w31.setCell ⟨gb391, 0, none⟩ (.int .i64 (rd t396 0))).setCell ⟨gb391, 1, none⟩ (.int .i64 (rd t396 1))).setCell ⟨gb391, 2, none⟩ (.int .i64 (rd t396 2))).heap[gb386]? = some (.cells #[.int .i64 0, .int .i64 0, .int .i64 0, .slice none 0 0, .slice none 0 0, .slice none 0 0] 28 (0, 0))) := ⟨kf_ BK386 NB386_391⟩
 have n3_ : Aside0 ((((w31.setCell ⟨gb391, 0, none⟩ (.int .i64 (rd t396 0))).setCell ⟨gb391, 1, none⟩ (.int .i64 (rd t396 1))).setCell ⟨gb391, 2, none⟩ (.int .i64 (rd t396 2))).heap[gb391]? = some (.cells #[.int .i64 (rd t396 0), .int .i64 (rd t396 1), .int .i64 (rd t396 2), .slice none 0 0, .slice none 0 0, .slice none 0 0] 28 (0, 0))) := ⟨kpq_ (kputs BK391 [(0, _), (1, _), (2, _)])⟩
 have n4_ : Aside0 (Below w.heap.size w (((w31.setCell ⟨gb391, 0, none⟩ (.int .i64 (rd t396 0))).setCell ⟨gb391, 1, none⟩ (.int .i64 (rd t396 1))).setCell ⟨gb391, 2, none⟩ (.int .i64 (rd t396 2)))) := ⟨hb_ HB⟩
 generalize (((w31.setCell ⟨gb391, 0, none⟩ (.int .i64 (rd t396 0))).setCell ⟨gb391, 1, none⟩ (.int .i64 (rd t396 1))).setCell ⟨gb391, 2, none⟩ (.int .i64 (rd t396 2))) = w36 at n0_ n1_ n2_ n3_ n4_ ⊢
 have HO_4 := n0_
 have HO_8 := n1_
 have BK386 := n2_
 have BK391 := n3_
 have HB := n4_
 clear n0_ n1_ n2_ n3_ n4_
 have q37 : (1 : Int) ≤ ((t387.length : Int) : Int) := od_
 obtain ⟨i037, hi037, _, hsz37, _⟩ := info_parts info9
 have hroom37 : t387.length ≤ co18 := (Kd.R_reads' HO_4.out).2.1
 have hC37 : Kd.C Kd.string _ (some ad392) t387.length t387 := (Kd.R_reads' HO_4.out).2.2
 have hcut37 := cut_from (P := Tryz.prog) 58 9 .i64 Tryz.underlying58 hi037 1 hsz37 (some ad392) t387.length co18 1 (by omega) q37
 have hr37 := Kd.C_drop (m := (1 : Int).toNat) (c := co18) hC37 (by omega) hroom37
 obtain ⟨A37, hA37⟩ : ∃ A1, A1 = (if co18 = (1 : Int).toNat then (some ad392) else ((some ad392) : Option Addr).map (·.add ((1 : Int).toNat * 1))) := ⟨_, rfl⟩
 obtain ⟨c37, hc37⟩ : ∃ c1, c1 = co18 - (1 : Int).toNat := ⟨_, rfl⟩
 have hy37 : y404.length = t387.length - (1 : Int).toNat := (by rw [Ny404.out, List.length_drop] <;> omega)
 rw [show (t387).drop (1 : Int).toNat = y404 from Ny404.out.symm] at hr37
 replace hr37 : Kd.C Kd.string _ A37 y404.length y404 := (by rw [hA37]; exact hr37)
 rw [← hy37, ← hA37, ← hc37] at hcut37
 have HR407 := am_ hr37
 have HC407 := am_ (show y404.length ≤ c37 from by rw [hy37, hc37]; exact Nat.sub_le_sub_right hroom37 _)
 clear hr37 hC37 hroom37 hi037 hsz37 hc37
 have KY37 := am_ hy37
 have KA37 := am_ hA37
 clear hy37 hA37
 have KL37 := am_ (show 1 ≤ t387.length from by omega)
 replace q37 := eq_true q37
 try go_wp2
 go_loopg [66] kj13 (fun kq v66 w' => ∃ (x66_3 : Int) (x387000_3 : Int) (x387001_3 : Int) (x387002_3 : Int) (x392003_3 : List Int) (x392004_3 : List Int) (x392005_3 : List Int) (u392003 : Value) (u392004 : Value) (u392005 : Value), v66 = .int .i64 x66_3 ∧ Aside0 (impl_ParseModel.l0 kq y404 (y404.length : Int) x66_3 (rd t396 0) (rd t396 1) (rd t396 2) x392003_3 x392004_3 x392005_3 = some (r1, r2, r3, r4, r5, r6, r7)) ∧ Aside0 (kq ≤ kj13) ∧ Aside0 (Kd.R (Kd.int .i64) 3 w' w.heap.size (fun k_ => some k_ ≠ (u392004 : Value).ownBlock ∧ some k_ ≠ (u392005 : Value).ownBlock) u392003 x392003_3) ∧ Aside0 (Kd.R (Kd.int .i64) 3 w' w.heap.size (fun k_ => some k_ ≠ (u392003 : Value).ownBlock ∧ some k_ ≠ (u392005 : Value).ownBlock) u392004 x392004_3) ∧ Aside0 (Kd.R (Kd.int .i64) 3 w' w.heap.size (fun k_ => some k_ ≠ (u392003 : Value).ownBlock ∧ some k_ ≠ (u392004 : Value).ownBlock) u392005 x392005_3) ∧ Aside0 (w'.heap[gb386]? = some (.cells #[.int .i64 x387000_3, .int .i64 x387001_3, .int .i64 x387002_3, (.slice none 0 0), (.slice none 0 0), (.slice none 0 0)] 28 (0, 0))) ∧ Aside0 (w'.heap[gb391]? = some (.cells #[.int .i64 (rd t396 0), .int .i64 (rd t396 1), .int .i64 (rd t396 2), u392003, u392004, u392005] 28 (0, 0))) ∧ Aside0 (Kd.R Kd.string 9 w' w.heap.size (fun _ => True) (.slice (some ad392) t387.length co18) t387) ∧ Aside0 (Kd.C Kd.string w' A37 y404.length y404) ∧ Aside0 (Below w.heap.size w w'))
 case atStart => exact ⟨(0), (0), (0), (0), (([] : List Int)), (([] : List Int)), (([] : List Int)), (.slice none 0 0), (.slice none 0 0), (.slice none 0 0), sr_, H', ⟨Nat.le_refl _⟩, ⟨by first | exact Kd.R_nil _ _ _ _ _ | exact Kd.N_nil _ _ _ _ _ | exact Kd.V_nil _ _ _ _ _ | exact Kd.Q_nil _ _ _ _ _ | exact Kd.S_nil _ _ _ _ _⟩, ⟨by first | exact Kd.R_nil _ _ _ _ _ | exact Kd.N_nil _ _ _ _ _ | exact Kd.V_nil _ _ _ _ _ | exact Kd.Q_nil _ _ _ _ _ | exact Kd.S_nil _ _ _ _ _⟩, ⟨by first | exact Kd.R_nil _ _ _ _ _ | exact Kd.N_nil _ _ _ _ _ | exact Kd.V_nil _ _ _ _ _ | exact Kd.Q_nil _ _ _ _ _ | exact Kd.S_nil _ _ _ _ _⟩, ⟨kp_ BK386⟩, ⟨kp_ BK391⟩, ⟨Kd.R_mono (Kd.R_p HO_4) (fun _ _ => trivial)⟩, ⟨by repeat (first | (with_reducible exact HR407.out) | (with_reducible refine Kd.C_alloc ?_ _) | (with_reducible refine Kd.C_drewN ?_ _) | (with_reducible refine Kd.C_drew ?_) | exact HR407.out)⟩, ⟨hb_ HB⟩⟩
 clear H'
 obtain ⟨x66_3, x387000_3, x387001_3, x387002_3, x392003_3, x392004_3, x392005_3, u392003, u392004, u392005, rfl, HA, HK3, HO_392003, HO_392004, HO_392005, BK386, BK391, HO_4, HR407, HB⟩ := hrel
 cases gk with
 | zero => exact absurd HA.out (by simp [impl_ParseModel.l0])
 | succ k3 => ?_
 have H := HA.out
 clear HA
 simp only [impl_ParseModel.l0] at H
 by_cases c38 : x66_3 < (y404.length : Int)
 ·rw [if_pos c38] at H
  have c38b0 := decide_eq_true c38
  clear c38
  revert H; refine pd_ fun c39b0 H => ?_
  revert H; refine pd_ fun c40b0 H => ?_
  revert H; refine bn_ ?_; rintro ⟨t409, t410⟩ A41 H; try dsimp only at H
  by_cases c42 : t410 = true
  ·subst c42
   rw [if_pos rfl] at H
   revert H; refine pf_ fun c43 H => ?_
   have c43b0 := decide_eq_true c43
   have c43b1 : decide (0 < t409.length) = true := decide_eq_true (by omega)
   clear c43
   revert H; refine pf_ fun c44 H => ?_
   have LMc44 := am_ c44
   clear c44
   obtain ⟨y414, hy414⟩ : ∃ y_ : List Int, y_ = (x392003_3 ++ [rd t409 0]) := ⟨_, rfl⟩
   (try with_reducible replace H := (Option.bind_some _ _).symm.trans H); (try dsimp only at H); (try rw [← hy414] at H)
   have Ny414 := am_ hy414
   clear hy414
   revert H; refine pf_ fun c45 H => ?_
   have c45b0 := decide_eq_true c45
   have c45b1 : decide (1 < t409.length) = true := decide_eq_true (by omega)
   clear c45
   revert H; refine pf_ fun c46 H => ?_
   have LMc46 := am_ c46
   clear c46
   obtain ⟨y418, hy418⟩ : ∃ y_ : List Int, y_ = (x392004_3 ++ [rd t409 1]) := ⟨_, rfl⟩
   (try with_reducible replace H := (Option.bind_some _ _).symm.trans H); (try dsimp only at H); (try rw [← hy418] at H)
   have Ny418 := am_ hy418
   clear hy418
   revert H; refine pf_ fun c47 H => ?_
   have c47b0 := decide_eq_true c47
   have c47b1 : decide (2 < t409.length) = true := decide_eq_true (by omega)
   clear c47
   revert H; refine pf_ fun c48 H => ?_
   have LMc48 := am_ c48
   clear c48
   obtain ⟨y422, hy422⟩ : ∃ y_ : List Int, y_ = (x392005_3 ++ [rd t409 2]) := ⟨_, rfl⟩
   (try with_reducible replace H := (Option.bind_some _ _).symm.trans H); (try dsimp only at H); (try rw [← hy422] at H)
   have Ny422 := am_ hy422
   clear hy422
   have H' := am_ H
   clear H
   have p408 : 0 ≤ (x66_3 : Int) := od_
   have q408 : x66_3 < (y404.length : Int) := od_
   obtain ⟨ad408, e408, hx408_0⟩ := Kd.at_string HR407.out x66_3 p408 q408
   cases e408
   try replace hx408_0 := hc_ HB hx408_0
   replace p408 := eq_true p408
   replace q408 := eq_true q408
   try go_wp2_with (first | ((with_reducible refine gk_ 37 ?_); refine gq_ 72 Tryz.func37 #[.string (rdOf ByteArray.empty y404 x66_3), .int .i64 3] ?_; (with_reducible refine (impl_decimals.calls k3 (rdOf ByteArray.empty y404 x66_3) 3 t409 true _ A41.out (by exact LaidW.step HLw (hb_ HB))).mono ?_); rintro e w49 ⟨v411, rfl, ho0, hb⟩; refine ⟨_, rfl, ?_⟩; have HO412 := Kd.R_lo (Kd.R_nw (Kd.R_nw (Kd.R_nw ho0 HO_392003) HO_392004) HO_392005) HB; replace HO_392003 := Kd.R_e HO_392003 ho0 hb; replace HO_392004 := Kd.R_e HO_392004 ho0 hb; replace HO_392005 := Kd.R_e HO_392005 ho0 hb; replace HO_4 := Kd.R_b HO_4 hb; replace BK386 := kb_ BK386 hb; replace BK391 := kb_ BK391 hb; replace HR407 := am_ (Kd.C_below (by repeat (first | (with_reducible exact HR407.out) | (with_reducible refine Kd.C_alloc ?_ _) | (with_reducible refine Kd.C_drewN ?_ _) | (with_reducible refine Kd.C_drew ?_) | exact HR407.out)) hb); replace HB := hbs_ HB hb))
   replace HO_392003 := am_ (Kd.R_drew HO_392003.out)
   replace HO_392004 := am_ (Kd.R_drew HO_392004.out)
   replace HO_392005 := am_ (Kd.R_drew HO_392005.out)
   replace HO_4 := am_ (Kd.R_drew HO_4.out)
   replace HO412 := am_ (Kd.R_drew HO412.out)
   replace BK386 := am_ (blk_drew BK386.out)
   replace BK391 := am_ (blk_drew BK391.out)
   replace HR407 := am_ (Kd.C_drew HR407.out)
   replace HB := am_ (below_drew1 HB.out)
   obtain ⟨Ao51, co51, eo51⟩ := Kd.R_slice HO412.out
   (first | subst eo51 | (injection eo51 with f1_ f2_ f3_; have f4_ := f1_.symm; have f5_ := f3_.symm; clear f1_ f2_ f3_; subst f4_; subst f5_))
   have p413 : 0 ≤ (0 : Int) := (by omega)
   have q413 : 0 < (t409.length : Int) := od_
   obtain ⟨ad413, e413, hx413_0⟩ := Kd.at_int (Kd.R_reads' HO412.out).2.2 0 p413 q413
   cases e413
   have qi413 : (0 < t409.length) = True := eq_true (by omega)
   (try rw [show ((0 : Int)).toNat = 0 from rfl] at hx413_0)
   (try rw [Addr.add_zero'] at hx413_0)
   replace p413 := eq_true p413
   replace q413 := eq_true q413
   refine start_ (n := 9) (S := fun w' => w'.cell? ⟨gb391, 0, none⟩ = some (.int .i64 (rd t396 0)) ∧ w'.cell? ⟨gb391, 1, none⟩ = some (.int .i64 (rd t396 1)) ∧ w'.cell? ⟨gb391, 2, none⟩ = some (.int .i64 (rd t396 2)) ∧ w'.cell? ⟨gb391, 3, none⟩ = some (u392003) ∧ w'.cell? ⟨gb391, 4, none⟩ = some (u392004) ∧ w'.cell? ⟨gb391, 5, none⟩ = some (u392005) ∧ w'.cell? ad413 = some (.int .i64 (rd t409 0))) (ds := [6, 8]) (bb 9 0) (by kernel_rfl) rfl rfl ⟨(blk_cell BK391.out 0).trans rfl, (blk_cell BK391.out 1).trans rfl, (blk_cell BK391.out 2).trans rfl, (blk_cell BK391.out 3).trans rfl, (blk_cell BK391.out 4).trans rfl, (blk_cell BK391.out 5).trans rfl, hx413_0⟩ (fun hHeld => ?_); refine with_tabW impl_ParseModel.tab16 impl_ParseModel.bits16 (fun HT_ HW_ => ?_)
   generalize w49.drew = w50 at HO_392003 HO_392004 HO_392005 HO_4 HO412 BK386 BK391 HR407 HB hx413_0 hHeld ⊢
   refine pm_ HT_ 0 78 9 1 ?_
   refine pm_ HT_ 2 80 9 5 ?_
   refine pm_ HT_ 3 81 9 13 ?_
   refine tk_ HT_ HW_ hHeld 1 (some 79) (bb 9 15) (h := ?_)
   refine tk_ HT_ HW_ hHeld 4 (some 82) (bb 9 31) (h := ?_)
   refine one_ (i := 5) (N := some 83) (bb 9 63) rfl rfl (one_of HT_.out (by kernel_rfl)) (by decide) (fun K hK => ?_)
   refine value_ (w1 := ?_) (v := ?_) (by rfl) rfl ?_ ?_
   rotate_left 2
   ·go_simp
    constructor
    ·rfl
    rfl
   refine hK.out _ _ ⟨(blk_cell (blk_alloc BK391.out _) 0).trans rfl, (blk_cell (blk_alloc BK391.out _) 1).trans rfl, (blk_cell (blk_alloc BK391.out _) 2).trans rfl, (blk_cell (blk_alloc BK391.out _) 3).trans rfl, (blk_cell (blk_alloc BK391.out _) 4).trans rfl, (blk_cell (blk_alloc BK391.out _) 5).trans rfl, (World.cell?_alloc_lt _ _ _ (World.block_lt_of_cell? _ _ (hHeld.2.2.2.2.2.2))).trans (hHeld.2.2.2.2.2.2)⟩ (fun hHeld => ?_)
   clear hK K
   refine nm_ (some 83) (h := ?_)
   refine last_ (i := 6) (N := some 84) (bb 9 127) rfl rfl (one_of HT_.out (by kernel_rfl)) (by decide) (fun K hK => ?_)
   refine Kd.R_append_step (Kd.int .i64) (w0 := w) w.heap.size (by rfl) (.tmp 79) (.tmp 83) 26 3 (.int .i64 0) 8 rfl Tryz.underlying26 info3 rfl (by decide) (by omega) u392003 x392003_3 (rd t409 0) [.int .i64 (rd t409 0)] (fun k_ => some k_ ≠ (u392004 : Value).ownBlock ∧ some k_ ≠ (u392005 : Value).ownBlock ∧ some k_ ≠ (.slice (some ad413) t409.length co51 : Value).ownBlock) (fun _ => False) rfl rfl ?aP (fun _ hk => hk.elim) ?aF ?aO ?aB ?aS ?aL ?_
   (case aP => exact rfl)
   (case aB => exact (hb_ HB))
   (case aF => exact (fun k_ hk => ⟨Kd.fresh' (Kd.R_lt (Kd.R_p HO_392004)) k_ hk, Kd.fresh' (Kd.R_lt (Kd.R_p HO_392005)) k_ hk, Kd.fresh' (Kd.R_lt (Kd.R_p HO412)) k_ hk⟩))
   (case aO => exact (rm_ (h := HO_392003.out)))
   (case aS => exact (below_size (hb_ HB)))
   (case aL => have := LMc44.out; omega)
   intro v415 w52 ho hb hg hat
   rw [← Ny414.out] at ho
   have n0_ := am_ (Kd.R_after (ok := (fun k_ => some k_ ≠ (u392005 : Value).ownBlock ∧ some k_ ≠ (.slice (some ad413) t409.length co51 : Value).ownBlock)) (rm_ (h := HO_392004.out)) hg hat)
   have n1_ := am_ (Kd.R_after (ok := (fun k_ => some k_ ≠ (u392004 : Value).ownBlock ∧ some k_ ≠ (.slice (some ad413) t409.length co51 : Value).ownBlock)) (rm_ (h := HO_392005.out)) hg hat)
   have n2_ := am_ (blk_grown (kp_ BK386) hg (Kd.R_ne HO_392003.out BK386.out (by decide)))
   have n3_ := am_ (blk_grown (kp_ BK391) hg (Kd.R_ne HO_392003.out BK391.out (by decide)))
   have n4_ := am_ (Kd.R_over' (Kd.R_p HO_4) (Kd.R_typed (Kd.R_p HO_392003)) (by decide) hg)
   have n5_ := am_ (Kd.R_after (ok := (fun k_ => some k_ ≠ (u392004 : Value).ownBlock ∧ some k_ ≠ (u392005 : Value).ownBlock)) (rm_ (h := HO412.out)) hg hat)
   have n6_ := am_ (hb)
   have n7_ := am_ ((show Kd.C Kd.string w52 (some ad408) y404.length y404 from by rw [Ny404.out, KA37.out]; exact Kd.C_drop (m := 1) (c := co18) ((Kd.R_reads' (Kd.R_over' (Kd.R_p HO_4) (Kd.R_typed (Kd.R_p HO_392003)) (by decide) hg)).2.2) KL37.out ((Kd.R_reads' (Kd.R_over' (Kd.R_p HO_4) (Kd.R_typed (Kd.R_p HO_392003)) (by decide) hg)).2.1)))
   have n8_ := am_ (ho)
   clear HO_392004
   clear HO_392005
   clear BK386
   clear BK391
   clear HO_4
   clear HO412
   clear HB
   clear HR407
   clear HO_392003
   have HO_392004 := n0_
   have HO_392005 := n1_
   have BK386 := n2_
   have BK391 := n3_
   have HO_4 := n4_
   have HO412 := n5_
   have HB := n6_
   have HR407 := n7_
   have HO416 := n8_
   clear n0_ n1_ n2_ n3_ n4_ n5_ n6_ n7_ n8_
   clear ho hb hg hat
   obtain ⟨Ao53, co53, eo53⟩ := Kd.R_slice HO416.out
   (first | subst eo53 | (injection eo53 with f1_ f2_ f3_; have f4_ := f1_.symm; have f5_ := f3_.symm; clear f1_ f2_ f3_; subst f4_; subst f5_))
   refine hK.out _ _ ?_
   clear hK K
   refine nm_ (some 84) (h := ?_)
   refine pm_ HT_ 7 85 9 255 ?_
   refine last_ (i := 8) (N := none) (bb 9 511) rfl rfl (one_of HT_.out (by kernel_rfl)) (by decide) (fun K hK => ?_)
   have hs54 : w52.cell? ⟨gb391, 3, none⟩ = some (u392003) := (blk_cell BK391.out 3).trans rfl
   have hfs54 := blk_frozen BK391.out 3
   have hns54_0 := NB386_391.out
   have hms54_0 := NB391_386.out
   refine skip_ (w1 := ?_) (by rfl) rfl ?_ ?_
   rotate_left
   ·go_simp
    rfl
   refine hK.out _ _ ?_
   clear hK K
   refine done_ (done_of HT_.out (by kernel_rfl)) ?_
   try go_wp2
   have n0_ : Aside0 (Kd.R (Kd.int .i64) 3 (w52.setCell ⟨gb391, 3, none⟩ (.slice Ao53 y414.length co53)) w.heap.size (fun k_ => some k_ ≠ (u392005 : Value).ownBlock ∧ some k_ ≠ (.slice (some ad413) t409.length co51 : Value).ownBlock ∧ some k_ ≠ (.slice Ao53 y414.length co53 : Value).ownBlock) u392004 x392004_3) := ⟨Kd.R_mono (Kd.R_s HO_392004 BK391) (fun _ hk => ⟨hk.1.1, ⟨hk.1.2, hk.2⟩⟩)⟩
   have n1_ : Aside0 (Kd.R (Kd.int .i64) 3 (w52.setCell ⟨gb391, 3, none⟩ (.slice Ao53 y414.length co53)) w.heap.size (fun k_ => some k_ ≠ (u392004 : Value).ownBlock ∧ some k_ ≠ (.slice (some ad413) t409.length co51 : Value).ownBlock ∧ some k_ ≠ (.slice Ao53 y414.length co53 : Value).ownBlock) u392005 x392005_3) := ⟨Kd.R_mono (Kd.R_s HO_392005 BK391) (fun _ hk => ⟨hk.1.1, ⟨hk.1.2, hk.2⟩⟩)⟩
   have n2_ : Aside0 (Kd.R Kd.string 9 (w52.setCell ⟨gb391, 3, none⟩ (.slice Ao53 y414.length co53)) w.heap.size (fun _ => True) (.slice (some ad392) t387.length co18) t387) := ⟨Kd.R_mono (Kd.R_s HO_4 BK391) (fun _ hk => trivial)⟩
   have n3_ : Aside0 (Kd.R (Kd.int .i64) 3 (w52.setCell ⟨gb391, 3, none⟩ (.slice Ao53 y414.length co53)) w.heap.size (fun k_ => some k_ ≠ (u392004 : Value).ownBlock ∧ some k_ ≠ (u392005 : Value).ownBlock ∧ some k_ ≠ (.slice Ao53 y414.length co53 : Value).ownBlock) (.slice (some ad413) t409.length co51) t409) := ⟨Kd.R_mono (Kd.R_s HO412 BK391) (fun _ hk => ⟨hk.1.1, ⟨hk.1.2, hk.2⟩⟩)⟩
   have n4_ : Aside0 (Kd.R (Kd.int .i64) 3 (w52.setCell ⟨gb391, 3, none⟩ (.slice Ao53 y414.length co53)) w.heap.size (fun k_ => some k_ ≠ (u392004 : Value).ownBlock ∧ some k_ ≠ (u392005 : Value).ownBlock ∧ some k_ ≠ (.slice (some ad413) t409.length co51 : Value).ownBlock) (.slice Ao53 y414.length co53) y414) := ⟨Kd.R_mono (Kd.R_s HO416 BK391) (fun _ hk => ⟨hk.1, ⟨hk.2.1, hk.2.2⟩⟩)⟩
   have n5_ : Aside0 ((w52.setCell ⟨gb391, 3, none⟩ (.slice Ao53 y414.length co53)).heap[gb386]? = some (.cells #[.int .i64 x387000_3, .int .i64 x387001_3, .int .i64 x387002_3, .slice none 0 0, .slice none 0 0, .slice none 0 0] 28 (0, 0))) := ⟨kf_ BK386 NB386_391⟩
   have n6_ : Aside0 ((w52.setCell ⟨gb391, 3, none⟩ (.slice Ao53 y414.length co53)).heap[gb391]? = some (.cells #[.int .i64 (rd t396 0), .int .i64 (rd t396 1), .int .i64 (rd t396 2), .slice Ao53 y414.length co53, u392004, u392005] 28 (0, 0))) := ⟨kpq_ (kputs BK391 [(3, _)])⟩
   have n7_ : Aside0 (Below w.heap.size w (w52.setCell ⟨gb391, 3, none⟩ (.slice Ao53 y414.length co53))) := ⟨hb_ HB⟩
   generalize (w52.setCell ⟨gb391, 3, none⟩ (.slice Ao53 y414.length co53)) = w55 at n0_ n1_ n2_ n3_ n4_ n5_ n6_ n7_ ⊢
   have HO_392004 := n0_
   have HO_392005 := n1_
   have HO_4 := n2_
   have HO412 := n3_
   have HO416 := n4_
   have BK386 := n5_
   have BK391 := n6_
   have HB := n7_
   clear n0_ n1_ n2_ n3_ n4_ n5_ n6_ n7_
   replace HO_392004 := am_ (Kd.R_drew HO_392004.out)
   replace HO_392005 := am_ (Kd.R_drew HO_392005.out)
   replace HO_4 := am_ (Kd.R_drew HO_4.out)
   replace HO412 := am_ (Kd.R_drew HO412.out)
   replace HO416 := am_ (Kd.R_drew HO416.out)
   replace BK386 := am_ (blk_drew BK386.out)
   replace BK391 := am_ (blk_drew BK391.out)
   replace HB := am_ (below_drew1 HB.out)
   have p417 : 0 ≤ (1 : Int) := (by omega)
   have q417 : 1 < (t409.length : Int) := od_
   obtain ⟨ad417, e417, hx417_0⟩ := Kd.at_int (Kd.R_reads' HO412.out).2.2 1 p417 q417
   obtain rfl : ad413 = ad417 := (by injection e417)
   (try simp only [show (1 : Int).toNat = 1 from rfl, Nat.reduceMul, Nat.reduceEqDiff, Go.Addr.add, ↓reduceIte] at hx417_0)
   have qi417 : (1 < t409.length) = True := eq_true (by omega)
   (try rw [show ((1 : Int)).toNat = 1 from rfl] at hx417_0)
   replace p417 := eq_true p417
   replace q417 := eq_true q417
   refine start_ (n := 9) (S := fun w' => w'.cell? ⟨gb391, 0, none⟩ = some (.int .i64 (rd t396 0)) ∧ w'.cell? ⟨gb391, 1, none⟩ = some (.int .i64 (rd t396 1)) ∧ w'.cell? ⟨gb391, 2, none⟩ = some (.int .i64 (rd t396 2)) ∧ w'.cell? ⟨gb391, 3, none⟩ = some (.slice Ao53 y414.length co53) ∧ w'.cell? ⟨gb391, 4, none⟩ = some (u392004) ∧ w'.cell? ⟨gb391, 5, none⟩ = some (u392005) ∧ w'.cell? ⟨ad413.block, ad413.off + 1, none⟩ = some (.int .i64 (rd t409 1))) (ds := [6, 8]) (bb 9 0) (by kernel_rfl) rfl rfl ⟨(blk_cell BK391.out 0).trans rfl, (blk_cell BK391.out 1).trans rfl, (blk_cell BK391.out 2).trans rfl, (blk_cell BK391.out 3).trans rfl, (blk_cell BK391.out 4).trans rfl, (blk_cell BK391.out 5).trans rfl, hx417_0⟩ (fun hHeld => ?_); refine with_tabW impl_ParseModel.tab17 impl_ParseModel.bits17 (fun HT_ HW_ => ?_)
   generalize w55.drew = w56 at HO_392004 HO_392005 HO_4 HO412 HO416 BK386 BK391 HB hx417_0 hHeld ⊢
   refine pm_ HT_ 0 86 9 1 ?_
   refine pm_ HT_ 2 88 9 5 ?_
   refine pm_ HT_ 3 89 9 13 ?_
   refine tk_ HT_ HW_ hHeld 1 (some 87) (bb 9 15) (h := ?_)
   refine tk_ HT_ HW_ hHeld 4 (some 90) (bb 9 31) (h := ?_)
   refine one_ (i := 5) (N := some 91) (bb 9 63) rfl rfl (one_of HT_.out (by kernel_rfl)) (by decide) (fun K hK => ?_)
   refine value_ (w1 := ?_) (v := ?_) (by rfl) rfl ?_ ?_
   rotate_left 2
   ·go_simp
    constructor
    ·rfl
    rfl
   refine hK.out _ _ ⟨(blk_cell (blk_alloc BK391.out _) 0).trans rfl, (blk_cell (blk_alloc BK391.out _) 1).trans rfl, (blk_cell (blk_alloc BK391.out _) 2).trans rfl, (blk_cell (blk_alloc BK391.out _) 3).trans rfl, (blk_cell (blk_alloc BK391.out _) 4).trans rfl, (blk_cell (blk_alloc BK391.out _) 5).trans rfl, (World.cell?_alloc_lt _ _ _ (World.block_lt_of_cell? _ _ (hHeld.2.2.2.2.2.2))).trans (hHeld.2.2.2.2.2.2)⟩ (fun hHeld => ?_)
   clear hK K
   refine nm_ (some 91) (h := ?_)
   refine last_ (i := 6) (N := some 92) (bb 9 127) rfl rfl (one_of HT_.out (by kernel_rfl)) (by decide) (fun K hK => ?_)
   refine Kd.R_append_step (Kd.int .i64) (w0 := w) w.heap.size (by rfl) (.tmp 87) (.tmp 91) 26 3 (.int .i64 0) 8 rfl Tryz.underlying26 info3 rfl (by decide) (by omega) u392004 x392004_3 (rd t409 1) [.int .i64 (rd t409 1)] (fun k_ => some k_ ≠ (u392005 : Value).ownBlock ∧ some k_ ≠ (.slice (some ad413) t409.length co51 : Value).ownBlock ∧ some k_ ≠ (.slice Ao53 y414.length co53 : Value).ownBlock) (fun _ => False) rfl rfl ?aP (fun _ hk => hk.elim) ?aF ?aO ?aB ?aS ?aL ?_
   (case aP => exact rfl)
   (case aB => exact (hb_ HB))
   (case aF => exact (fun k_ hk => ⟨Kd.fresh' (Kd.R_lt (Kd.R_p HO_392005)) k_ hk, Kd.fresh' (Kd.R_lt (Kd.R_p HO412)) k_ hk, Kd.fresh' (Kd.R_lt (Kd.R_p HO416)) k_ hk⟩))
   (case aO => exact (Kd.R_p HO_392004))
   (case aS => exact (below_size (hb_ HB)))
   (case aL => have := LMc46.out; omega)
   intro v419 w57 ho hb hg hat
   rw [← Ny418.out] at ho
   replace HO_392005 := am_ (Kd.R_after (ok := (fun k_ => some k_ ≠ (.slice (some ad413) t409.length co51 : Value).ownBlock ∧ some k_ ≠ (.slice Ao53 y414.length co53 : Value).ownBlock)) (rm_ (h := HO_392005.out)) hg hat)
   replace BK386 := am_ (blk_grown (kp_ BK386) hg (Kd.R_ne HO_392004.out BK386.out (by decide)))
   replace BK391 := am_ (blk_grown (kp_ BK391) hg (Kd.R_ne HO_392004.out BK391.out (by decide)))
   replace HO_4 := am_ (Kd.R_over' (Kd.R_p HO_4) (Kd.R_typed (Kd.R_p HO_392004)) (by decide) hg)
   replace HO412 := am_ (Kd.R_after (ok := (fun k_ => some k_ ≠ (u392005 : Value).ownBlock ∧ some k_ ≠ (.slice Ao53 y414.length co53 : Value).ownBlock)) (rm_ (h := HO412.out)) hg hat)
   replace HO416 := am_ (Kd.R_after (ok := (fun k_ => some k_ ≠ (u392005 : Value).ownBlock ∧ some k_ ≠ (.slice (some ad413) t409.length co51 : Value).ownBlock)) (rm_ (h := HO416.out)) hg hat)
   replace HB := am_ (hb)
   have HO420 := am_ (ho)
   clear HO_392004
   clear ho hb hg hat
   obtain ⟨Ao58, co58, eo58⟩ := Kd.R_slice HO420.out
   (first | subst eo58 | (injection eo58 with f1_ f2_ f3_; have f4_ := f1_.symm; have f5_ := f3_.symm; clear f1_ f2_ f3_; subst f4_; subst f5_))
   refine hK.out _ _ ?_
   clear hK K
   refine nm_ (some 92) (h := ?_)
   refine pm_ HT_ 7 93 9 255 ?_
   refine last_ (i := 8) (N := none) (bb 9 511) rfl rfl (one_of HT_.out (by kernel_rfl)) (by decide) (fun K hK => ?_)
   have hs59 : w57.cell? ⟨gb391, 4, none⟩ = some (u392004) := (blk_cell BK391.out 4).trans rfl
   have hfs59 := blk_frozen BK391.out 4
   have hns59_0 := NB386_391.out
   have hms59_0 := NB391_386.out
   refine skip_ (w1 := ?_) (by rfl) rfl ?_ ?_
   rotate_left
   ·go_simp
    rfl
   refine hK.out _ _ ?_
   clear hK K
   refine done_ (done_of HT_.out (by kernel_rfl)) ?_
   try go_wp2
   have n0_ : Aside0 (Kd.R (Kd.int .i64) 3 (w57.setCell ⟨gb391, 4, none⟩ (.slice Ao58 y418.length co58)) w.heap.size (fun k_ => some k_ ≠ (.slice (some ad413) t409.length co51 : Value).ownBlock ∧ some k_ ≠ (.slice Ao53 y414.length co53 : Value).ownBlock ∧ some k_ ≠ (.slice Ao58 y418.length co58 : Value).ownBlock) u392005 x392005_3) := ⟨Kd.R_mono (Kd.R_s HO_392005 BK391) (fun _ hk => ⟨hk.1.1, ⟨hk.1.2, hk.2⟩⟩)⟩
   have n1_ : Aside0 (Kd.R Kd.string 9 (w57.setCell ⟨gb391, 4, none⟩ (.slice Ao58 y418.length co58)) w.heap.size (fun _ => True) (.slice (some ad392) t387.length co18) t387) := ⟨Kd.R_mono (Kd.R_s HO_4 BK391) (fun _ hk => trivial)⟩
   have n2_ : Aside0 (Kd.R (Kd.int .i64) 3 (w57.setCell ⟨gb391, 4, none⟩ (.slice Ao58 y418.length co58)) w.heap.size (fun k_ => some k_ ≠ (u392005 : Value).ownBlock ∧ some k_ ≠ (.slice Ao53 y414.length co53 : Value).ownBlock ∧ some k_ ≠ (.slice Ao58 y418.length co58 : Value).ownBlock) (.slice (some ad413) t409.length co51) t409) := ⟨Kd.R_mono (Kd.R_s HO412 BK391) (fun _ hk => ⟨hk.1.1, ⟨hk.1.2, hk.2⟩⟩)⟩
   have n3_ : Aside0 (Kd.R (Kd.int .i64) 3 (w57.setCell ⟨gb391, 4, none⟩ (.slice Ao58 y418.length co58)) w.heap.size (fun k_ => some k_ ≠ (u392005 : Value).ownBlock ∧ some k_ ≠ (.slice (some ad413) t409.length co51 : Value).ownBlock ∧ some k_ ≠ (.slice Ao58 y418.length co58 : Value).ownBlock) (.slice Ao53 y414.length co53) y414) := ⟨Kd.R_mono (Kd.R_s HO416 BK391) (fun _ hk => ⟨hk.1.1, ⟨hk.1.2, hk.2⟩⟩)⟩
   have n4_ : Aside0 (Kd.R (Kd.int .i64) 3 (w57.setCell ⟨gb391, 4, none⟩ (.slice Ao58 y418.length co58)) w.heap.size (fun k_ => some k_ ≠ (u392005 : Value).ownBlock ∧ some k_ ≠ (.slice (some ad413) t409.length co51 : Value).ownBlock ∧ some k_ ≠ (.slice Ao53 y414.length co53 : Value).ownBlock) (.slice Ao58 y418.length co58) y418) := ⟨Kd.R_mono (Kd.R_s HO420 BK391) (fun _ hk => ⟨hk.1, ⟨hk.2.1, hk.2.2⟩⟩)⟩
   have n5_ : Aside0 ((w57.setCell ⟨gb391, 4, none⟩ (.slice Ao58 y418.length co58)).heap[gb386]? = some (.cells #[.int .i64 x387000_3, .int .i64 x387001_3, .int .i64 x387002_3, .slice none 0 0, .slice none 0 0, .slice none 0 0] 28 (0, 0))) := ⟨kf_ BK386 NB386_391⟩
   have n6_ : Aside0 ((w57.setCell ⟨gb391, 4, none⟩ (.slice Ao58 y418.length co58)).heap[gb391]? = some (.cells #[.int .i64 (rd t396 0), .int .i64 (rd t396 1), .int .i64 (rd t396 2), .slice Ao53 y414.length co53, .slice Ao58 y418.length co58, u392005] 28 (0, 0))) := ⟨kpq_ (kputs BK391 [(4, _)])⟩
   have n7_ : Aside0 (Below w.heap.size w (w57.setCell ⟨gb391, 4, none⟩ (.slice Ao58 y418.length co58))) := ⟨hb_ HB⟩
   generalize (w57.setCell ⟨gb391, 4, none⟩ (.slice Ao58 y418.length co58)) = w60 at n0_ n1_ n2_ n3_ n4_ n5_ n6_ n7_ ⊢
   have HO_392005 := n0_
   have HO_4 := n1_
   have HO412 := n2_
   have HO416 := n3_
   have HO420 := n4_
   have BK386 := n5_
   have BK391 := n6_
   have HB := n7_
   clear n0_ n1_ n2_ n3_ n4_ n5_ n6_ n7_
   replace HO_392005 := am_ (Kd.R_drew HO_392005.out)
   replace HO_4 := am_ (Kd.R_drew HO_4.out)
   replace HO412 := am_ (Kd.R_drew HO412.out)
   replace HO416 := am_ (Kd.R_drew HO416.out)
   replace HO420 := am_ (Kd.R_drew HO420.out)
   replace BK386 := am_ (blk_drew BK386.out)
   replace BK391 := am_ (blk_drew BK391.out)
   replace HB := am_ (below_drew1 HB.out)
   have p421 : 0 ≤ (2 : Int) := (by omega)
   have q421 : 2 < (t409.length : Int) := od_
   obtain ⟨ad421, e421, hx421_0⟩ := Kd.at_int (Kd.R_reads' HO412.out).2.2 2 p421 q421
   obtain rfl : ad413 = ad421 := (by injection e421)
   (try simp only [show (2 : Int).toNat = 2 from rfl, Nat.reduceMul, Nat.reduceEqDiff, Go.Addr.add, ↓reduceIte] at hx421_0)
   have qi421 : (2 < t409.length) = True := eq_true (by omega)
   (try rw [show ((2 : Int)).toNat = 2 from rfl] at hx421_0)
   replace p421 := eq_true p421
   replace q421 := eq_true q421
   refine start_ (n := 9) (S := fun w' => w'.cell? ⟨gb391, 0, none⟩ = some (.int .i64 (rd t396 0)) ∧ w'.cell? ⟨gb391, 1, none⟩ = some (.int .i64 (rd t396 1)) ∧ w'.cell? ⟨gb391, 2, none⟩ = some (.int .i64 (rd t396 2)) ∧ w'.cell? ⟨gb391, 3, none⟩ = some (.slice Ao53 y414.length co53) ∧ w'.cell? ⟨gb391, 4, none⟩ = some (.slice Ao58 y418.length co58) ∧ w'.cell? ⟨gb391, 5, none⟩ = some (u392005) ∧ w'.cell? ⟨ad413.block, ad413.off + 2, none⟩ = some (.int .i64 (rd t409 2))) (ds := [6, 8]) (bb 9 0) (by kernel_rfl) rfl rfl ⟨(blk_cell BK391.out 0).trans rfl, (blk_cell BK391.out 1).trans rfl, (blk_cell BK391.out 2).trans rfl, (blk_cell BK391.out 3).trans rfl, (blk_cell BK391.out 4).trans rfl, (blk_cell BK391.out 5).trans rfl, hx421_0⟩ (fun hHeld => ?_); refine with_tabW impl_ParseModel.tab18 impl_ParseModel.bits18 (fun HT_ HW_ => ?_)
   generalize w60.drew = w61 at HO_392005 HO_4 HO412 HO416 HO420 BK386 BK391 HB hx421_0 hHeld ⊢
   refine pm_ HT_ 0 94 9 1 ?_
   refine pm_ HT_ 2 96 9 5 ?_
   refine pm_ HT_ 3 97 9 13 ?_
   refine tk_ HT_ HW_ hHeld 1 (some 95) (bb 9 15) (h := ?_)
   refine tk_ HT_ HW_ hHeld 4 (some 98) (bb 9 31) (h := ?_)
   refine one_ (i := 5) (N := some 99) (bb 9 63) rfl rfl (one_of HT_.out (by kernel_rfl)) (by decide) (fun K hK => ?_)
   refine value_ (w1 := ?_) (v := ?_) (by rfl) rfl ?_ ?_
   rotate_left 2
   ·go_simp
    constructor
    ·rfl
    rfl
   refine hK.out _ _ ⟨(blk_cell (blk_alloc BK391.out _) 0).trans rfl, (blk_cell (blk_alloc BK391.out _) 1).trans rfl, (blk_cell (blk_alloc BK391.out _) 2).trans rfl, (blk_cell (blk_alloc BK391.out _) 3).trans rfl, (blk_cell (blk_alloc BK391.out _) 4).trans rfl, (blk_cell (blk_alloc BK391.out _) 5).trans rfl, (World.cell?_alloc_lt _ _ _ (World.block_lt_of_cell? _ _ (hHeld.2.2.2.2.2.2))).trans (hHeld.2.2.2.2.2.2)⟩ (fun hHeld => ?_)
   clear hK K
   refine nm_ (some 99) (h := ?_)
   refine last_ (i := 6) (N := some 100) (bb 9 127) rfl rfl (one_of HT_.out (by kernel_rfl)) (by decide) (fun K hK => ?_)
   refine Kd.R_append_step (Kd.int .i64) (w0 := w) w.heap.size (by rfl) (.tmp 95) (.tmp 99) 26 3 (.int .i64 0) 8 rfl Tryz.underlying26 info3 rfl (by decide) (by omega) u392005 x392005_3 (rd t409 2) [.int .i64 (rd t409 2)] (fun k_ => some k_ ≠ (.slice (some ad413) t409.length co51 : Value).ownBlock ∧ some k_ ≠ (.slice Ao53 y414.length co53 : Value).ownBlock ∧ some k_ ≠ (.slice Ao58 y418.length co58 : Value).ownBlock) (fun _ => False) rfl rfl ?aP (fun _ hk => hk.elim) ?aF ?aO ?aB ?aS ?aL ?_
   (case aP => exact rfl)
   (case aB => exact (hb_ HB))
   (case aF => exact (fun k_ hk => ⟨Kd.fresh' (Kd.R_lt (Kd.R_p HO412)) k_ hk, Kd.fresh' (Kd.R_lt (Kd.R_p HO416)) k_ hk, Kd.fresh' (Kd.R_lt (Kd.R_p HO420)) k_ hk⟩))
   (case aO => exact (Kd.R_p HO_392005))
   (case aS => exact (below_size (hb_ HB)))
   (case aL => have := LMc48.out; omega)
   intro v423 w62 ho hb hg hat
   rw [← Ny422.out] at ho
   replace BK386 := am_ (blk_grown (kp_ BK386) hg (Kd.R_ne HO_392005.out BK386.out (by decide)))
   replace BK391 := am_ (blk_grown (kp_ BK391) hg (Kd.R_ne HO_392005.out BK391.out (by decide)))
   replace HO_4 := am_ (Kd.R_over' (Kd.R_p HO_4) (Kd.R_typed (Kd.R_p HO_392005)) (by decide) hg)
   replace HO412 := am_ (Kd.R_after (ok := (fun k_ => some k_ ≠ (.slice Ao53 y414.length co53 : Value).ownBlock ∧ some k_ ≠ (.slice Ao58 y418.length co58 : Value).ownBlock)) (rm_ (h := HO412.out)) hg hat)
   replace HO416 := am_ (Kd.R_after (ok := (fun k_ => some k_ ≠ (.slice (some ad413) t409.length co51 : Value).ownBlock ∧ some k_ ≠ (.slice Ao58 y418.length co58 : Value).ownBlock)) (rm_ (h := HO416.out)) hg hat)
   replace HO420 := am_ (Kd.R_after (ok := (fun k_ => some k_ ≠ (.slice (some ad413) t409.length co51 : Value).ownBlock ∧ some k_ ≠ (.slice Ao53 y414.length co53 : Value).ownBlock)) (rm_ (h := HO420.out)) hg hat)
   replace HB := am_ (hb)
   have HO424 := am_ (ho)
   clear HO_392005
   clear ho hb hg hat
   obtain ⟨Ao63, co63, eo63⟩ := Kd.R_slice HO424.out
   (first | subst eo63 | (injection eo63 with f1_ f2_ f3_; have f4_ := f1_.symm; have f5_ := f3_.symm; clear f1_ f2_ f3_; subst f4_; subst f5_))
   refine hK.out _ _ ?_
   clear hK K
   refine nm_ (some 100) (h := ?_)
   refine pm_ HT_ 7 101 9 255 ?_
   refine last_ (i := 8) (N := none) (bb 9 511) rfl rfl (one_of HT_.out (by kernel_rfl)) (by decide) (fun K hK => ?_)
   have hs64 : w62.cell? ⟨gb391, 5, none⟩ = some (u392005) := (blk_cell BK391.out 5).trans rfl
   have hfs64 := blk_frozen BK391.out 5
   have hns64_0 := NB386_391.out
   have hms64_0 := NB391_386.out
   refine skip_ (w1 := ?_) (by rfl) rfl ?_ ?_
   rotate_left
   ·go_simp
    rfl
   refine hK.out _ _ ?_
   clear hK K
   refine done_ (done_of HT_.out (by kernel_rfl)) ?_
   try go_wp2
   go_roundg k3
   case measure => have := HJ2.out; have := HJ13.out; have := HK3.out; omega
   case rel => exact ⟨(wrap64 (x66_3 + 1)), (x387000_3), (x387001_3), (x387002_3), (y414), (y418), (y422), (.slice Ao53 y414.length co53), (.slice Ao58 y418.length co58), (.slice Ao63 y422.length co63), sr_, H', ⟨by have := HJ2.out; have := HJ13.out; have := HK3.out; omega⟩, ⟨Kd.R_mono (Kd.R_s HO416 BK391) (fun _ hk => ⟨hk.1.2, hk.2⟩)⟩, ⟨Kd.R_mono (Kd.R_s HO420 BK391) (fun _ hk => ⟨hk.1.2, hk.2⟩)⟩, ⟨Kd.R_mono (Kd.R_s HO424 BK391) (fun _ hk => ⟨hk.2.1, hk.2.2⟩)⟩, ⟨kf_ BK386 NB386_391⟩, ⟨kpq_ (kputs BK391 [(5, _)])⟩, ⟨Kd.R_mono (Kd.R_s HO_4 BK391) (fun _ _ => trivial)⟩, ⟨(show Kd.C Kd.string _ (some ad408) y404.length y404 from by rw [Ny404.out, KA37.out]; exact Kd.C_drop (m := 1) (c := co18) ((Kd.R_reads' (Kd.R_s HO_4 BK391)).2.2) KL37.out ((Kd.R_reads' (Kd.R_s HO_4 BK391)).2.1))⟩, ⟨hb_ HB⟩⟩
  replace c42 := Bool.eq_false_iff.mpr c42
  subst c42
  rw [if_neg (show ¬ (false = true) by decide)] at H
  simp only [Option.some.injEq, Prod.mk.injEq] at H
  obtain ⟨rfl, rfl, rfl, rfl, rfl, rfl, rfl⟩ := H
  have p408 : 0 ≤ (x66_3 : Int) := od_
  have q408 : x66_3 < (y404.length : Int) := od_
  obtain ⟨ad408, e408, hx408_0⟩ := Kd.at_string HR407.out x66_3 p408 q408
  cases e408
  try replace hx408_0 := hc_ HB hx408_0
  replace p408 := eq_true p408
  replace q408 := eq_true q408
  go_wp2_with (first | ((with_reducible refine gk_ 37 ?_); refine gq_ 72 Tryz.func37 #[.string (rdOf ByteArray.empty y404 x66_3), .int .i64 3] ?_; (with_reducible refine (impl_decimals.calls k3 (rdOf ByteArray.empty y404 x66_3) 3 t409 false _ A41.out (by exact LaidW.step HLw (hb_ HB))).mono ?_); rintro e w65 ⟨v411, rfl, ho0, hb⟩; refine ⟨_, rfl, ?_⟩; have HO412 := Kd.R_lo (Kd.R_nw (Kd.R_nw (Kd.R_nw ho0 HO_392003) HO_392004) HO_392005) HB; replace HO_392003 := Kd.R_e HO_392003 ho0 hb; replace HO_392004 := Kd.R_e HO_392004 ho0 hb; replace HO_392005 := Kd.R_e HO_392005 ho0 hb; replace HO_4 := Kd.R_b HO_4 hb; replace BK386 := kb_ BK386 hb; replace HB := hbs_ HB hb; obtain ⟨hcz66_0, hcz66_1, hcz66_2, hcz66_3, hcz66_4, hcz66_5, hfz66_0, hfz66_1, hfz66_2, hfz66_3, hfz66_4, hfz66_5⟩ := bx6 BK386))
  refine bodyPost_ret (results_ct rfl _ _ gb386 28 #[.int .i64 0, .int .i64 0, .int .i64 0, .slice none 0 0, .slice none 0 0, .slice none 0 0] (0, 0) _ rfl (kpq_ (kputs BK386 [(0, _), (1, _), (2, _), (3, _), (4, _), (5, _)])) Tryz.underlying28 rfl (by kernel_rfl)) rfl ?_
  exact ⟨_, _, _, se_, by first | exact Kd.R_nil _ _ _ _ _ | exact Kd.N_nil _ _ _ _ _ | exact Kd.V_nil _ _ _ _ _ | exact Kd.Q_nil _ _ _ _ _ | exact Kd.S_nil _ _ _ _ _, by first | exact Kd.R_nil _ _ _ _ _ | exact Kd.N_nil _ _ _ _ _ | exact Kd.V_nil _ _ _ _ _ | exact Kd.Q_nil _ _ _ _ _ | exact Kd.S_nil _ _ _ _ _, by first | exact Kd.R_nil _ _ _ _ _ | exact Kd.N_nil _ _ _ _ _ | exact Kd.V_nil _ _ _ _ _ | exact Kd.Q_nil _ _ _ _ _ | exact Kd.S_nil _ _ _ _ _, hb_ HB⟩
 rw [if_neg c38] at H
 have c38b0 := decide_eq_false c38
 clear c38
 revert H; refine bn_ ?_; rintro t425 A67 H; try dsimp only at H
 by_cases c68 : t425 = true
 ·subst c68
  rw [if_pos rfl] at H
  simp only [Option.some.injEq, Prod.mk.injEq] at H
  obtain ⟨rfl, rfl, rfl, rfl, rfl, rfl, rfl⟩ := H
  have := NB391_386.out
  have := NB386_391.out
  obtain ⟨hcz70_0, hcz70_1, hcz70_2, hcz70_3, hcz70_4, hcz70_5, hfz70_0, hfz70_1, hfz70_2, hfz70_3, hfz70_4, hfz70_5⟩ := bx6 BK391
  obtain ⟨Ao71, co71, eo71⟩ := Kd.R_slice HO_392003.out
  subst eo71
  obtain ⟨Ao72, co72, eo72⟩ := Kd.R_slice HO_392004.out
  subst eo72
  obtain ⟨Ao73, co73, eo73⟩ := Kd.R_slice HO_392005.out
  subst eo73
  go_wp2_with (first | ((with_reducible refine gk_ 8 ?_); refine gq_ 104 Tryz.func8 #[.agg #[.int .i64 (rd t396 0), .int .i64 (rd t396 1), .int .i64 (rd t396 2), .slice Ao71 x392003_3.length co71, .slice Ao72 x392004_3.length co72, .slice Ao73 x392005_3.length co73]] ?_; (with_reducible refine (impl_IsModel.calls k3 (rd t396 0) (rd t396 1) (rd t396 2) _ _ x392003_3 _ _ x392004_3 _ _ x392005_3 true _ ?_ ?_ ?_ ?_ ?_ ?_ A67.out).mono ?_); exact Kd.C_o HO_392003; exact (Kd.R_reads' HO_392003.out).2.1; exact Kd.C_o HO_392004; exact (Kd.R_reads' HO_392004.out).2.1; exact Kd.C_o HO_392005; exact (Kd.R_reads' HO_392005.out).2.1; rintro e w74 ⟨rfl, hb⟩; refine ⟨_, rfl, ?_⟩; replace HO_392003 := Kd.R_b HO_392003 hb; replace HO_392004 := Kd.R_b HO_392004 hb; replace HO_392005 := Kd.R_b HO_392005 hb; replace HO_4 := Kd.R_b HO_4 hb; replace BK386 := kb_ BK386 hb; replace BK391 := kb_ BK391 hb; replace HB := hbs_ HB hb; obtain ⟨hcz75_0, hcz75_1, hcz75_2, hcz75_3, hcz75_4, hcz75_5, hfz75_0, hfz75_1, hfz75_2, hfz75_3, hfz75_4, hfz75_5⟩ := bx6 BK391; obtain ⟨hcz76_0, hcz76_1, hcz76_2, hcz76_3, hcz76_4, hcz76_5, hfz76_0, hfz76_1, hfz76_2, hfz76_3, hfz76_4, hfz76_5⟩ := bx6 BK386))
  refine bodyPost_ret (results_ct rfl _ _ gb386 28 #[.int .i64 (rd t396 0), .int .i64 (rd t396 1), .int .i64 (rd t396 2), .slice Ao71 x392003_3.length co71, .slice Ao72 x392004_3.length co72, .slice Ao73 x392005_3.length co73] (0, 0) _ rfl (kpq_ (kputs BK386 [(0, _), (1, _), (2, _), (3, _), (4, _), (5, _)])) Tryz.underlying28 rfl (by kernel_rfl)) rfl ?_
  exact ⟨_, _, _, se_, Kd.R_mono (Kd.R_s HO_392003 BK386) (fun _ hk => ⟨hk.1, hk.2⟩), Kd.R_mono (Kd.R_s HO_392004 BK386) (fun _ hk => ⟨hk.1, hk.2⟩), Kd.R_mono (Kd.R_s HO_392005 BK386) (fun _ hk => ⟨hk.1, hk.2⟩), hb_ HB⟩
 replace c68 := Bool.eq_false_iff.mpr c68
 subst c68
 rw [if_neg (show ¬ (false = true) by decide)] at H
 simp only [Option.some.injEq, Prod.mk.injEq] at H
 obtain ⟨rfl, rfl, rfl, rfl, rfl, rfl, rfl⟩ := H
 have := NB391_386.out
 have := NB386_391.out
 obtain ⟨hcz78_0, hcz78_1, hcz78_2, hcz78_3, hcz78_4, hcz78_5, hfz78_0, hfz78_1, hfz78_2, hfz78_3, hfz78_4, hfz78_5⟩ := bx6 BK391
 obtain ⟨Ao79, co79, eo79⟩ := Kd.R_slice HO_392003.out
 subst eo79
 obtain ⟨Ao80, co80, eo80⟩ := Kd.R_slice HO_392004.out
 subst eo80
 obtain ⟨Ao81, co81, eo81⟩ := Kd.R_slice HO_392005.out
 subst eo81
 go_wp2_with (first | ((with_reducible refine gk_ 8 ?_); refine gq_ 104 Tryz.func8 #[.agg #[.int .i64 (rd t396 0), .int .i64 (rd t396 1), .int .i64 (rd t396 2), .slice Ao79 x392003_3.length co79, .slice Ao80 x392004_3.length co80, .slice Ao81 x392005_3.length co81]] ?_; (with_reducible refine (impl_IsModel.calls k3 (rd t396 0) (rd t396 1) (rd t396 2) _ _ x392003_3 _ _ x392004_3 _ _ x392005_3 false _ ?_ ?_ ?_ ?_ ?_ ?_ A67.out).mono ?_); exact Kd.C_o HO_392003; exact (Kd.R_reads' HO_392003.out).2.1; exact Kd.C_o HO_392004; exact (Kd.R_reads' HO_392004.out).2.1; exact Kd.C_o HO_392005; exact (Kd.R_reads' HO_392005.out).2.1; rintro e w82 ⟨rfl, hb⟩; refine ⟨_, rfl, ?_⟩; replace HO_392003 := Kd.R_b HO_392003 hb; replace HO_392004 := Kd.R_b HO_392004 hb; replace HO_392005 := Kd.R_b HO_392005 hb; replace HO_4 := Kd.R_b HO_4 hb; replace BK386 := kb_ BK386 hb; replace BK391 := kb_ BK391 hb; replace HB := hbs_ HB hb; obtain ⟨hcz83_0, hcz83_1, hcz83_2, hcz83_3, hcz83_4, hcz83_5, hfz83_0, hfz83_1, hfz83_2, hfz83_3, hfz83_4, hfz83_5⟩ := bx6 BK386))
 refine bodyPost_ret (results_ct rfl _ _ gb386 28 #[.int .i64 0, .int .i64 0, .int .i64 0, .slice none 0 0, .slice none 0 0, .slice none 0 0] (0, 0) _ rfl (kpq_ (kputs BK386 [(0, _), (1, _), (2, _), (3, _), (4, _), (5, _)])) Tryz.underlying28 rfl (by kernel_rfl)) rfl ?_
 exact ⟨_, _, _, se_, by first | exact Kd.R_nil _ _ _ _ _ | exact Kd.N_nil _ _ _ _ _ | exact Kd.V_nil _ _ _ _ _ | exact Kd.Q_nil _ _ _ _ _ | exact Kd.S_nil _ _ _ _ _, by first | exact Kd.R_nil _ _ _ _ _ | exact Kd.N_nil _ _ _ _ _ | exact Kd.V_nil _ _ _ _ _ | exact Kd.Q_nil _ _ _ _ _ | exact Kd.S_nil _ _ _ _ _, by first | exact Kd.R_nil _ _ _ _ _ | exact Kd.N_nil _ _ _ _ _ | exact Kd.V_nil _ _ _ _ _ | exact Kd.Q_nil _ _ _ _ _ | exact Kd.S_nil _ _ _ _ _, hb_ HB⟩

end Go.Proofs.YthphbkkkbolcnaaGreatDoor.PFnModels
