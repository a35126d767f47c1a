-- Laid for this claim by wip/tools/print2.sh, a changed copy of the kit's print (wip/tools/patch_print.py): not by print.sh.
import Derived.Test.YthphbkkkbolcnaaGreatDoorPFnModelsx5
import Derived.Test.YthphbkkkbolcnaaGreatDoorVFnModels
namespace Go.Proofs.YthphbkkkbolcnaaGreatDoor.PFnModels
set_option maxHeartbeats 8000000
set_option maxRecDepth 100000
open Go.RowKit Go.Proofs.YthphbkkkbolcnaaGreatDoorW.PrintWords Go.Proofs.YthphbkkkbolcnaaGreatDoorW.PrintLast Go.Proofs.YthphbkkkbolcnaaGreatDoorW.PrintMore
set_option linter.unusedVariables false
set_option linter.unusedSimpArgs false

/-! ### spec_DrawIsModel: function 28 -/
def spec_DrawIsModel.f (k : Nat) (l0 : List Int) : Option (Int × Int × Int × List Int × List Int × List Int) := (spec_l1Cur_anyModel.f k l0 0 0).bind fun bt268 => (some (bt268.1, bt268.2.1, bt268.2.2.1, bt268.2.2.2.1, bt268.2.2.2.2.1, bt268.2.2.2.2.2.1))
theorem spec_DrawIsModel.calls (k : Nat) (A0 : Option Addr) (c0 : Nat) (l0 : List Int) (r1 : Int) (r2 : Int) (r3 : Int) (r4 : List Int) (r5 : List Int) (r6 : List Int) (w : World) (hr0 : Kd.C (Kd.int .u8) w A0 l0.length l0) (hc0 : l0.length ≤ c0) (h : spec_DrawIsModel.f k l0 = some (r1, r2, r3, r4, r5, r6)) :
  Calls Tryz.prog 28 #[.slice A0 l0.length c0] w fun e w' => ∃ v3_ v4_ v5_ : Value, e = .returned (.agg #[.int .i64 r1, .int .i64 r2, .int .i64 r3, v3_, v4_, v5_]) ∧ Kd.R (Kd.int .i64) 3 w' w.heap.size (fun k_ => some k_ ≠ (v4_ : Value).ownBlock ∧ some k_ ≠ (v5_ : Value).ownBlock) v3_ r4 ∧ Kd.R (Kd.int .i64) 3 w' w.heap.size (fun k_ => some k_ ≠ (v3_ : Value).ownBlock ∧ some k_ ≠ (v5_ : Value).ownBlock) v4_ r5 ∧ Kd.R (Kd.int .i64) 3 w' w.heap.size (fun k_ => some k_ ≠ (v3_ : Value).ownBlock ∧ some k_ ≠ (v4_ : Value).ownBlock) v5_ r6 ∧ Below w.heap.size w w' := by
 have hu28 := Tryz.underlying28
 have hu75 := Tryz.underlying75
 have HR0 := am_ hr0
 have HC0 := am_ hc0
 clear hr0 hc0
 have HB := am_ (Below.refl w.heap.size w)
 have H := h
 unfold spec_DrawIsModel.f at H
 clear h
 revert H; refine bn_ ?_; rintro ⟨t268, t269, t270, t271, t274, t277, t280, t281⟩ A2 H; try dsimp only at H
 simp only [Option.some.injEq, Prod.mk.injEq] at H
 obtain ⟨rfl, rfl, rfl, rfl, rfl, rfl⟩ := H
 go_enter Tryz.func28, Tryz.ntmps28
 go_wp2_with (first | ((with_reducible refine gate_dst (N := 2) rfl ?_); refine bv_ 2 (cs := #[.int .i64 0, .int .i64 0, .int .i64 0, .slice none 0 0, .slice none 0 0, .slice none 0 0]) (t := 28) ?_; intro gb266 hg w3 hbox hb; have BK266 := am_ (hbox); have GW266 := gs_ hg HB; have GE266 := gs_ hg HB; replace HB := hbs_ HB hb; clear hb hbox hg) | ((with_reducible refine gate_dst (N := 6) rfl ?_); refine bv_ 6 (cs := #[.slice A0 l0.length c0, .int .i64 0, .int .u64 0]) (t := 75) ?_; intro gb267 hg w4 hbox hb; have HI267 := am_ ((show IsS75 w w4 gb267 l0 0 0 from ⟨A0, c0, hbox, (by rw [hg]; exact (below_size (hb_ HB))), HR0.out⟩)); have GW267 := gs_ hg HB; have GE267 := gs_ hg HB; have NB266_267 := nl_ hg BK266; have NB267_266 := ng_ hg BK266; replace BK266 := kb_ BK266 hb; replace HB := hbs_ HB hb; clear hb hbox hg) | ((with_reducible refine gk_ 55 ?_); refine gq_ 8 Tryz.func55 #[.pointer (some ⟨gb267, 0, none⟩)] ?_; (with_reducible refine (spec_l1Cur_anyModel.calls k gb267 l0 0 0 t268 t269 t270 t271 t274 t277 t280 t281 w _ ?_ ?_ A2.out).mono ?_); exact IsS75.q HI267; exact hbI_ HB (IsS75.ge HI267.out); rintro e w5 ⟨v272, v275, v278, rfl, ho0, ho1, ho2, hi, hb, hk⟩; refine ⟨_, rfl, ?_⟩; have HO273 := am_ (Kd.R_lower ho0 (below_size (hbI_ HB (IsS75.ge HI267.out)))); have HO276 := am_ (Kd.R_lower ho1 (below_size (hbI_ HB (IsS75.ge HI267.out)))); have HO279 := am_ (Kd.R_lower ho2 (below_size (hbI_ HB (IsS75.ge HI267.out)))); replace BK266 := kk_ BK266 hk NB266_267; replace HB := am_ (hb); replace HI267 := am_ (hi); have := NB266_267.out; have := NB267_266.out; obtain ⟨hcz7_0, hcz7_1, hcz7_2, hcz7_3, hcz7_4, hcz7_5, hfz7_0, hfz7_1, hfz7_2, hfz7_3, hfz7_4, hfz7_5⟩ := bx6 BK266; obtain ⟨Ao8, co8, eo8⟩ := Kd.R_slice HO273.out; subst eo8; obtain ⟨Ao9, co9, eo9⟩ := Kd.R_slice HO276.out; subst eo9; obtain ⟨Ao10, co10, eo10⟩ := Kd.R_slice HO279.out; subst eo10))
 refine bodyPost_ret (results_cell_row rfl _ _ gb266 28 #[.int .i64 t268, .int .i64 t269, .int .i64 t270, .slice Ao8 t271.length co8, .slice Ao9 t274.length co9, .slice Ao10 t277.length co10] (0, 0) _ rfl (kpq_ (kputs BK266 [(0, _), (1, _), (2, _), (3, _), (4, _), (5, _)])) Tryz.underlying28 rfl (by kernel_rfl)) rfl ?_
 exact ⟨_, _, _, se_, Kd.R_mono (Kd.R_s HO273 BK266) (fun _ hk => ⟨hk.1, hk.2⟩), Kd.R_mono (Kd.R_s HO276 BK266) (fun _ hk => ⟨hk.1, hk.2⟩), Kd.R_mono (Kd.R_s HO279 BK266) (fun _ hk => ⟨hk.1, hk.2⟩), hbI_ HB (IsS75.ge HI267.out)⟩

/-! ### spec_DrawModelText: function 5 -/
def spec_DrawModelText.f (k : Nat) (l0 : List Int) : Option (Int × Int × Int × List Int × List Int × List Int) := (spec_DrawIsModel.f k l0).bind fun bt283 => (some (bt283.1, bt283.2.1, bt283.2.2.1, bt283.2.2.2.1, bt283.2.2.2.2.1, bt283.2.2.2.2.2))
theorem spec_DrawModelText.calls (k : Nat) (A0 : Option Addr) (c0 : Nat) (l0 : List Int) (r1 : Int) (r2 : Int) (r3 : Int) (r4 : List Int) (r5 : List Int) (r6 : List Int) (w : World) (hr0 : Kd.C (Kd.int .u8) w A0 l0.length l0) (hc0 : l0.length ≤ c0) (h : spec_DrawModelText.f k l0 = some (r1, r2, r3, r4, r5, r6)) :
  Calls Tryz.prog 5 #[.slice A0 l0.length c0] w fun e w' => ∃ v3_ v4_ v5_ : Value, e = .returned (.agg #[.int .i64 r1, .int .i64 r2, .int .i64 r3, v3_, v4_, v5_]) ∧ Kd.R (Kd.int .i64) 3 w' w.heap.size (fun k_ => some k_ ≠ (v4_ : Value).ownBlock ∧ some k_ ≠ (v5_ : Value).ownBlock) v3_ r4 ∧ Kd.R (Kd.int .i64) 3 w' w.heap.size (fun k_ => some k_ ≠ (v3_ : Value).ownBlock ∧ some k_ ≠ (v5_ : Value).ownBlock) v4_ r5 ∧ Kd.R (Kd.int .i64) 3 w' w.heap.size (fun k_ => some k_ ≠ (v3_ : Value).ownBlock ∧ some k_ ≠ (v4_ : Value).ownBlock) v5_ r6 ∧ Below w.heap.size w w' := by
 have hu28 := Tryz.underlying28
 have HR0 := am_ hr0
 have HC0 := am_ hc0
 clear hr0 hc0
 have HB := am_ (Below.refl w.heap.size w)
 have H := h
 unfold spec_DrawModelText.f at H
 clear h
 revert H; refine bn_ ?_; rintro ⟨t283, t284, t285, t286, t289, t292⟩ A2 H; try dsimp only at H
 simp only [Option.some.injEq, Prod.mk.injEq] at H
 obtain ⟨rfl, rfl, rfl, rfl, rfl, rfl⟩ := H
 go_enter Tryz.func5, Tryz.ntmps5
 go_wp2_with (first | ((with_reducible refine gate_dst (N := 2) rfl ?_); refine bv_ 2 (cs := #[.int .i64 0, .int .i64 0, .int .i64 0, .slice none 0 0, .slice none 0 0, .slice none 0 0]) (t := 28) ?_; intro gb282 hg w3 hbox hb; have BK282 := am_ (hbox); have GW282 := gs_ hg HB; have GE282 := gs_ hg HB; replace HB := hbs_ HB hb; clear hb hbox hg) | ((with_reducible refine gk_ 28 ?_); refine gq_ 4 Tryz.func28 #[.slice A0 l0.length c0] ?_; (with_reducible refine (spec_DrawIsModel.calls k _ _ l0 t283 t284 t285 t286 t289 t292 _ ?_ ?_ A2.out).mono ?_); exact Kd.C_w HR0 HB; exact HC0.out; rintro e w4 ⟨v287, v290, v293, rfl, ho0, ho1, ho2, hb⟩; refine ⟨_, rfl, ?_⟩; have HO288 := Kd.R_lo ho0 HB; have HO291 := Kd.R_lo ho1 HB; have HO294 := Kd.R_lo ho2 HB; replace BK282 := kb_ BK282 hb; replace HB := hbs_ HB hb; obtain ⟨hcz5_0, hcz5_1, hcz5_2, hcz5_3, hcz5_4, hcz5_5, hfz5_0, hfz5_1, hfz5_2, hfz5_3, hfz5_4, hfz5_5⟩ := bx6 BK282; obtain ⟨Ao6, co6, eo6⟩ := Kd.R_slice HO288.out; subst eo6; obtain ⟨Ao7, co7, eo7⟩ := Kd.R_slice HO291.out; subst eo7; obtain ⟨Ao8, co8, eo8⟩ := Kd.R_slice HO294.out; subst eo8))
 refine bodyPost_ret (results_cell_row rfl _ _ gb282 28 #[.int .i64 t283, .int .i64 t284, .int .i64 t285, .slice Ao6 t286.length co6, .slice Ao7 t289.length co7, .slice Ao8 t292.length co8] (0, 0) _ rfl (kpq_ (kputs BK282 [(0, _), (1, _), (2, _), (3, _), (4, _), (5, _)])) Tryz.underlying28 rfl (by kernel_rfl)) rfl ?_
 exact ⟨_, _, _, se_, Kd.R_mono (Kd.R_s HO288 BK282) (fun _ hk => ⟨hk.1, hk.2⟩), Kd.R_mono (Kd.R_s HO291 BK282) (fun _ hk => ⟨hk.1, hk.2⟩), Kd.R_mono (Kd.R_s HO294 BK282) (fun _ hk => ⟨hk.1, hk.2⟩), hb_ HB⟩

/-! ### impl_IsGrid: function 33 -/
def impl_IsGrid.f (a0_0 : Int) (a0_1 : Int) (a0_2 : Int) : Option (Bool) := if a0_0 ≥ 1 then (if a0_0 ≤ 8 then (if a0_1 ≥ 1 then (if a0_1 ≤ 6 then (if a0_2 ≥ 1 then (if a0_2 ≤ 5 then (some (decide ((wrap64 ((wrap64 (a0_0 * a0_1)) * a0_2)) ≤ 120))) else (some false)) else (some false)) else (some false)) else (some false)) else (some false)) else (some false)
theorem impl_IsGrid.calls (a0_0 : Int) (a0_1 : Int) (a0_2 : Int) (r : Bool) (w : World) (h : impl_IsGrid.f a0_0 a0_1 a0_2 = some r) :
  Calls Tryz.prog 33 #[.agg #[.int .i64 a0_0, .int .i64 a0_1, .int .i64 a0_2]] w fun e w' => e = .returned (.bool r) ∧ Below w.heap.size w w' := by
 have hu25 := Tryz.underlying25
 have HB := am_ (Below.refl w.heap.size w)
 have H := h
 unfold impl_IsGrid.f at H
 clear h
 by_cases c2 : a0_0 ≥ 1
 ·rw [if_pos c2] at H
  have c2b0 : decide (1 ≤ a0_0) = true := decide_eq_true c2
  clear c2
  by_cases c3 : a0_0 ≤ 8
  ·rw [if_pos c3] at H
   have c3b0 := decide_eq_true c3
   clear c3
   by_cases c4 : a0_1 ≥ 1
   ·rw [if_pos c4] at H
    have c4b0 : decide (1 ≤ a0_1) = true := decide_eq_true c4
    clear c4
    by_cases c5 : a0_1 ≤ 6
    ·rw [if_pos c5] at H
     have c5b0 := decide_eq_true c5
     clear c5
     by_cases c6 : a0_2 ≥ 1
     ·rw [if_pos c6] at H
      have c6b0 : decide (1 ≤ a0_2) = true := decide_eq_true c6
      clear c6
      by_cases c7 : a0_2 ≤ 5
      ·rw [if_pos c7] at H
       have c7b0 := decide_eq_true c7
       clear c7
       obtain rfl := Option.some.inj H
       go_enter Tryz.func33, Tryz.ntmps33
       go_wp2_with (first | ((with_reducible refine gate_dst (N := 1) rfl ?_); refine bv_ 1 (cs := #[.int .i64 a0_0, .int .i64 a0_1, .int .i64 a0_2]) (t := 25) ?_; intro gb295 hg w8 hbox hb; have BK295 := am_ (hbox); have GW295 := gs_ hg HB; have GE295 := gs_ hg HB; replace HB := hbs_ HB hb; clear hb hbox hg; obtain ⟨hcz9_0, hcz9_1, hcz9_2, hfz9_0, hfz9_1, hfz9_2⟩ := bx3 BK295))
       go_ret
       exact ad_ (hb_ HB)
      rw [if_neg c7] at H
      have c7b0 := decide_eq_false c7
      clear c7
      obtain rfl := Option.some.inj H
      go_enter Tryz.func33, Tryz.ntmps33
      go_wp2_with (first | ((with_reducible refine gate_dst (N := 1) rfl ?_); refine bv_ 1 (cs := #[.int .i64 a0_0, .int .i64 a0_1, .int .i64 a0_2]) (t := 25) ?_; intro gb295 hg w10 hbox hb; have BK295 := am_ (hbox); have GW295 := gs_ hg HB; have GE295 := gs_ hg HB; replace HB := hbs_ HB hb; clear hb hbox hg; obtain ⟨hcz11_0, hcz11_1, hcz11_2, hfz11_0, hfz11_1, hfz11_2⟩ := bx3 BK295))
      go_ret
      exact ad_ (hb_ HB)
     rw [if_neg c6] at H
     have c6b0 : decide (1 ≤ a0_2) = false := decide_eq_false c6
     clear c6
     obtain rfl := Option.some.inj H
     go_enter Tryz.func33, Tryz.ntmps33
     go_wp2_with (first | ((with_reducible refine gate_dst (N := 1) rfl ?_); refine bv_ 1 (cs := #[.int .i64 a0_0, .int .i64 a0_1, .int .i64 a0_2]) (t := 25) ?_; intro gb295 hg w12 hbox hb; have BK295 := am_ (hbox); have GW295 := gs_ hg HB; have GE295 := gs_ hg HB; replace HB := hbs_ HB hb; clear hb hbox hg; obtain ⟨hcz13_0, hcz13_1, hcz13_2, hfz13_0, hfz13_1, hfz13_2⟩ := bx3 BK295))
     go_ret
     exact ad_ (hb_ HB)
    rw [if_neg c5] at H
    have c5b0 := decide_eq_false c5
    clear c5
    obtain rfl := Option.some.inj H
    go_enter Tryz.func33, Tryz.ntmps33
    go_wp2_with (first | ((with_reducible refine gate_dst (N := 1) rfl ?_); refine bv_ 1 (cs := #[.int .i64 a0_0, .int .i64 a0_1, .int .i64 a0_2]) (t := 25) ?_; intro gb295 hg w14 hbox hb; have BK295 := am_ (hbox); have GW295 := gs_ hg HB; have GE295 := gs_ hg HB; replace HB := hbs_ HB hb; clear hb hbox hg; obtain ⟨hcz15_0, hcz15_1, hcz15_2, hfz15_0, hfz15_1, hfz15_2⟩ := bx3 BK295))
    go_ret
    exact ad_ (hb_ HB)
   rw [if_neg c4] at H
   have c4b0 : decide (1 ≤ a0_1) = false := decide_eq_false c4
   clear c4
   obtain rfl := Option.some.inj H
   go_enter Tryz.func33, Tryz.ntmps33
   go_wp2_with (first | ((with_reducible refine gate_dst (N := 1) rfl ?_); refine bv_ 1 (cs := #[.int .i64 a0_0, .int .i64 a0_1, .int .i64 a0_2]) (t := 25) ?_; intro gb295 hg w16 hbox hb; have BK295 := am_ (hbox); have GW295 := gs_ hg HB; have GE295 := gs_ hg HB; replace HB := hbs_ HB hb; clear hb hbox hg; obtain ⟨hcz17_0, hcz17_1, hcz17_2, hfz17_0, hfz17_1, hfz17_2⟩ := bx3 BK295))
   go_ret
   exact ad_ (hb_ HB)
  rw [if_neg c3] at H
  have c3b0 := decide_eq_false c3
  clear c3
  obtain rfl := Option.some.inj H
  go_enter Tryz.func33, Tryz.ntmps33
  go_wp2_with (first | ((with_reducible refine gate_dst (N := 1) rfl ?_); refine bv_ 1 (cs := #[.int .i64 a0_0, .int .i64 a0_1, .int .i64 a0_2]) (t := 25) ?_; intro gb295 hg w18 hbox hb; have BK295 := am_ (hbox); have GW295 := gs_ hg HB; have GE295 := gs_ hg HB; replace HB := hbs_ HB hb; clear hb hbox hg; obtain ⟨hcz19_0, hcz19_1, hcz19_2, hfz19_0, hfz19_1, hfz19_2⟩ := bx3 BK295))
  go_ret
  exact ad_ (hb_ HB)
 rw [if_neg c2] at H
 have c2b0 : decide (1 ≤ a0_0) = false := decide_eq_false c2
 clear c2
 obtain rfl := Option.some.inj H
 go_enter Tryz.func33, Tryz.ntmps33
 go_wp2_with (first | ((with_reducible refine gate_dst (N := 1) rfl ?_); refine bv_ 1 (cs := #[.int .i64 a0_0, .int .i64 a0_1, .int .i64 a0_2]) (t := 25) ?_; intro gb295 hg w20 hbox hb; have BK295 := am_ (hbox); have GW295 := gs_ hg HB; have GE295 := gs_ hg HB; replace HB := hbs_ HB hb; clear hb hbox hg; obtain ⟨hcz21_0, hcz21_1, hcz21_2, hfz21_0, hfz21_1, hfz21_2⟩ := bx3 BK295))
 go_ret
 exact ad_ (hb_ HB)

/-! ### impl_blocksOf: function 34 -/
def impl_blocksOf.f (a0_0 : Int) (a0_1 : Int) (a0_2 : Int) : Option (Int) := some (wrap64 ((wrap64 (a0_0 * a0_1)) * a0_2))
theorem impl_blocksOf.calls (a0_0 : Int) (a0_1 : Int) (a0_2 : Int) (r : Int) (w : World) (h : impl_blocksOf.f a0_0 a0_1 a0_2 = some r) :
  Calls Tryz.prog 34 #[.agg #[.int .i64 a0_0, .int .i64 a0_1, .int .i64 a0_2]] w fun e w' => e = .returned (.int .i64 r) ∧ Below w.heap.size w w' := by
 have hu25 := Tryz.underlying25
 have HB := am_ (Below.refl w.heap.size w)
 have H := h
 unfold impl_blocksOf.f at H
 clear h
 obtain rfl := Option.some.inj H
 go_enter Tryz.func34, Tryz.ntmps34
 go_wp2_with (first | ((with_reducible refine gate_dst (N := 1) rfl ?_); refine bv_ 1 (cs := #[.int .i64 a0_0, .int .i64 a0_1, .int .i64 a0_2]) (t := 25) ?_; intro gb296 hg w2 hbox hb; have BK296 := am_ (hbox); have GW296 := gs_ hg HB; have GE296 := gs_ hg HB; replace HB := hbs_ HB hb; clear hb hbox hg; obtain ⟨hcz3_0, hcz3_1, hcz3_2, hfz3_0, hfz3_1, hfz3_2⟩ := bx3 BK296))
 go_ret
 exact ad_ (hb_ HB)

/-! ### impl_IsModel: function 8 -/
mutual
def impl_IsModel.j0 : Nat → Int → Bool → Int → Int → Int → List Int → List Int → List Int → Option (Bool)
 | 0, _, _, _, _, _, _, _, _ => none
 | k + 1, x3, x30, x298000, x298001, x298002, x298003, x298004, x298005 => if x30 = true then (some false) else (impl_IsModel.l0 k x3 0 x298000 x298001 x298002 x298003 x298004 x298005)
def impl_IsModel.l0 : Nat → Int → Int → Int → Int → Int → List Int → List Int → List Int → Option (Bool)
 | 0, _, _, _, _, _, _, _, _ => none
 | k + 1, x31, x32, x298000, x298001, x298002, x298003, x298004, x298005 => if x32 < x31 then (if 0 ≤ x32 then (if x32 < (x298003.length : Int) then (if (rd x298003 x32) < 0 then (some false) else (if (rd x298003 x32) > 10000 then (some false) else (if x32 < (x298004.length : Int) then (if (rd x298004 x32) < 0 then (some false) else (if (rd x298004 x32) > 1000 then (some false) else (if x32 < (x298005.length : Int) then (if (rd x298005 x32) < 0 then (some false) else (if (rd x298005 x32) > 4 then (some false) else (impl_IsModel.l0 k x31 (wrap64 (x32 + 1)) x298000 x298001 x298002 x298003 x298004 x298005))) else (none)))) else (none)))) else (none)) else (none)) else (some true)
end
def impl_IsModel.f (k : Nat) (a0_0 : Int) (a0_1 : Int) (a0_2 : Int) (l0_3 : List Int) (l0_4 : List Int) (l0_5 : List Int) : Option (Bool) := (impl_IsGrid.f a0_0 a0_1 a0_2).bind fun t298 => (if t298 = true then ((impl_blocksOf.f a0_0 a0_1 a0_2).bind fun t299 => (if (l0_3.length : Int) = t299 then (if (l0_4.length : Int) = t299 then (impl_IsModel.j0 k t299 ((l0_5.length : Int) != t299) a0_0 a0_1 a0_2 l0_3 l0_4 l0_5) else (impl_IsModel.j0 k t299 true a0_0 a0_1 a0_2 l0_3 l0_4 l0_5)) else (impl_IsModel.j0 k t299 true a0_0 a0_1 a0_2 l0_3 l0_4 l0_5))) else (some false))
theorem impl_IsModel.calls (k : Nat) (a0_0 : Int) (a0_1 : Int) (a0_2 : Int) (A0_3 : Option Addr) (c0_3 : Nat) (l0_3 : List Int) (A0_4 : Option Addr) (c0_4 : Nat) (l0_4 : List Int) (A0_5 : Option Addr) (c0_5 : Nat) (l0_5 : List Int) (r : Bool) (w : World) (hr0_3 : Kd.C (Kd.int .i64) w A0_3 l0_3.length l0_3) (hc0_3 : l0_3.length ≤ c0_3) (hr0_4 : Kd.C (Kd.int .i64) w A0_4 l0_4.length l0_4) (hc0_4 : l0_4.length ≤ c0_4) (hr0_5 : Kd.C (Kd.int .i64) w A0_5 l0_5.length l0_5) (hc0_5 : l0_5.length ≤ c0_5) (h : impl_IsModel.f k a0_0 a0_1 a0_2 l0_3 l0_4 l0_5 = some r) :
  Calls Tryz.prog 8 #[.agg #[.int .i64 a0_0, .int .i64 a0_1, .int .i64 a0_2, .slice A0_3 l0_3.length c0_3, .slice A0_4 l0_4.length c0_4, .slice A0_5 l0_5.length c0_5]] w fun e w' => e = .returned (.bool r) ∧ Below w.heap.size w w' := by
 have hu28 := Tryz.underlying28
 have hu25 := Tryz.underlying25
 have HR0_3 := am_ hr0_3
 have HC0_3 := am_ hc0_3
 clear hr0_3 hc0_3
 have HR0_4 := am_ hr0_4
 have HC0_4 := am_ hc0_4
 clear hr0_4 hc0_4
 have HR0_5 := am_ hr0_5
 have HC0_5 := am_ hc0_5
 clear hr0_5 hc0_5
 have HB := am_ (Below.refl w.heap.size w)
 have H := h
 unfold impl_IsModel.f at H
 clear h
 revert H; refine bn_ ?_; rintro t298 A2 H; try dsimp only at H
 by_cases c3 : t298 = true
 ·subst c3
  rw [if_pos rfl] at H
  revert H; refine bn_ ?_; rintro t299 A4 H; try dsimp only at H
  have HC5 := am_ H
  clear H
  go_enter Tryz.func8, Tryz.ntmps8
  go_upto_region 4 with (first | ((with_reducible refine gate_dst (N := 1) rfl ?_); (try (refine gate_guard (by rfl) ?_; dsimp only)); refine bv_ 1 (cs := #[.int .i64 a0_0, .int .i64 a0_1, .int .i64 a0_2, .slice A0_3 l0_3.length c0_3, .slice A0_4 l0_4.length c0_4, .slice A0_5 l0_5.length c0_5]) (t := 28) ?_; intro gb297 hg w6 hbox hb; have BK297 := am_ (hbox); have GW297 := gs_ hg HB; have GE297 := gs_ hg HB; replace HB := hbs_ HB hb; clear hb hbox hg; obtain ⟨hcz7_0, hcz7_1, hcz7_2, hcz7_3, hcz7_4, hcz7_5, hfz7_0, hfz7_1, hfz7_2, hfz7_3, hfz7_4, hfz7_5⟩ := bx6 BK297) | ((with_reducible refine gk_ 33 ?_); refine gq_ 7 Tryz.func33 #[.agg #[.int .i64 a0_0, .int .i64 a0_1, .int .i64 a0_2]] ?_; (with_reducible refine (impl_IsGrid.calls a0_0 a0_1 a0_2 true _ A2.out).mono ?_); rintro e w8 ⟨rfl, hb⟩; refine ⟨_, rfl, ?_⟩; replace BK297 := kb_ BK297 hb; replace HB := hbs_ HB hb; obtain ⟨hcz9_0, hcz9_1, hcz9_2, hcz9_3, hcz9_4, hcz9_5, hfz9_0, hfz9_1, hfz9_2, hfz9_3, hfz9_4, hfz9_5⟩ := bx6 BK297) | ((with_reducible refine gk_ 34 ?_); refine gq_ 11 Tryz.func34 #[.agg #[.int .i64 a0_0, .int .i64 a0_1, .int .i64 a0_2]] ?_; (with_reducible refine (impl_blocksOf.calls a0_0 a0_1 a0_2 t299 _ A4.out).mono ?_); rintro e w10 ⟨rfl, hb⟩; refine ⟨_, rfl, ?_⟩; replace BK297 := kb_ BK297 hb; replace HB := hbs_ HB hb))
  (try simp only [Act.put, List.setIfInBounds_toArray, List.set_cons_zero, List.set_cons_succ])
  go_cut [30] (fun v30 wc => ∃ (kq : Nat) (x30_4 : Bool), v30 = .bool x30_4 ∧ Aside0 (impl_IsModel.j0 kq t299 x30_4 a0_0 a0_1 a0_2 l0_3 l0_4 l0_5 = some r) ∧ Aside0 (kq ≤ k) ∧ Aside0 (wc.heap[gb297]? = some (.cells #[.int .i64 a0_0, .int .i64 a0_1, .int .i64 a0_2, (.slice A0_3 l0_3.length c0_3), (.slice A0_4 l0_4.length c0_4), (.slice A0_5 l0_5.length c0_5)] 28 (0, 0))) ∧ Aside0 (Below w.heap.size w wc))
  case first =>
   have H := HC5.out
   clear HC5
   by_cases c11 : (l0_3.length : Int) = t299
   ·rw [if_pos c11] at H
    have c11b0 : ((l0_3.length : Int) == t299) = true := beq_iff_eq.mpr c11
    have c11b1 : ((l0_3.length : Int) != t299) = false := bne_eq_false_iff_eq.mpr c11
    clear c11
    (first | rw [c11b0] | (simp only [i64_w, i32_w]; rw [c11b0]) | skip)
    by_cases c12 : (l0_4.length : Int) = t299
    ·rw [if_pos c12] at H
     have c12b0 : ((l0_4.length : Int) == t299) = true := beq_iff_eq.mpr c12
     have c12b1 : ((l0_4.length : Int) != t299) = false := bne_eq_false_iff_eq.mpr c12
     clear c12
     have H' := am_ H
     clear H
     obtain ⟨hcz13_0, hcz13_1, hcz13_2, hcz13_3, hcz13_4, hcz13_5, hfz13_0, hfz13_1, hfz13_2, hfz13_3, hfz13_4, hfz13_5⟩ := bx6 BK297
     go_wp2
     go_meet
     case rel => exact ⟨_, (((l0_5.length : Int) != t299)), sr_, H', ⟨by first | omega | exact Nat.le_refl _⟩, ⟨kp_ BK297⟩, ⟨hb_ HB⟩⟩
    rw [if_neg c12] at H
    have c12b0 : ((l0_4.length : Int) == t299) = false := beq_eq_false_iff_ne.mpr c12
    have c12b1 : ((l0_4.length : Int) != t299) = true := bne_iff_ne.mpr c12
    have H' := am_ H
    clear H
    obtain ⟨hcz14_0, hcz14_1, hcz14_2, hcz14_3, hcz14_4, hcz14_5, hfz14_0, hfz14_1, hfz14_2, hfz14_3, hfz14_4, hfz14_5⟩ := bx6 BK297
    go_wp2
    go_meet
    case rel => exact ⟨_, (true), sr_, H', ⟨by first | omega | exact Nat.le_refl _⟩, ⟨kp_ BK297⟩, ⟨hb_ HB⟩⟩
   rw [if_neg c11] at H
   have c11b0 : ((l0_3.length : Int) == t299) = false := beq_eq_false_iff_ne.mpr c11
   have c11b1 : ((l0_3.length : Int) != t299) = true := bne_iff_ne.mpr c11
   (first | rw [c11b0] | (simp only [i64_w, i32_w]; rw [c11b0]) | skip)
   have H' := am_ H
   clear H
   obtain ⟨hcz15_0, hcz15_1, hcz15_2, hcz15_3, hcz15_4, hcz15_5, hfz15_0, hfz15_1, hfz15_2, hfz15_3, hfz15_4, hfz15_5⟩ := bx6 BK297
   go_wp2
   go_meet
   case rel => exact ⟨_, (true), sr_, H', ⟨by first | omega | exact Nat.le_refl _⟩, ⟨kp_ BK297⟩, ⟨hb_ HB⟩⟩
  clear HC5
  obtain ⟨kq, x30_4, rfl, HA, HJ4, BK297, HB⟩ := hcut
  cases kq with
  | zero => exact absurd HA.out (by simp [impl_IsModel.j0])
  | succ kj4 => ?_
  have H := HA.out
  clear HA
  simp only [impl_IsModel.j0] at H
  by_cases c16 : x30_4 = true
  ·subst c16
   rw [if_pos rfl] at H
   obtain rfl := Option.some.inj H
   go_wp2
   go_ret
   exact ad_ (hb_ HB)
  replace c16 := Bool.eq_false_iff.mpr c16
  subst c16
  rw [if_neg (show ¬ (false = true) by decide)] at H
  have H' := am_ H
  clear H
  go_wp2
  go_loopg [32] kj4 (fun kq v32 w' => ∃ (x32_2 : Int), v32 = .int .i64 x32_2 ∧ Aside0 (impl_IsModel.l0 kq t299 x32_2 a0_0 a0_1 a0_2 l0_3 l0_4 l0_5 = some r) ∧ Aside0 (kq ≤ kj4) ∧ Aside0 (w'.heap[gb297]? = some (.cells #[.int .i64 a0_0, .int .i64 a0_1, .int .i64 a0_2, (.slice A0_3 l0_3.length c0_3), (.slice A0_4 l0_4.length c0_4), (.slice A0_5 l0_5.length c0_5)] 28 (0, 0))) ∧ Aside0 (Below w.heap.size w w'))
  case atStart => exact ⟨(0), sr_, H', ⟨Nat.le_refl _⟩, ⟨kp_ BK297⟩, ⟨hb_ HB⟩⟩
  clear H'
  obtain ⟨x32_2, rfl, HA, HK2, BK297, HB⟩ := hrel
  cases gk with
  | zero => exact absurd HA.out (by simp [impl_IsModel.l0])
  | succ k2 => ?_
  have H := HA.out
  clear HA
  simp only [impl_IsModel.l0] at H
  by_cases c17 : x32_2 < t299
  case neg => rw [if_neg c17] at H; have c17b0 := decide_eq_false c17; clear c17; obtain rfl := Option.some.inj H; go_wp2; go_ret; exact ad_ (hb_ HB)
  rw [if_pos c17] at H
  have c17b0 := decide_eq_true c17
  clear c17
  revert H; refine pd_ fun c18b0 H => ?_
  revert H; refine pd_ fun c19b0 H => ?_
  by_cases c20 : (rd l0_3 x32_2) < 0
  ·rw [if_pos c20] at H
   have c20b0 := decide_eq_true c20
   clear c20
   obtain rfl := Option.some.inj H
   obtain ⟨hcz21_0, hcz21_1, hcz21_2, hcz21_3, hcz21_4, hcz21_5, hfz21_0, hfz21_1, hfz21_2, hfz21_3, hfz21_4, hfz21_5⟩ := bx6 BK297
   have p300 : 0 ≤ (x32_2 : Int) := od_
   have q300 : x32_2 < (l0_3.length : Int) := od_
   obtain ⟨ad300, e300, hx300_0⟩ := Kd.at_int HR0_3.out x32_2 p300 q300
   cases e300
   try replace hx300_0 := hc_ HB hx300_0
   replace p300 := eq_true p300
   replace q300 := eq_true q300
   go_wp2
   go_ret
   exact ad_ (hb_ HB)
  rw [if_neg c20] at H
  have c20b0 := decide_eq_false c20
  clear c20
  by_cases c22 : (rd l0_3 x32_2) > 10000
  ·rw [if_pos c22] at H
   have c22b0 : decide (10000 < (rd l0_3 x32_2)) = true := decide_eq_true c22
   clear c22
   obtain rfl := Option.some.inj H
   obtain ⟨hcz23_0, hcz23_1, hcz23_2, hcz23_3, hcz23_4, hcz23_5, hfz23_0, hfz23_1, hfz23_2, hfz23_3, hfz23_4, hfz23_5⟩ := bx6 BK297
   have p300 : 0 ≤ (x32_2 : Int) := od_
   have q300 : x32_2 < (l0_3.length : Int) := od_
   obtain ⟨ad300, e300, hx300_0⟩ := Kd.at_int HR0_3.out x32_2 p300 q300
   cases e300
   try replace hx300_0 := hc_ HB hx300_0
   replace p300 := eq_true p300
   replace q300 := eq_true q300
   have p301 : 0 ≤ (x32_2 : Int) := od_
   have q301 : x32_2 < (l0_3.length : Int) := od_
   obtain ⟨ad301, e301, hx301_0⟩ := Kd.at_int HR0_3.out x32_2 p301 q301
   obtain rfl : ad300 = ad301 := (by injection e301)
   try replace hx301_0 := hc_ HB hx301_0
   replace p301 := eq_true p301
   replace q301 := eq_true q301
   go_wp2
   go_ret
   exact ad_ (hb_ HB)
  rw [if_neg c22] at H
  have c22b0 : decide (10000 < (rd l0_3 x32_2)) = false := decide_eq_false c22
  clear c22
  revert H; refine pd_ fun c24b0 H => ?_
  by_cases c25 : (rd l0_4 x32_2) < 0
  ·rw [if_pos c25] at H
   have c25b0 := decide_eq_true c25
   clear c25
   obtain rfl := Option.some.inj H
   obtain ⟨hcz26_0, hcz26_1, hcz26_2, hcz26_3, hcz26_4, hcz26_5, hfz26_0, hfz26_1, hfz26_2, hfz26_3, hfz26_4, hfz26_5⟩ := bx6 BK297
   have p300 : 0 ≤ (x32_2 : Int) := od_
   have q300 : x32_2 < (l0_3.length : Int) := od_
   obtain ⟨ad300, e300, hx300_0⟩ := Kd.at_int HR0_3.out x32_2 p300 q300
   cases e300
   try replace hx300_0 := hc_ HB hx300_0
   replace p300 := eq_true p300
   replace q300 := eq_true q300
   have p301 : 0 ≤ (x32_2 : Int) := od_
   have q301 : x32_2 < (l0_3.length : Int) := od_
   obtain ⟨ad301, e301, hx301_0⟩ := Kd.at_int HR0_3.out x32_2 p301 q301
   obtain rfl : ad300 = ad301 := (by injection e301)
   try replace hx301_0 := hc_ HB hx301_0
   replace p301 := eq_true p301
   replace q301 := eq_true q301
   have p302 : 0 ≤ (x32_2 : Int) := od_
   have q302 : x32_2 < (l0_4.length : Int) := od_
   obtain ⟨ad302, e302, hx302_0⟩ := Kd.at_int HR0_4.out x32_2 p302 q302
   cases e302
   try replace hx302_0 := hc_ HB hx302_0
   replace p302 := eq_true p302
   replace q302 := eq_true q302
   go_wp2
   go_ret
   exact ad_ (hb_ HB)
  rw [if_neg c25] at H
  have c25b0 := decide_eq_false c25
  clear c25
  by_cases c27 : (rd l0_4 x32_2) > 1000
  ·rw [if_pos c27] at H
   have c27b0 : decide (1000 < (rd l0_4 x32_2)) = true := decide_eq_true c27
   clear c27
   obtain rfl := Option.some.inj H
   obtain ⟨hcz28_0, hcz28_1, hcz28_2, hcz28_3, hcz28_4, hcz28_5, hfz28_0, hfz28_1, hfz28_2, hfz28_3, hfz28_4, hfz28_5⟩ := bx6 BK297
   have p300 : 0 ≤ (x32_2 : Int) := od_
   have q300 : x32_2 < (l0_3.length : Int) := od_
   obtain ⟨ad300, e300, hx300_0⟩ := Kd.at_int HR0_3.out x32_2 p300 q300
   cases e300
   try replace hx300_0 := hc_ HB hx300_0
   replace p300 := eq_true p300
   replace q300 := eq_true q300
   have p301 : 0 ≤ (x32_2 : Int) := od_
   have q301 : x32_2 < (l0_3.length : Int) := od_
   obtain ⟨ad301, e301, hx301_0⟩ := Kd.at_int HR0_3.out x32_2 p301 q301
   obtain rfl : ad300 = ad301 := (by injection e301)
   try replace hx301_0 := hc_ HB hx301_0
   replace p301 := eq_true p301
   replace q301 := eq_true q301
   have p302 : 0 ≤ (x32_2 : Int) := od_
   have q302 : x32_2 < (l0_4.length : Int) := od_
   obtain ⟨ad302, e302, hx302_0⟩ := Kd.at_int HR0_4.out x32_2 p302 q302
   cases e302
   try replace hx302_0 := hc_ HB hx302_0
   replace p302 := eq_true p302
   replace q302 := eq_true q302
   have p303 : 0 ≤ (x32_2 : Int) := od_
   have q303 : x32_2 < (l0_4.length : Int) := od_
   obtain ⟨ad303, e303, hx303_0⟩ := Kd.at_int HR0_4.out x32_2 p303 q303
   obtain rfl : ad302 = ad303 := (by injection e303)
   try replace hx303_0 := hc_ HB hx303_0
   replace p303 := eq_true p303
   replace q303 := eq_true q303
   go_wp2
   go_ret
   exact ad_ (hb_ HB)
  rw [if_neg c27] at H
  have c27b0 : decide (1000 < (rd l0_4 x32_2)) = false := decide_eq_false c27
  clear c27
  revert H; refine pd_ fun c29b0 H => ?_
  by_cases c30 : (rd l0_5 x32_2) < 0
  ·rw [if_pos c30] at H
   have c30b0 := decide_eq_true c30
   clear c30
   obtain rfl := Option.some.inj H
   obtain ⟨hcz31_0, hcz31_1, hcz31_2, hcz31_3, hcz31_4, hcz31_5, hfz31_0, hfz31_1, hfz31_2, hfz31_3, hfz31_4, hfz31_5⟩ := bx6 BK297
   have p300 : 0 ≤ (x32_2 : Int) := od_
   have q300 : x32_2 < (l0_3.length : Int) := od_
   obtain ⟨ad300, e300, hx300_0⟩ := Kd.at_int HR0_3.out x32_2 p300 q300
   cases e300
   try replace hx300_0 := hc_ HB hx300_0
   replace p300 := eq_true p300
   replace q300 := eq_true q300
   have p301 : 0 ≤ (x32_2 : Int) := od_
   have q301 : x32_2 < (l0_3.length : Int) := od_
   obtain ⟨ad301, e301, hx301_0⟩ := Kd.at_int HR0_3.out x32_2 p301 q301
   obtain rfl : ad300 = ad301 := (by injection e301)
   try replace hx301_0 := hc_ HB hx301_0
   replace p301 := eq_true p301
   replace q301 := eq_true q301
   have p302 : 0 ≤ (x32_2 : Int) := od_
   have q302 : x32_2 < (l0_4.length : Int) := od_
   obtain ⟨ad302, e302, hx302_0⟩ := Kd.at_int HR0_4.out x32_2 p302 q302
   cases e302
   try replace hx302_0 := hc_ HB hx302_0
   replace p302 := eq_true p302
   replace q302 := eq_true q302
   have p303 : 0 ≤ (x32_2 : Int) := od_
   have q303 : x32_2 < (l0_4.length : Int) := od_
   obtain ⟨ad303, e303, hx303_0⟩ := Kd.at_int HR0_4.out x32_2 p303 q303
   obtain rfl : ad302 = ad303 := (by injection e303)
   try replace hx303_0 := hc_ HB hx303_0
   replace p303 := eq_true p303
   replace q303 := eq_true q303
   have p304 : 0 ≤ (x32_2 : Int) := od_
   have q304 : x32_2 < (l0_5.length : Int) := od_
   obtain ⟨ad304, e304, hx304_0⟩ := Kd.at_int HR0_5.out x32_2 p304 q304
   cases e304
   try replace hx304_0 := hc_ HB hx304_0
   replace p304 := eq_true p304
   replace q304 := eq_true q304
   go_wp2
   go_ret
   exact ad_ (hb_ HB)
  rw [if_neg c30] at H
  have c30b0 := decide_eq_false c30
  clear c30
  by_cases c32 : (rd l0_5 x32_2) > 4
  ·rw [if_pos c32] at H
   have c32b0 : decide (4 < (rd l0_5 x32_2)) = true := decide_eq_true c32
   clear c32
   obtain rfl := Option.some.inj H
   obtain ⟨hcz33_0, hcz33_1, hcz33_2, hcz33_3, hcz33_4, hcz33_5, hfz33_0, hfz33_1, hfz33_2, hfz33_3, hfz33_4, hfz33_5⟩ := bx6 BK297
   have p300 : 0 ≤ (x32_2 : Int) := od_
   have q300 : x32_2 < (l0_3.length : Int) := od_
   obtain ⟨ad300, e300, hx300_0⟩ := Kd.at_int HR0_3.out x32_2 p300 q300
   cases e300
   try replace hx300_0 := hc_ HB hx300_0
   replace p300 := eq_true p300
   replace q300 := eq_true q300
   have p301 : 0 ≤ (x32_2 : Int) := od_
   have q301 : x32_2 < (l0_3.length : Int) := od_
   obtain ⟨ad301, e301, hx301_0⟩ := Kd.at_int HR0_3.out x32_2 p301 q301
   obtain rfl : ad300 = ad301 := (by injection e301)
   try replace hx301_0 := hc_ HB hx301_0
   replace p301 := eq_true p301
   replace q301 := eq_true q301
   have p302 : 0 ≤ (x32_2 : Int) := od_
   have q302 : x32_2 < (l0_4.length : Int) := od_
   obtain ⟨ad302, e302, hx302_0⟩ := Kd.at_int HR0_4.out x32_2 p302 q302
   cases e302
   try replace hx302_0 := hc_ HB hx302_0
   replace p302 := eq_true p302
   replace q302 := eq_true q302
   have p303 : 0 ≤ (x32_2 : Int) := od_
   have q303 : x32_2 < (l0_4.length : Int) := od_
   obtain ⟨ad303, e303, hx303_0⟩ := Kd.at_int HR0_4.out x32_2 p303 q303
   obtain rfl : ad302 = ad303 := (by injection e303)
   try replace hx303_0 := hc_ HB hx303_0
   replace p303 := eq_true p303
   replace q303 := eq_true q303
   have p304 : 0 ≤ (x32_2 : Int) := od_
   have q304 : x32_2 < (l0_5.length : Int) := od_
   obtain ⟨ad304, e304, hx304_0⟩ := Kd.at_int HR0_5.out x32_2 p304 q304
   cases e304
   try replace hx304_0 := hc_ HB hx304_0
   replace p304 := eq_true p304
   replace q304 := eq_true q304
   have p305 : 0 ≤ (x32_2 : Int) := od_
   have q305 : x32_2 < (l0_5.length : Int) := od_
   obtain ⟨ad305, e305, hx305_0⟩ := Kd.at_int HR0_5.out x32_2 p305 q305
   obtain rfl : ad304 = ad305 := (by injection e305)
   try replace hx305_0 := hc_ HB hx305_0
   replace p305 := eq_true p305
   replace q305 := eq_true q305
   go_wp2
   go_ret
   exact ad_ (hb_ HB)
  rw [if_neg c32] at H
  have c32b0 : decide (4 < (rd l0_5 x32_2)) = false := decide_eq_false c32
  clear c32
  have H' := am_ H
  clear H
  obtain ⟨hcz34_0, hcz34_1, hcz34_2, hcz34_3, hcz34_4, hcz34_5, hfz34_0, hfz34_1, hfz34_2, hfz34_3, hfz34_4, hfz34_5⟩ := bx6 BK297
  have p300 : 0 ≤ (x32_2 : Int) := od_
  have q300 : x32_2 < (l0_3.length : Int) := od_
  obtain ⟨ad300, e300, hx300_0⟩ := Kd.at_int HR0_3.out x32_2 p300 q300
  cases e300
  try replace hx300_0 := hc_ HB hx300_0
  replace p300 := eq_true p300
  replace q300 := eq_true q300
  have p301 : 0 ≤ (x32_2 : Int) := od_
  have q301 : x32_2 < (l0_3.length : Int) := od_
  obtain ⟨ad301, e301, hx301_0⟩ := Kd.at_int HR0_3.out x32_2 p301 q301
  obtain rfl : ad300 = ad301 := (by injection e301)
  try replace hx301_0 := hc_ HB hx301_0
  replace p301 := eq_true p301
  replace q301 := eq_true q301
  have p302 : 0 ≤ (x32_2 : Int) := od_
  have q302 : x32_2 < (l0_4.length : Int) := od_
  obtain ⟨ad302, e302, hx302_0⟩ := Kd.at_int HR0_4.out x32_2 p302 q302
  cases e302
  try replace hx302_0 := hc_ HB hx302_0
  replace p302 := eq_true p302
  replace q302 := eq_true q302
  have p303 : 0 ≤ (x32_2 : Int) := od_
  have q303 : x32_2 < (l0_4.length : Int) := od_
  obtain ⟨ad303, e303, hx303_0⟩ := Kd.at_int HR0_4.out x32_2 p303 q303
  obtain rfl : ad302 = ad303 := (by injection e303)
  try replace hx303_0 := hc_ HB hx303_0
  replace p303 := eq_true p303
  replace q303 := eq_true q303
  have p304 : 0 ≤ (x32_2 : Int) := od_
  have q304 : x32_2 < (l0_5.length : Int) := od_
  obtain ⟨ad304, e304, hx304_0⟩ := Kd.at_int HR0_5.out x32_2 p304 q304
  cases e304
  try replace hx304_0 := hc_ HB hx304_0
  replace p304 := eq_true p304
  replace q304 := eq_true q304
  have p305 : 0 ≤ (x32_2 : Int) := od_
  have q305 : x32_2 < (l0_5.length : Int) := od_
  obtain ⟨ad305, e305, hx305_0⟩ := Kd.at_int HR0_5.out x32_2 p305 q305
  obtain rfl : ad304 = ad305 := (by injection e305)
  try replace hx305_0 := hc_ HB hx305_0
  replace p305 := eq_true p305
  replace q305 := eq_true q305
  go_wp2
  go_roundg k2
  case measure => have := HJ4.out; have := HK2.out; omega
  case rel => exact ⟨(wrap64 (x32_2 + 1)), sr_, H', ⟨by have := HJ4.out; have := HK2.out; omega⟩, ⟨kp_ BK297⟩, ⟨hb_ HB⟩⟩
 replace c3 := Bool.eq_false_iff.mpr c3
 subst c3
 rw [if_neg (show ¬ (false = true) by decide)] at H
 obtain rfl := Option.some.inj H
 go_enter Tryz.func8, Tryz.ntmps8
 go_wp2_with (first | ((with_reducible refine gate_dst (N := 1) rfl ?_); (try (refine gate_guard (by rfl) ?_; dsimp only)); refine bv_ 1 (cs := #[.int .i64 a0_0, .int .i64 a0_1, .int .i64 a0_2, .slice A0_3 l0_3.length c0_3, .slice A0_4 l0_4.length c0_4, .slice A0_5 l0_5.length c0_5]) (t := 28) ?_; intro gb297 hg w35 hbox hb; have BK297 := am_ (hbox); have GW297 := gs_ hg HB; have GE297 := gs_ hg HB; replace HB := hbs_ HB hb; clear hb hbox hg; obtain ⟨hcz36_0, hcz36_1, hcz36_2, hcz36_3, hcz36_4, hcz36_5, hfz36_0, hfz36_1, hfz36_2, hfz36_3, hfz36_4, hfz36_5⟩ := bx6 BK297) | ((with_reducible refine gk_ 33 ?_); refine gq_ 7 Tryz.func33 #[.agg #[.int .i64 a0_0, .int .i64 a0_1, .int .i64 a0_2]] ?_; (with_reducible refine (impl_IsGrid.calls a0_0 a0_1 a0_2 false _ A2.out).mono ?_); rintro e w37 ⟨rfl, hb⟩; refine ⟨_, rfl, ?_⟩; replace BK297 := kb_ BK297 hb; replace HB := hbs_ HB hb))
 go_ret
 exact ad_ (hb_ HB)

/-! ### strings_Split: function 64 -/
/-- What the library's table of the powers of ten holds; and its variable MaxLen holds some number. -/
def LaidW (w : World) : Prop := (∃ m, w.cell? ⟨0, 0, none⟩ = some (.int .i64 m)) ∧ Lib.TabIs Tryz.prog w "internal/strconv.uint64pow10" .u64 Lib.pow10Tab
theorem LaidW.below {w W : World} (h : LaidW w) (hb : Below w.heap.size w W) : LaidW W := by
 obtain ⟨⟨m, hm⟩, ht⟩ := h
 have hlt : 0 < w.heap.size := World.block_lt_of_cell? _ _ hm
 refine ⟨⟨m, ?_⟩, ?_⟩
 ·rw [← hm]
  unfold World.cell?
  rw [hb.block 0 hlt]
 ·unfold Lib.TabIs World.var? at *
  cases hg : Tryz.prog.globalNamed "internal/strconv.uint64pow10" with
  | none => rw [hg] at ht; cases ht
  | some g =>
   rw [hg] at ht
   simp only [Option.bind_some] at ht ⊢
   have hlt : g < w.heap.size := by
    rcases Nat.lt_or_ge g w.heap.size with h' | h'
    ·exact h'
    ·rw [Array.getElem?_eq_none h'] at ht; cases ht
   rw [hb.block g hlt]
   exact ht
theorem LaidW.step {w W : World} (h : Aside0 (LaidW w)) (hb : Below w.heap.size w W) : LaidW W := h.out.below hb
def strings_Split.f (a0 a1 : ByteArray) : Option (List ByteArray) := if a0.size ≤ 4294967280 then (if 1 ≤ a1.size then some (Lib.splitB a1 0 (Lib.countB a0 a1) a0) else none) else none
theorem strings_Split.calls (a0 a1 : ByteArray) (r : List ByteArray) (w : World) (h : strings_Split.f a0 a1 = some r) (hL : LaidW w) :
  Calls Tryz.prog 64 #[.string a0, .string a1] w fun e w' => ∃ v0_ : Value, e = .returned (v0_) ∧ Kd.R Kd.string 9 w' w.heap.size (fun _ => True) v0_ r ∧ Below w.heap.size w w' := by
 unfold strings_Split.f at h
 by_cases h0 : a0.size ≤ 4294967280
 case neg => (rw [if_neg h0] at h; cases h)
 rw [if_pos h0] at h
 by_cases h1 : 1 ≤ a1.size
 case neg => (rw [if_neg h1] at h; cases h)
 rw [if_pos h1] at h
 obtain rfl := Option.some.inj h
 obtain ⟨m, hm⟩ := hL.1
 refine (Tryz.strings_Split a0 a1 m w (by omega) hm h1).mono ?_
 rintro e w' ⟨he, hw⟩
 have hlen : (Lib.splitB a1 0 (Lib.countB a0 a1) a0).length = Lib.countB a0 a1 + 1 := Lib.splitB_all a1 h1 0 _ a0 rfl
 have hle := Lib.countB_le a1 h1 a0.size a0 (Nat.le_refl _)
 refine ⟨_, he, ?_, ?_⟩
 ·rw [hw, ← hlen]
  refine Kd.R_of_own ?_ (fun _ _ => trivial)
  have := World.ownsRow_lit (base := w.heap.size) (e := 9) (size := 1) w ((Lib.splitB a1 0 (Lib.countB a0 a1) a0).map Value.string).toArray (Lib.splitB a1 0 (Lib.countB a0 a1) a0).length (Nat.le_refl _) (by rw [hlen]; simp only [maxLen]; omega) (by simp)
  simpa [encs] using this
 rw [hw]; exact below_alloc (Below.refl _ _) _

/-! ### strconv_Itoa: function 56 -/
def strconv_Itoa.f (a0 : Int) : Option (ByteArray) := if 0 ≤ a0 then (if a0 ≤ 9223372036854775807 then some (⟨(Lib.decDigits a0.toNat).toArray⟩ : ByteArray) else none) else none
theorem strconv_Itoa.calls (a0 : Int) (r : ByteArray) (w : World) (h : strconv_Itoa.f a0 = some r) (hL : LaidW w) :
  Calls Tryz.prog 56 #[.int .i64 a0] w fun e w' => e = .returned (.string r) ∧ Below w.heap.size w w' := by
 unfold strconv_Itoa.f at h
 by_cases h0 : 0 ≤ a0
 case neg => (rw [if_neg h0] at h; cases h)
 rw [if_pos h0] at h
 by_cases h1 : a0 ≤ 9223372036854775807
 ·rw [if_pos h1] at h
  obtain rfl := Option.some.inj h
  refine (Tryz.strconv_Itoa a0 (by omega) h1 w hL.2).mono ?_
  rintro e w' ⟨he, k, os, hw⟩
  refine ⟨?_, ?_⟩
  ·rw [he]
   obtain ⟨n, rfl⟩ := Int.eq_ofNat_of_zero_le h0
   rw [Lib.itoa_nonneg]; simp
  rw [hw]; exact Lib.below_grow _ _ (Nat.le_refl _) k os
 rw [if_neg h1] at h; cases h

end Go.Proofs.YthphbkkkbolcnaaGreatDoor.PFnModels
