-- Laid for this claim by wip/tools/print2.sh, a changed copy of the kit's print (wip/tools/patch_print.py): not by print.sh. Changed by wip/fix/laid.py.
import Derived.Test.YtjchafcodnilmaaDoorPFnExactParseModelx0
import Derived.Test.YtjchafcodnilmaaDoorPFnExactParseModelx4
import Derived.Test.YtjchafcodnilmaaDoorPFnExactParseModelx7
import Derived.Test.YtjchafcodnilmaaDoorPFnExactParseModelx8
namespace Go.Proofs.YtjchafcodnilmaaDoor.PFnExactParseModel
open Go.RowKit Go.Proofs.YtjchafcodnilmaaDoorW.PrintWords Go.Proofs.YtjchafcodnilmaaDoorW.PrintLast Go.Proofs.YtjchafcodnilmaaDoorW.PrintMore
attribute [local go_sem] max2_int min2_int max_two min_two max_three min_three max_four min_four   -- for this text's walks alone
set_option linter.unusedVariables false
set_option linter.unusedSimpArgs false

/-! ### laws_FnExactParseModel: function 3 -/
mutual
def laws_FnExactParseModel.j0 : Nat → ByteArray → Bool → Bool → Int → Int → Int → List Int → List Int → List Int → Int → Int → Int → List Int → List Int → List Int → Option (Bool)
 | 0, _, _, _, _, _, _, _, _, _, _, _, _, _, _, _ => none
 | k + 1, x0, x4, x32, x292000, x292001, x292002, x292003, x292004, x292005, x306000, x306001, x306002, x306003, x306004, x306005 => if x32 = true then (some false) else ((laws_markModel.f k x306000 x306001 x306002 x306003 x306004 x306005 1).bind fun bt307 => ((laws_heldModel.f k x306000 x306001 x306002 bt307.2.1 bt307.2.2.1 bt307.2.2.2 1).bind fun t311 => (if t311 < 0 then (some false) else (if t311 = bt307.1 then ((impl_ParseModel.f k x0).bind fun bt312 => ((laws_eqModel.f k bt312.1 bt312.2.1 bt312.2.2.1 bt312.2.2.2.1 bt312.2.2.2.2.1 bt312.2.2.2.2.2.1 x292000 x292001 x292002 x292003 x292004 x292005).bind fun t326 => (if t326 = true then (laws_FnExactParseModel.j1 k bt307.1 (bt312.2.2.2.2.2.2 != x4) x306000 x306001 x306002 bt307.2.1 bt307.2.2.1 bt307.2.2.2) else (laws_FnExactParseModel.j1 k bt307.1 true x306000 x306001 x306002 bt307.2.1 bt307.2.2.1 bt307.2.2.2)))) else (some false)))))
def laws_FnExactParseModel.j1 : Nat → Int → Bool → Int → Int → Int → List Int → List Int → List Int → Option (Bool)
 | 0, _, _, _, _, _, _, _, _ => none
 | k + 1, x7, x57, x306000, x306001, x306002, x306003, x306004, x306005 => if x57 = true then (some false) else ((laws_heldModel.f k x306000 x306001 x306002 x306003 x306004 x306005 1).bind fun t327 => (if t327 < 0 then (some false) else (if t327 = x7 then (some true) else (some false))))
end
def laws_FnExactParseModel.f (k : Nat) (a0 : ByteArray) : Option (Bool) := if (a0.size : Int) > 1048576 then (some true) else ((spec_ParseModel.f k a0).bind fun bt278 => ((impl_ParseModel.f k a0).bind fun bt292 => ((laws_eqModel.f k bt292.1 bt292.2.1 bt292.2.2.1 bt292.2.2.2.1 bt292.2.2.2.2.1 bt292.2.2.2.2.2.1 bt278.1 bt278.2.1 bt278.2.2.1 bt278.2.2.2.1 bt278.2.2.2.2.1 bt278.2.2.2.2.2.1).bind fun t306 => (if t306 = true then (laws_FnExactParseModel.j0 k a0 bt278.2.2.2.2.2.2 (bt292.2.2.2.2.2.2 != bt278.2.2.2.2.2.2) bt278.1 bt278.2.1 bt278.2.2.1 bt278.2.2.2.1 bt278.2.2.2.2.1 bt278.2.2.2.2.2.1 bt292.1 bt292.2.1 bt292.2.2.1 bt292.2.2.2.1 bt292.2.2.2.2.1 bt292.2.2.2.2.2.1) else (laws_FnExactParseModel.j0 k a0 bt278.2.2.2.2.2.2 true bt278.1 bt278.2.1 bt278.2.2.1 bt278.2.2.2.1 bt278.2.2.2.2.1 bt278.2.2.2.2.2.1 bt292.1 bt292.2.1 bt292.2.2.1 bt292.2.2.2.1 bt292.2.2.2.2.1 bt292.2.2.2.2.2.1)))))
set_option maxHeartbeats 8000000 in
set_option maxRecDepth 100000 in
theorem laws_FnExactParseModel.calls (k : Nat) (a0 : ByteArray) (r : Bool) (w : World) (h : laws_FnExactParseModel.f k a0 = some r) (hL : LaidW w) :
  Calls Tryd.prog 3 #[.string a0] w fun e w' => e = .returned (.bool r) ∧ Below w.heap.size w w' := by
 have HLw := Aside0.mk hL
 clear hL
 have hu26 := Tryd.underlying26
 have HB := Aside0.mk (Below.refl w.heap.size w)
 have H : (if (a0.size : Int) > 1048576 then (some true) else ((spec_ParseModel.f k a0).bind fun bt278 => ((impl_ParseModel.f k a0).bind fun bt292 => ((laws_eqModel.f k bt292.1 bt292.2.1 bt292.2.2.1 bt292.2.2.2.1 bt292.2.2.2.2.1 bt292.2.2.2.2.2.1 bt278.1 bt278.2.1 bt278.2.2.1 bt278.2.2.2.1 bt278.2.2.2.2.1 bt278.2.2.2.2.2.1).bind fun t306 => (if t306 = true then (laws_FnExactParseModel.j0 k a0 bt278.2.2.2.2.2.2 (bt292.2.2.2.2.2.2 != bt278.2.2.2.2.2.2) bt278.1 bt278.2.1 bt278.2.2.1 bt278.2.2.2.1 bt278.2.2.2.2.1 bt278.2.2.2.2.2.1 bt292.1 bt292.2.1 bt292.2.2.1 bt292.2.2.2.1 bt292.2.2.2.2.1 bt292.2.2.2.2.2.1) else (laws_FnExactParseModel.j0 k a0 bt278.2.2.2.2.2.2 true bt278.1 bt278.2.1 bt278.2.2.1 bt278.2.2.2.1 bt278.2.2.2.2.1 bt278.2.2.2.2.2.1 bt292.1 bt292.2.1 bt292.2.2.1 bt292.2.2.2.1 bt292.2.2.2.2.1 bt292.2.2.2.2.2.1)))))) = some r := h
 clear h
 by_cases c2 : (a0.size : Int) > 1048576
 ·rw [if_pos c2] at H
  have c2b0 : decide (1048576 < (a0.size : Int)) = true := decide_eq_true c2
  have c2b1 : decide (1048576 < a0.size) = true := decide_eq_true (by omega)
  clear c2
  obtain rfl := Option.some.inj H
  go_enter Tryd.func3, Tryd.ntmps3
  go_wp2
  go_ret
  exact ⟨by first | rfl | (simp [errW_none, errW_some] <;> rfl) | (simp [*, errW_none, errW_some] <;> rfl), hb_ HB⟩
 ·rw [if_neg c2] at H
  have c2b0 : decide (1048576 < (a0.size : Int)) = false := decide_eq_false c2
  have c2b1 : decide (1048576 < a0.size) = false := decide_eq_false (by omega)
  clear c2
  replace H := Option.bind_eq_some_iff.mp H
  obtain ⟨⟨t278, t279, t280, t281, t284, t287, t290⟩, A30, H⟩ := H
  replace H : ((impl_ParseModel.f k a0).bind fun bt292 => ((laws_eqModel.f k bt292.1 bt292.2.1 bt292.2.2.1 bt292.2.2.2.1 bt292.2.2.2.2.1 bt292.2.2.2.2.2.1 t278 t279 t280 t281 t284 t287).bind fun t306 => (if t306 = true then (laws_FnExactParseModel.j0 k a0 t290 (bt292.2.2.2.2.2.2 != t290) t278 t279 t280 t281 t284 t287 bt292.1 bt292.2.1 bt292.2.2.1 bt292.2.2.2.1 bt292.2.2.2.2.1 bt292.2.2.2.2.2.1) else (laws_FnExactParseModel.j0 k a0 t290 true t278 t279 t280 t281 t284 t287 bt292.1 bt292.2.1 bt292.2.2.1 bt292.2.2.2.1 bt292.2.2.2.2.1 bt292.2.2.2.2.2.1)))) = some r := H
  have A3 := Aside0.mk A30
  clear A30
  replace H := Option.bind_eq_some_iff.mp H
  obtain ⟨⟨t292, t293, t294, t295, t298, t301, t304⟩, A40, H⟩ := H
  replace H : ((laws_eqModel.f k t292 t293 t294 t295 t298 t301 t278 t279 t280 t281 t284 t287).bind fun t306 => (if t306 = true then (laws_FnExactParseModel.j0 k a0 t290 (t304 != t290) t278 t279 t280 t281 t284 t287 t292 t293 t294 t295 t298 t301) else (laws_FnExactParseModel.j0 k a0 t290 true t278 t279 t280 t281 t284 t287 t292 t293 t294 t295 t298 t301))) = some r := H
  have A4 := Aside0.mk A40
  clear A40
  have HC5 := Aside0.mk H
  clear H
  go_enter Tryd.func3, Tryd.ntmps3
  go_upto_region 5 with (first | ((with_reducible refine gate_callee (f := 4) rfl ?_); refine gl_ (some 16) Tryd.func4 #[.string a0] rfl rfl rfl ?_; (with_reducible refine (spec_ParseModel.calls k a0 t278 t279 t280 t281 t284 t287 t290 _ A3.out).mono ?_); rintro e w6 ⟨v282, v285, v288, rfl, ho0, ho1, ho2, hb⟩; refine ⟨_, rfl, ?_⟩; have HO283 := Kd.R_lo ho0 HB; have HO286 := Kd.R_lo ho1 HB; have HO289 := Kd.R_lo ho2 HB; replace HB := hbs_ HB hb; (try clear hb); (try clear hb2); (try clear hk); (try clear hi); (try clear ho0); (try clear ho1); (try clear ho2)) | ((with_reducible refine gate_dst (N := 3) rfl ?_); refine box_event ?hg (N := 3) ?hd (cs := #[.int .i64 0, .int .i64 0, .int .i64 0, .slice none 0 0, .slice none 0 0, .slice none 0 0]) (t := 26) ?hr ?_; (case hd => rfl); (case hg => rfl); (case hr => first | (go_simp; done) | (go_simp; rfl)); intro gb291 hg w7 hbox hb; have BK291 := Aside0.mk (hbox); have GW291 := gs_ hg HB; have GE291 := gs_ hg HB; replace HO283 := Kd.R_b HO283 hb; replace HO286 := Kd.R_b HO286 hb; replace HO289 := Kd.R_b HO289 hb; replace HB := hbs_ HB hb; clear hb hbox hg; obtain ⟨hcz8_0, hcz8_1, hcz8_2, hcz8_3, hcz8_4, hcz8_5, hfz8_0, hfz8_1, hfz8_2, hfz8_3, hfz8_4, hfz8_5⟩ := bx6 BK291; obtain ⟨Ao9, co9, eo9⟩ := Kd.R_slice HO283.out; subst eo9; obtain ⟨Ao10, co10, eo10⟩ := Kd.R_slice HO286.out; subst eo10; obtain ⟨Ao11, co11, eo11⟩ := Kd.R_slice HO289.out; subst eo11) | ((with_reducible refine gate_callee (f := 5) rfl ?_); refine gl_ (some 21) Tryd.func5 #[.string a0] rfl rfl rfl ?_; (with_reducible refine (impl_ParseModel.calls k a0 t292 t293 t294 t295 t298 t301 t304 _ A4.out (by exact LaidW.step HLw (hb_ HB))).mono ?_); rintro e w12 ⟨v296, v299, v302, rfl, ho0, ho1, ho2, hb⟩; refine ⟨_, rfl, ?_⟩; have HO297 := Kd.R_lo (Kd.R_ns (Kd.R_ns (Kd.R_ns ho0 HO283 BK291) HO286 BK291) HO289 BK291) HB; have HO300 := Kd.R_lo (Kd.R_ns (Kd.R_ns (Kd.R_ns ho1 HO283 BK291) HO286 BK291) HO289 BK291) HB; have HO303 := Kd.R_lo (Kd.R_ns (Kd.R_ns (Kd.R_ns ho2 HO283 BK291) HO286 BK291) HO289 BK291) HB; replace HO283 := Kd.R_e3s HO283 BK291 ho0 ho1 ho2 hb; replace HO286 := Kd.R_e3s HO286 BK291 ho0 ho1 ho2 hb; replace HO289 := Kd.R_e3s HO289 BK291 ho0 ho1 ho2 hb; replace HB := hbs_ HB hb; replace BK291 := Aside0.mk (blk_below (g := gb291) (o := .cells #[.int .i64 t278, .int .i64 t279, .int .i64 t280, .slice Ao9 t281.length co9, .slice Ao10 t284.length co10, .slice Ao11 t287.length co11] 26 (0, 0)) (kpq_ (kputs BK291 [(0, _), (1, _), (2, _), (3, _), (4, _), (5, _)])) hb); (try clear hb); (try clear hb2); (try clear hk); (try clear hi); (try clear ho0); (try clear ho1); (try clear ho2)) | ((with_reducible refine gate_dst (N := 5) rfl ?_); refine box_event ?hg (N := 5) ?hd (cs := #[.int .i64 0, .int .i64 0, .int .i64 0, .slice none 0 0, .slice none 0 0, .slice none 0 0]) (t := 26) ?hr ?_; (case hd => rfl); (case hg => rfl); (case hr => first | (go_simp; done) | (go_simp; rfl)); intro gb305 hg w13 hbox hb; have BK305 := Aside0.mk (hbox); have GW305 := gs_ hg HB; have GE305 := gs_ hg HB; have NB291_305 := nl_ hg BK291; have NB305_291 := ng_ hg BK291; replace HO283 := Kd.R_b HO283 hb; replace HO286 := Kd.R_b HO286 hb; replace HO289 := Kd.R_b HO289 hb; replace HO297 := Kd.R_b HO297 hb; replace HO300 := Kd.R_b HO300 hb; replace HO303 := Kd.R_b HO303 hb; replace BK291 := kb_ BK291 hb; replace HB := hbs_ HB hb; clear hb hbox hg; have hnb14 := NB305_291.out; have hnc14 := NB291_305.out; obtain ⟨hcz15_0, hcz15_1, hcz15_2, hcz15_3, hcz15_4, hcz15_5, hfz15_0, hfz15_1, hfz15_2, hfz15_3, hfz15_4, hfz15_5⟩ := bx6 BK305; obtain ⟨Ao16, co16, eo16⟩ := Kd.R_slice HO297.out; subst eo16; obtain ⟨Ao17, co17, eo17⟩ := Kd.R_slice HO300.out; subst eo17; obtain ⟨Ao18, co18, eo18⟩ := Kd.R_slice HO303.out; subst eo18))
  (try simp only [Act.put, List.setIfInBounds_toArray, List.set_cons_zero, List.set_cons_succ])
  go_cut [32] (fun v32 wc => ∃ (kq : Nat) (x32_4 : Bool), v32 = .bool x32_4 ∧ Aside0 (laws_FnExactParseModel.j0 kq a0 t290 x32_4 t278 t279 t280 t281 t284 t287 t292 t293 t294 t295 t298 t301 = some r) ∧ Aside0 (kq ≤ k) ∧ Aside0 (Kd.R (Kd.int .i64) 3 wc w.heap.size (fun k_ => some k_ ≠ ((.slice Ao10 t284.length co10) : Value).ownBlock ∧ some k_ ≠ ((.slice Ao11 t287.length co11) : Value).ownBlock ∧ some k_ ≠ ((.slice Ao16 t295.length co16) : Value).ownBlock ∧ some k_ ≠ ((.slice Ao17 t298.length co17) : Value).ownBlock ∧ some k_ ≠ ((.slice Ao18 t301.length co18) : Value).ownBlock) (.slice Ao9 t281.length co9) t281) ∧ Aside0 (Kd.R (Kd.int .i64) 3 wc w.heap.size (fun k_ => some k_ ≠ ((.slice Ao9 t281.length co9) : Value).ownBlock ∧ some k_ ≠ ((.slice Ao11 t287.length co11) : Value).ownBlock ∧ some k_ ≠ ((.slice Ao16 t295.length co16) : Value).ownBlock ∧ some k_ ≠ ((.slice Ao17 t298.length co17) : Value).ownBlock ∧ some k_ ≠ ((.slice Ao18 t301.length co18) : Value).ownBlock) (.slice Ao10 t284.length co10) t284) ∧ Aside0 (Kd.R (Kd.int .i64) 3 wc w.heap.size (fun k_ => some k_ ≠ ((.slice Ao9 t281.length co9) : Value).ownBlock ∧ some k_ ≠ ((.slice Ao10 t284.length co10) : Value).ownBlock ∧ some k_ ≠ ((.slice Ao16 t295.length co16) : Value).ownBlock ∧ some k_ ≠ ((.slice Ao17 t298.length co17) : Value).ownBlock ∧ some k_ ≠ ((.slice Ao18 t301.length co18) : Value).ownBlock) (.slice Ao11 t287.length co11) t287) ∧ Aside0 (Kd.R (Kd.int .i64) 3 wc w.heap.size (fun k_ => some k_ ≠ ((.slice Ao9 t281.length co9) : Value).ownBlock ∧ some k_ ≠ ((.slice Ao10 t284.length co10) : Value).ownBlock ∧ some k_ ≠ ((.slice Ao11 t287.length co11) : Value).ownBlock ∧ some k_ ≠ ((.slice Ao17 t298.length co17) : Value).ownBlock ∧ some k_ ≠ ((.slice Ao18 t301.length co18) : Value).ownBlock) (.slice Ao16 t295.length co16) t295) ∧ Aside0 (Kd.R (Kd.int .i64) 3 wc w.heap.size (fun k_ => some k_ ≠ ((.slice Ao9 t281.length co9) : Value).ownBlock ∧ some k_ ≠ ((.slice Ao10 t284.length co10) : Value).ownBlock ∧ some k_ ≠ ((.slice Ao11 t287.length co11) : Value).ownBlock ∧ some k_ ≠ ((.slice Ao16 t295.length co16) : Value).ownBlock ∧ some k_ ≠ ((.slice Ao18 t301.length co18) : Value).ownBlock) (.slice Ao17 t298.length co17) t298) ∧ Aside0 (Kd.R (Kd.int .i64) 3 wc w.heap.size (fun k_ => some k_ ≠ ((.slice Ao9 t281.length co9) : Value).ownBlock ∧ some k_ ≠ ((.slice Ao10 t284.length co10) : Value).ownBlock ∧ some k_ ≠ ((.slice Ao11 t287.length co11) : Value).ownBlock ∧ some k_ ≠ ((.slice Ao16 t295.length co16) : Value).ownBlock ∧ some k_ ≠ ((.slice Ao17 t298.length co17) : Value).ownBlock) (.slice Ao18 t301.length co18) t301) ∧ Aside0 (wc.heap[gb291]? = some (.cells #[.int .i64 t278, .int .i64 t279, .int .i64 t280, (.slice Ao9 t281.length co9), (.slice Ao10 t284.length co10), (.slice Ao11 t287.length co11)] 26 (0, 0))) ∧ Aside0 (wc.heap[gb305]? = some (.cells #[.int .i64 t292, .int .i64 t293, .int .i64 t294, (.slice Ao16 t295.length co16), (.slice Ao17 t298.length co17), (.slice Ao18 t301.length co18)] 26 (0, 0))) ∧ Aside0 (Below w.heap.size w wc))
  case first =>
   have H := HC5.out
   clear HC5
   replace H := Option.bind_eq_some_iff.mp H
   obtain ⟨t306, A190, H⟩ := H
   replace H : (if t306 = true then (laws_FnExactParseModel.j0 k a0 t290 (t304 != t290) t278 t279 t280 t281 t284 t287 t292 t293 t294 t295 t298 t301) else (laws_FnExactParseModel.j0 k a0 t290 true t278 t279 t280 t281 t284 t287 t292 t293 t294 t295 t298 t301)) = some r := H
   have A19 := Aside0.mk A190
   clear A190
   by_cases c20 : t306 = true
   ·subst c20
    have H1 : (laws_FnExactParseModel.j0 k a0 t290 (t304 != t290) t278 t279 t280 t281 t284 t287 t292 t293 t294 t295 t298 t301) = some r := by rw [if_pos rfl] at H; exact H
    clear H
    have H := H1
    clear H1
    have H' := Aside0.mk H
    clear H
    have hnb21 := NB305_291.out
    have hnc21 := NB291_305.out
    have hcz22_0 : w13.cell? ⟨gb305, 0, none⟩ = some (.int .i64 0) := (blk_cell BK305.out 0).trans rfl
    have hcz22_1 : w13.cell? ⟨gb305, 1, none⟩ = some (.int .i64 0) := (blk_cell BK305.out 1).trans rfl
    have hcz22_2 : w13.cell? ⟨gb305, 2, none⟩ = some (.int .i64 0) := (blk_cell BK305.out 2).trans rfl
    have hcz22_3 : w13.cell? ⟨gb305, 3, none⟩ = some (.slice none 0 0) := (blk_cell BK305.out 3).trans rfl
    have hcz22_4 : w13.cell? ⟨gb305, 4, none⟩ = some (.slice none 0 0) := (blk_cell BK305.out 4).trans rfl
    have hcz22_5 : w13.cell? ⟨gb305, 5, none⟩ = some (.slice none 0 0) := (blk_cell BK305.out 5).trans rfl
    have hfz22_0 := blk_frozen BK305.out 0
    have hfz22_1 := blk_frozen BK305.out 1
    have hfz22_2 := blk_frozen BK305.out 2
    have hfz22_3 := blk_frozen BK305.out 3
    have hfz22_4 := blk_frozen BK305.out 4
    have hfz22_5 := blk_frozen BK305.out 5
    have hcz23_0 : w13.cell? ⟨gb291, 0, none⟩ = some (.int .i64 t278) := (blk_cell BK291.out 0).trans rfl
    have hcz23_1 : w13.cell? ⟨gb291, 1, none⟩ = some (.int .i64 t279) := (blk_cell BK291.out 1).trans rfl
    have hcz23_2 : w13.cell? ⟨gb291, 2, none⟩ = some (.int .i64 t280) := (blk_cell BK291.out 2).trans rfl
    have hcz23_3 : w13.cell? ⟨gb291, 3, none⟩ = some (.slice Ao9 t281.length co9) := (blk_cell BK291.out 3).trans rfl
    have hcz23_4 : w13.cell? ⟨gb291, 4, none⟩ = some (.slice Ao10 t284.length co10) := (blk_cell BK291.out 4).trans rfl
    have hcz23_5 : w13.cell? ⟨gb291, 5, none⟩ = some (.slice Ao11 t287.length co11) := (blk_cell BK291.out 5).trans rfl
    have hfz23_0 := blk_frozen BK291.out 0
    have hfz23_1 := blk_frozen BK291.out 1
    have hfz23_2 := blk_frozen BK291.out 2
    have hfz23_3 := blk_frozen BK291.out 3
    have hfz23_4 := blk_frozen BK291.out 4
    have hfz23_5 := blk_frozen BK291.out 5
    go_wp2_with (first | ((with_reducible refine gate_callee (f := 6) rfl ?_); refine gl_ (some 26) Tryd.func6 #[.agg #[.int .i64 t292, .int .i64 t293, .int .i64 t294, .slice Ao16 t295.length co16, .slice Ao17 t298.length co17, .slice Ao18 t301.length co18], .agg #[.int .i64 t278, .int .i64 t279, .int .i64 t280, .slice Ao9 t281.length co9, .slice Ao10 t284.length co10, .slice Ao11 t287.length co11]] rfl rfl rfl ?_; (with_reducible refine (laws_eqModel.calls k t292 t293 t294 _ _ t295 _ _ t298 _ _ t301 t278 t279 t280 _ _ t281 _ _ t284 _ _ t287 true _ ?side1 ?side2 ?side3 ?side4 ?side5 ?side6 ?side7 ?side8 ?side9 ?side10 ?side11 ?side12 A19.out).mono ?_); (case side1 => exact (Kd.R_reads' (Kd.R_s HO297 BK305)).2.2); (case side2 => exact (Kd.R_reads' HO297.out).2.1); (case side3 => exact (Kd.R_reads' (Kd.R_s HO300 BK305)).2.2); (case side4 => exact (Kd.R_reads' HO300.out).2.1); (case side5 => exact (Kd.R_reads' (Kd.R_s HO303 BK305)).2.2); (case side6 => exact (Kd.R_reads' HO303.out).2.1); (case side7 => exact (Kd.R_reads' (Kd.R_s HO283 BK305)).2.2); (case side8 => exact (Kd.R_reads' HO283.out).2.1); (case side9 => exact (Kd.R_reads' (Kd.R_s HO286 BK305)).2.2); (case side10 => exact (Kd.R_reads' HO286.out).2.1); (case side11 => exact (Kd.R_reads' (Kd.R_s HO289 BK305)).2.2); (case side12 => exact (Kd.R_reads' HO289.out).2.1); rintro e w24 ⟨rfl, hb⟩; refine ⟨_, rfl, ?_⟩; replace HO283 := Kd.R_sb HO283 BK305 hb; replace HO286 := Kd.R_sb HO286 BK305 hb; replace HO289 := Kd.R_sb HO289 BK305 hb; replace HO297 := Kd.R_sb HO297 BK305 hb; replace HO300 := Kd.R_sb HO300 BK305 hb; replace HO303 := Kd.R_sb HO303 BK305 hb; replace BK291 := kfb_ BK291 NB291_305 hb; replace HB := hbs_ HB hb; replace BK305 := Aside0.mk (blk_below (g := gb305) (o := .cells #[.int .i64 t292, .int .i64 t293, .int .i64 t294, .slice Ao16 t295.length co16, .slice Ao17 t298.length co17, .slice Ao18 t301.length co18] 26 (0, 0)) (kpq_ (kputs BK305 [(0, _), (1, _), (2, _), (3, _), (4, _), (5, _)])) hb); (try clear hb); (try clear hb2); (try clear hk); (try clear hi)))
    go_meet
    case rel => exact ⟨_, ((t304 != t290)), (by first | rfl | (simp; done) | (simp [*]; done)), H', ⟨by first | omega | exact Nat.le_refl _⟩, ⟨Kd.R_pp (Kd.R_mono HO283.out (fun _ hk => ⟨hk.1.1.1.1, ⟨hk.1.1.1.2, ⟨hk.1.1.2, ⟨hk.1.2, hk.2⟩⟩⟩⟩))⟩, ⟨Kd.R_pp (Kd.R_mono HO286.out (fun _ hk => ⟨hk.1.1.1.1, ⟨hk.1.1.1.2, ⟨hk.1.1.2, ⟨hk.1.2, hk.2⟩⟩⟩⟩))⟩, ⟨Kd.R_pp (Kd.R_mono HO289.out (fun _ hk => ⟨hk.1.1.1.1, ⟨hk.1.1.1.2, ⟨hk.1.1.2, ⟨hk.1.2, hk.2⟩⟩⟩⟩))⟩, ⟨Kd.R_pp (Kd.R_mono HO297.out (fun _ hk => ⟨hk.1.1.2, ⟨hk.1.2, ⟨hk.2, ⟨hk.1.1.1.1, hk.1.1.1.2⟩⟩⟩⟩))⟩, ⟨Kd.R_pp (Kd.R_mono HO300.out (fun _ hk => ⟨hk.1.1.2, ⟨hk.1.2, ⟨hk.2, ⟨hk.1.1.1.1, hk.1.1.1.2⟩⟩⟩⟩))⟩, ⟨Kd.R_pp (Kd.R_mono HO303.out (fun _ hk => ⟨hk.1.1.2, ⟨hk.1.2, ⟨hk.2, ⟨hk.1.1.1.1, hk.1.1.1.2⟩⟩⟩⟩))⟩, ⟨kp_ BK291⟩, ⟨kp_ BK305⟩, ⟨hb_ HB⟩⟩
   ·replace c20 := Bool.eq_false_iff.mpr c20
    subst c20
    have H1 : (laws_FnExactParseModel.j0 k a0 t290 true t278 t279 t280 t281 t284 t287 t292 t293 t294 t295 t298 t301) = some r := by rw [if_neg (show ¬ (false = true) by decide)] at H; exact H
    clear H
    have H := H1
    clear H1
    have H' := Aside0.mk H
    clear H
    have hnb25 := NB305_291.out
    have hnc25 := NB291_305.out
    have hcz26_0 : w13.cell? ⟨gb305, 0, none⟩ = some (.int .i64 0) := (blk_cell BK305.out 0).trans rfl
    have hcz26_1 : w13.cell? ⟨gb305, 1, none⟩ = some (.int .i64 0) := (blk_cell BK305.out 1).trans rfl
    have hcz26_2 : w13.cell? ⟨gb305, 2, none⟩ = some (.int .i64 0) := (blk_cell BK305.out 2).trans rfl
    have hcz26_3 : w13.cell? ⟨gb305, 3, none⟩ = some (.slice none 0 0) := (blk_cell BK305.out 3).trans rfl
    have hcz26_4 : w13.cell? ⟨gb305, 4, none⟩ = some (.slice none 0 0) := (blk_cell BK305.out 4).trans rfl
    have hcz26_5 : w13.cell? ⟨gb305, 5, none⟩ = some (.slice none 0 0) := (blk_cell BK305.out 5).trans rfl
    have hfz26_0 := blk_frozen BK305.out 0
    have hfz26_1 := blk_frozen BK305.out 1
    have hfz26_2 := blk_frozen BK305.out 2
    have hfz26_3 := blk_frozen BK305.out 3
    have hfz26_4 := blk_frozen BK305.out 4
    have hfz26_5 := blk_frozen BK305.out 5
    have hcz27_0 : w13.cell? ⟨gb291, 0, none⟩ = some (.int .i64 t278) := (blk_cell BK291.out 0).trans rfl
    have hcz27_1 : w13.cell? ⟨gb291, 1, none⟩ = some (.int .i64 t279) := (blk_cell BK291.out 1).trans rfl
    have hcz27_2 : w13.cell? ⟨gb291, 2, none⟩ = some (.int .i64 t280) := (blk_cell BK291.out 2).trans rfl
    have hcz27_3 : w13.cell? ⟨gb291, 3, none⟩ = some (.slice Ao9 t281.length co9) := (blk_cell BK291.out 3).trans rfl
    have hcz27_4 : w13.cell? ⟨gb291, 4, none⟩ = some (.slice Ao10 t284.length co10) := (blk_cell BK291.out 4).trans rfl
    have hcz27_5 : w13.cell? ⟨gb291, 5, none⟩ = some (.slice Ao11 t287.length co11) := (blk_cell BK291.out 5).trans rfl
    have hfz27_0 := blk_frozen BK291.out 0
    have hfz27_1 := blk_frozen BK291.out 1
    have hfz27_2 := blk_frozen BK291.out 2
    have hfz27_3 := blk_frozen BK291.out 3
    have hfz27_4 := blk_frozen BK291.out 4
    have hfz27_5 := blk_frozen BK291.out 5
    go_wp2_with (first | ((with_reducible refine gate_callee (f := 6) rfl ?_); refine gl_ (some 26) Tryd.func6 #[.agg #[.int .i64 t292, .int .i64 t293, .int .i64 t294, .slice Ao16 t295.length co16, .slice Ao17 t298.length co17, .slice Ao18 t301.length co18], .agg #[.int .i64 t278, .int .i64 t279, .int .i64 t280, .slice Ao9 t281.length co9, .slice Ao10 t284.length co10, .slice Ao11 t287.length co11]] rfl rfl rfl ?_; (with_reducible refine (laws_eqModel.calls k t292 t293 t294 _ _ t295 _ _ t298 _ _ t301 t278 t279 t280 _ _ t281 _ _ t284 _ _ t287 false _ ?side1 ?side2 ?side3 ?side4 ?side5 ?side6 ?side7 ?side8 ?side9 ?side10 ?side11 ?side12 A19.out).mono ?_); (case side1 => exact (Kd.R_reads' (Kd.R_s HO297 BK305)).2.2); (case side2 => exact (Kd.R_reads' HO297.out).2.1); (case side3 => exact (Kd.R_reads' (Kd.R_s HO300 BK305)).2.2); (case side4 => exact (Kd.R_reads' HO300.out).2.1); (case side5 => exact (Kd.R_reads' (Kd.R_s HO303 BK305)).2.2); (case side6 => exact (Kd.R_reads' HO303.out).2.1); (case side7 => exact (Kd.R_reads' (Kd.R_s HO283 BK305)).2.2); (case side8 => exact (Kd.R_reads' HO283.out).2.1); (case side9 => exact (Kd.R_reads' (Kd.R_s HO286 BK305)).2.2); (case side10 => exact (Kd.R_reads' HO286.out).2.1); (case side11 => exact (Kd.R_reads' (Kd.R_s HO289 BK305)).2.2); (case side12 => exact (Kd.R_reads' HO289.out).2.1); rintro e w28 ⟨rfl, hb⟩; refine ⟨_, rfl, ?_⟩; replace HO283 := Kd.R_sb HO283 BK305 hb; replace HO286 := Kd.R_sb HO286 BK305 hb; replace HO289 := Kd.R_sb HO289 BK305 hb; replace HO297 := Kd.R_sb HO297 BK305 hb; replace HO300 := Kd.R_sb HO300 BK305 hb; replace HO303 := Kd.R_sb HO303 BK305 hb; replace BK291 := kfb_ BK291 NB291_305 hb; replace HB := hbs_ HB hb; replace BK305 := Aside0.mk (blk_below (g := gb305) (o := .cells #[.int .i64 t292, .int .i64 t293, .int .i64 t294, .slice Ao16 t295.length co16, .slice Ao17 t298.length co17, .slice Ao18 t301.length co18] 26 (0, 0)) (kpq_ (kputs BK305 [(0, _), (1, _), (2, _), (3, _), (4, _), (5, _)])) hb); (try clear hb); (try clear hb2); (try clear hk); (try clear hi)))
    go_meet
    case rel => exact ⟨_, (true), (by first | rfl | (simp; done) | (simp [*]; done)), H', ⟨by first | omega | exact Nat.le_refl _⟩, ⟨Kd.R_pp (Kd.R_mono HO283.out (fun _ hk => ⟨hk.1.1.1.1, ⟨hk.1.1.1.2, ⟨hk.1.1.2, ⟨hk.1.2, hk.2⟩⟩⟩⟩))⟩, ⟨Kd.R_pp (Kd.R_mono HO286.out (fun _ hk => ⟨hk.1.1.1.1, ⟨hk.1.1.1.2, ⟨hk.1.1.2, ⟨hk.1.2, hk.2⟩⟩⟩⟩))⟩, ⟨Kd.R_pp (Kd.R_mono HO289.out (fun _ hk => ⟨hk.1.1.1.1, ⟨hk.1.1.1.2, ⟨hk.1.1.2, ⟨hk.1.2, hk.2⟩⟩⟩⟩))⟩, ⟨Kd.R_pp (Kd.R_mono HO297.out (fun _ hk => ⟨hk.1.1.2, ⟨hk.1.2, ⟨hk.2, ⟨hk.1.1.1.1, hk.1.1.1.2⟩⟩⟩⟩))⟩, ⟨Kd.R_pp (Kd.R_mono HO300.out (fun _ hk => ⟨hk.1.1.2, ⟨hk.1.2, ⟨hk.2, ⟨hk.1.1.1.1, hk.1.1.1.2⟩⟩⟩⟩))⟩, ⟨Kd.R_pp (Kd.R_mono HO303.out (fun _ hk => ⟨hk.1.1.2, ⟨hk.1.2, ⟨hk.2, ⟨hk.1.1.1.1, hk.1.1.1.2⟩⟩⟩⟩))⟩, ⟨kp_ BK291⟩, ⟨kp_ BK305⟩, ⟨hb_ HB⟩⟩
  case rest =>
   clear HC5
   (try clear c1); (try clear c2); (try clear c2b0); (try clear c2b1); (try clear p2); (try clear c3); (try clear c4); (try clear c5); (try clear c6); (try clear c14); (try clear c20); (try clear c21); (try clear c25); (try clear hcz15_0); (try clear hcz15_1); (try clear hcz15_2); (try clear hcz15_3); (try clear hcz15_4); (try clear hcz15_5); (try clear hcz8_0); (try clear hcz8_1); (try clear hcz8_2); (try clear hcz8_3); (try clear hcz8_4); (try clear hcz8_5); (try clear hfz15_0); (try clear hfz15_1); (try clear hfz15_2); (try clear hfz15_3); (try clear hfz15_4); (try clear hfz15_5); (try clear hfz8_0); (try clear hfz8_1); (try clear hfz8_2); (try clear hfz8_3); (try clear hfz8_4); (try clear hfz8_5)
   obtain ⟨kq, x32_4, rfl, HA, HJ4, HO_292003, HO_292004, HO_292005, HO_306003, HO_306004, HO_306005, BK291, BK305, HB⟩ := hcut
   cases kq with
   | zero => exact absurd HA.out (by simp [laws_FnExactParseModel.j0])
   | succ kj4 =>
    have H := HA.out
    clear HA
    simp only [laws_FnExactParseModel.j0] at H
    by_cases c29 : x32_4 = true
    ·subst c29
     have H1 : (some false) = some r := by rw [if_pos rfl] at H; exact H
     clear H
     have H := H1
     clear H1
     obtain rfl := Option.some.inj H
     go_wp2
     go_ret
     exact ⟨by first | rfl | (simp [errW_none, errW_some] <;> rfl) | (simp [*, errW_none, errW_some] <;> rfl), hb_ HB⟩
    ·replace c29 := Bool.eq_false_iff.mpr c29
     subst c29
     have H1 : ((laws_markModel.f kj4 t292 t293 t294 t295 t298 t301 1).bind fun bt307 => ((laws_heldModel.f kj4 t292 t293 t294 bt307.2.1 bt307.2.2.1 bt307.2.2.2 1).bind fun t311 => (if t311 < 0 then (some false) else (if t311 = bt307.1 then ((impl_ParseModel.f kj4 a0).bind fun bt312 => ((laws_eqModel.f kj4 bt312.1 bt312.2.1 bt312.2.2.1 bt312.2.2.2.1 bt312.2.2.2.2.1 bt312.2.2.2.2.2.1 t278 t279 t280 t281 t284 t287).bind fun t326 => (if t326 = true then (laws_FnExactParseModel.j1 kj4 bt307.1 (bt312.2.2.2.2.2.2 != t290) t292 t293 t294 bt307.2.1 bt307.2.2.1 bt307.2.2.2) else (laws_FnExactParseModel.j1 kj4 bt307.1 true t292 t293 t294 bt307.2.1 bt307.2.2.1 bt307.2.2.2)))) else (some false))))) = some r := by rw [if_neg (show ¬ (false = true) by decide)] at H; exact H
     clear H
     have H := H1
     clear H1
     replace H := Option.bind_eq_some_iff.mp H
     obtain ⟨⟨t307, t308, t309, t310⟩, A300, H⟩ := H
     replace H : ((laws_heldModel.f kj4 t292 t293 t294 t308 t309 t310 1).bind fun t311 => (if t311 < 0 then (some false) else (if t311 = t307 then ((impl_ParseModel.f kj4 a0).bind fun bt312 => ((laws_eqModel.f kj4 bt312.1 bt312.2.1 bt312.2.2.1 bt312.2.2.2.1 bt312.2.2.2.2.1 bt312.2.2.2.2.2.1 t278 t279 t280 t281 t284 t287).bind fun t326 => (if t326 = true then (laws_FnExactParseModel.j1 kj4 t307 (bt312.2.2.2.2.2.2 != t290) t292 t293 t294 t308 t309 t310) else (laws_FnExactParseModel.j1 kj4 t307 true t292 t293 t294 t308 t309 t310)))) else (some false)))) = some r := H
     have A30 := Aside0.mk A300
     clear A300
     replace H := Option.bind_eq_some_iff.mp H
     obtain ⟨t311, A310, H⟩ := H
     replace H : (if t311 < 0 then (some false) else (if t311 = t307 then ((impl_ParseModel.f kj4 a0).bind fun bt312 => ((laws_eqModel.f kj4 bt312.1 bt312.2.1 bt312.2.2.1 bt312.2.2.2.1 bt312.2.2.2.2.1 bt312.2.2.2.2.2.1 t278 t279 t280 t281 t284 t287).bind fun t326 => (if t326 = true then (laws_FnExactParseModel.j1 kj4 t307 (bt312.2.2.2.2.2.2 != t290) t292 t293 t294 t308 t309 t310) else (laws_FnExactParseModel.j1 kj4 t307 true t292 t293 t294 t308 t309 t310)))) else (some false))) = some r := H
     have A31 := Aside0.mk A310
     clear A310
     by_cases c32 : t311 < 0
     ·rw [if_pos c32] at H
      have c32b0 : decide (t311 < 0) = true := decide_eq_true c32
      clear c32
      obtain rfl := Option.some.inj H
      have hnb33 := NB305_291.out
      have hnc33 := NB291_305.out
      have hcz34_0 : wc.cell? ⟨gb305, 0, none⟩ = some (.int .i64 t292) := (blk_cell BK305.out 0).trans rfl
      have hcz34_1 : wc.cell? ⟨gb305, 1, none⟩ = some (.int .i64 t293) := (blk_cell BK305.out 1).trans rfl
      have hcz34_2 : wc.cell? ⟨gb305, 2, none⟩ = some (.int .i64 t294) := (blk_cell BK305.out 2).trans rfl
      have hcz34_3 : wc.cell? ⟨gb305, 3, none⟩ = some (.slice Ao16 t295.length co16) := (blk_cell BK305.out 3).trans rfl
      have hcz34_4 : wc.cell? ⟨gb305, 4, none⟩ = some (.slice Ao17 t298.length co17) := (blk_cell BK305.out 4).trans rfl
      have hcz34_5 : wc.cell? ⟨gb305, 5, none⟩ = some (.slice Ao18 t301.length co18) := (blk_cell BK305.out 5).trans rfl
      have hfz34_0 := blk_frozen BK305.out 0
      have hfz34_1 := blk_frozen BK305.out 1
      have hfz34_2 := blk_frozen BK305.out 2
      have hfz34_3 := blk_frozen BK305.out 3
      have hfz34_4 := blk_frozen BK305.out 4
      have hfz34_5 := blk_frozen BK305.out 5
      (try clear BK291); (try clear GW291); (try clear GE291); (try clear NB291_305); (try clear NB305_291)
      go_wp2_with (first | ((with_reducible refine gate_callee (f := 7) rfl ?_); refine gl_ (some 35) Tryd.func7 #[.agg #[.int .i64 t292, .int .i64 t293, .int .i64 t294, .slice Ao16 t295.length co16, .slice Ao17 t298.length co17, .slice Ao18 t301.length co18], .int .i64 1] rfl rfl rfl ?_; (with_reducible refine (laws_markModel.calls kj4 t292 t293 t294 (fun k_ => some k_ = (.slice Ao16 t295.length co16 : Value).ownBlock) (.slice Ao16 t295.length co16) t295 (fun k_ => some k_ = (.slice Ao17 t298.length co17 : Value).ownBlock) (.slice Ao17 t298.length co17) t298 (fun k_ => some k_ = (.slice Ao18 t301.length co18 : Value).ownBlock) (.slice Ao18 t301.length co18) t301 1 t307 t308 t309 t310 w _ ?side1 ?side2 ?side3 ?side4 ?side5 ?side6 ?side7 ?side8 ?side9 ?side10 A30.out).mono ?_); (case side1 => exact hb_ HB); (case side2 => exact Kd.R_tight rfl HO_306003.out); (case side3 => exact fun k_ e_ => (HO_306003.out.1 k_ e_.symm).2.2.2.1); (case side4 => exact fun k_ e_ => (HO_306003.out.1 k_ e_.symm).2.2.2.2); (case side5 => exact Kd.R_tight rfl HO_306004.out); (case side6 => exact fun k_ e_ => (HO_306004.out.1 k_ e_.symm).2.2.2.1); (case side7 => exact fun k_ e_ => (HO_306004.out.1 k_ e_.symm).2.2.2.2); (case side8 => exact Kd.R_tight rfl HO_306005.out); (case side9 => exact fun k_ e_ => (HO_306005.out.1 k_ e_.symm).2.2.2.1); (case side10 => exact fun k_ e_ => (HO_306005.out.1 k_ e_.symm).2.2.2.2); rintro e w35 ⟨rfl, hy0, hy1, hy2, hb, hkp⟩; refine ⟨_, rfl, ?_⟩; replace HO_292003 := Aside0.mk (Kd.R_mono (ok' := fun k_ => some k_ ≠ (.slice Ao10 t284.length co10 : Value).ownBlock ∧ some k_ ≠ (.slice Ao11 t287.length co11 : Value).ownBlock ∧ some k_ ≠ (.slice Ao16 t295.length co16 : Value).ownBlock ∧ some k_ ≠ (.slice Ao17 t298.length co17 : Value).ownBlock ∧ some k_ ≠ (.slice Ao18 t301.length co18 : Value).ownBlock) (Kd.R_keptB (HO_292003.out) hkp (fun k_ hk_ hs_ => Or.elim hs_ (fun e_ => (hk_.2.2.1) e_) (fun e_ => Or.elim e_ (fun e_ => (hk_.2.2.2.1) e_) (fun e_ => (hk_.2.2.2.2) e_)))) (fun k_ hk_ => ⟨hk_.1.1, hk_.1.2.1, hk_.1.2.2.1, hk_.1.2.2.2.1, hk_.1.2.2.2.2⟩)); replace HO_292004 := Aside0.mk (Kd.R_mono (ok' := fun k_ => some k_ ≠ (.slice Ao9 t281.length co9 : Value).ownBlock ∧ some k_ ≠ (.slice Ao11 t287.length co11 : Value).ownBlock ∧ some k_ ≠ (.slice Ao16 t295.length co16 : Value).ownBlock ∧ some k_ ≠ (.slice Ao17 t298.length co17 : Value).ownBlock ∧ some k_ ≠ (.slice Ao18 t301.length co18 : Value).ownBlock) (Kd.R_keptB (HO_292004.out) hkp (fun k_ hk_ hs_ => Or.elim hs_ (fun e_ => (hk_.2.2.1) e_) (fun e_ => Or.elim e_ (fun e_ => (hk_.2.2.2.1) e_) (fun e_ => (hk_.2.2.2.2) e_)))) (fun k_ hk_ => ⟨hk_.1.1, hk_.1.2.1, hk_.1.2.2.1, hk_.1.2.2.2.1, hk_.1.2.2.2.2⟩)); replace HO_292005 := Aside0.mk (Kd.R_mono (ok' := fun k_ => some k_ ≠ (.slice Ao9 t281.length co9 : Value).ownBlock ∧ some k_ ≠ (.slice Ao10 t284.length co10 : Value).ownBlock ∧ some k_ ≠ (.slice Ao16 t295.length co16 : Value).ownBlock ∧ some k_ ≠ (.slice Ao17 t298.length co17 : Value).ownBlock ∧ some k_ ≠ (.slice Ao18 t301.length co18 : Value).ownBlock) (Kd.R_keptB (HO_292005.out) hkp (fun k_ hk_ hs_ => Or.elim hs_ (fun e_ => (hk_.2.2.1) e_) (fun e_ => Or.elim e_ (fun e_ => (hk_.2.2.2.1) e_) (fun e_ => (hk_.2.2.2.2) e_)))) (fun k_ hk_ => ⟨hk_.1.1, hk_.1.2.1, hk_.1.2.2.1, hk_.1.2.2.2.1, hk_.1.2.2.2.2⟩)); replace BK305 := Aside0.mk (blk_kept (kp_ BK305) hkp (fun hs_ => Or.elim hs_ (fun e_ => (fun e_ => (Kd.R_ne HO_306003.out BK305.out (by decide)) e_) e_) (fun e_ => Or.elim e_ (fun e_ => (fun e_ => (Kd.R_ne HO_306004.out BK305.out (by decide)) e_) e_) (fun e_ => (fun e_ => (Kd.R_ne HO_306005.out BK305.out (by decide)) e_) e_)))); replace HB := Aside0.mk (hb); replace HO_306003 := Aside0.mk (Kd.R_reok rfl hy0 (fun k_ e_ => HO_306003.out.1 k_ e_)); replace HO_306004 := Aside0.mk (Kd.R_reok rfl hy1 (fun k_ e_ => HO_306004.out.1 k_ e_)); replace HO_306005 := Aside0.mk (Kd.R_reok rfl hy2 (fun k_ e_ => HO_306005.out.1 k_ e_)); (try clear hb); (try clear hkp); (try clear hy0); (try clear hy1); (try clear hy2); obtain ⟨hcz36_0, hcz36_1, hcz36_2, hcz36_3, hcz36_4, hcz36_5, hfz36_0, hfz36_1, hfz36_2, hfz36_3, hfz36_4, hfz36_5⟩ := bx6 BK305) | ((with_reducible refine gate_callee (f := 8) rfl ?_); refine gl_ (some 38) Tryd.func8 #[.agg #[.int .i64 t292, .int .i64 t293, .int .i64 t294, .slice Ao16 t308.length co16, .slice Ao17 t309.length co17, .slice Ao18 t310.length co18], .int .i64 1] rfl rfl rfl ?_ (by (try simp only [List.map_toArray, List.map_cons, List.map_nil]); first | done | (rw [show t308.length = t295.length from (Kd.R_reads' HO_306003.out).1.symm, show t309.length = t298.length from (Kd.R_reads' HO_306004.out).1.symm, show t310.length = t301.length from (Kd.R_reads' HO_306005.out).1.symm] <;> rfl) | rfl | (simp only [List.length_drop, List.length_take]; rfl)); (with_reducible refine (laws_heldModel.calls kj4 t292 t293 t294 _ _ t308 _ _ t309 _ _ t310 1 t311 _ ?side1 ?side2 ?side3 ?side4 ?side5 ?side6 A31.out).mono ?_); (case side1 => exact Kd.C_o HO_306003); (case side2 => rw [show t308.length = t295.length from (Kd.R_reads' HO_306003.out).1.symm]; exact (Kd.R_reads' HO_306003.out).2.1); (case side3 => exact Kd.C_o HO_306004); (case side4 => rw [show t309.length = t298.length from (Kd.R_reads' HO_306004.out).1.symm]; exact (Kd.R_reads' HO_306004.out).2.1); (case side5 => exact Kd.C_o HO_306005); (case side6 => rw [show t310.length = t301.length from (Kd.R_reads' HO_306005.out).1.symm]; exact (Kd.R_reads' HO_306005.out).2.1); rintro e w37 ⟨rfl, hb⟩; refine ⟨_, rfl, ?_⟩; replace HO_292003 := Kd.R_b HO_292003 hb; replace HO_292004 := Kd.R_b HO_292004 hb; replace HO_292005 := Kd.R_b HO_292005 hb; replace HO_306003 := Kd.R_b HO_306003 hb; replace HO_306004 := Kd.R_b HO_306004 hb; replace HO_306005 := Kd.R_b HO_306005 hb; replace BK305 := kb_ BK305 hb; replace HB := hbs_ HB hb; (try clear hb); (try clear hb2); (try clear hk); (try clear hi)))
      go_ret
      exact ⟨by first | rfl | (simp [errW_none, errW_some] <;> rfl) | (simp [*, errW_none, errW_some] <;> rfl), hb_ HB⟩
     ·rw [if_neg c32] at H
      have c32b0 : decide (t311 < 0) = false := decide_eq_false c32
      clear c32
      by_cases c38 : t311 = t307
      ·rw [if_pos c38] at H
       have c38b0 : (t311 == t307) = true := beq_iff_eq.mpr c38
       have c38b1 : (t311 != t307) = false := bne_eq_false_iff_eq.mpr c38
       clear c38
       replace H := Option.bind_eq_some_iff.mp H
       obtain ⟨⟨t312, t313, t314, t315, t318, t321, t324⟩, A390, H⟩ := H
       replace H : ((laws_eqModel.f kj4 t312 t313 t314 t315 t318 t321 t278 t279 t280 t281 t284 t287).bind fun t326 => (if t326 = true then (laws_FnExactParseModel.j1 kj4 t307 (t324 != t290) t292 t293 t294 t308 t309 t310) else (laws_FnExactParseModel.j1 kj4 t307 true t292 t293 t294 t308 t309 t310))) = some r := H
       have A39 := Aside0.mk A390
       clear A390
       have HC40 := Aside0.mk H
       clear H
       have hnb41 := NB305_291.out
       have hnc41 := NB291_305.out
       have hcz42_0 : wc.cell? ⟨gb305, 0, none⟩ = some (.int .i64 t292) := (blk_cell BK305.out 0).trans rfl
       have hcz42_1 : wc.cell? ⟨gb305, 1, none⟩ = some (.int .i64 t293) := (blk_cell BK305.out 1).trans rfl
       have hcz42_2 : wc.cell? ⟨gb305, 2, none⟩ = some (.int .i64 t294) := (blk_cell BK305.out 2).trans rfl
       have hcz42_3 : wc.cell? ⟨gb305, 3, none⟩ = some (.slice Ao16 t295.length co16) := (blk_cell BK305.out 3).trans rfl
       have hcz42_4 : wc.cell? ⟨gb305, 4, none⟩ = some (.slice Ao17 t298.length co17) := (blk_cell BK305.out 4).trans rfl
       have hcz42_5 : wc.cell? ⟨gb305, 5, none⟩ = some (.slice Ao18 t301.length co18) := (blk_cell BK305.out 5).trans rfl
       have hfz42_0 := blk_frozen BK305.out 0
       have hfz42_1 := blk_frozen BK305.out 1
       have hfz42_2 := blk_frozen BK305.out 2
       have hfz42_3 := blk_frozen BK305.out 3
       have hfz42_4 := blk_frozen BK305.out 4
       have hfz42_5 := blk_frozen BK305.out 5
       go_upto_region 16 with (first | ((with_reducible refine gate_callee (f := 7) rfl ?_); refine gl_ (some 35) Tryd.func7 #[.agg #[.int .i64 t292, .int .i64 t293, .int .i64 t294, .slice Ao16 t295.length co16, .slice Ao17 t298.length co17, .slice Ao18 t301.length co18], .int .i64 1] rfl rfl rfl ?_; (with_reducible refine (laws_markModel.calls kj4 t292 t293 t294 (fun k_ => some k_ = (.slice Ao16 t295.length co16 : Value).ownBlock) (.slice Ao16 t295.length co16) t295 (fun k_ => some k_ = (.slice Ao17 t298.length co17 : Value).ownBlock) (.slice Ao17 t298.length co17) t298 (fun k_ => some k_ = (.slice Ao18 t301.length co18 : Value).ownBlock) (.slice Ao18 t301.length co18) t301 1 t307 t308 t309 t310 w _ ?side1 ?side2 ?side3 ?side4 ?side5 ?side6 ?side7 ?side8 ?side9 ?side10 A30.out).mono ?_); (case side1 => exact hb_ HB); (case side2 => exact Kd.R_tight rfl HO_306003.out); (case side3 => exact fun k_ e_ => (HO_306003.out.1 k_ e_.symm).2.2.2.1); (case side4 => exact fun k_ e_ => (HO_306003.out.1 k_ e_.symm).2.2.2.2); (case side5 => exact Kd.R_tight rfl HO_306004.out); (case side6 => exact fun k_ e_ => (HO_306004.out.1 k_ e_.symm).2.2.2.1); (case side7 => exact fun k_ e_ => (HO_306004.out.1 k_ e_.symm).2.2.2.2); (case side8 => exact Kd.R_tight rfl HO_306005.out); (case side9 => exact fun k_ e_ => (HO_306005.out.1 k_ e_.symm).2.2.2.1); (case side10 => exact fun k_ e_ => (HO_306005.out.1 k_ e_.symm).2.2.2.2); rintro e w43 ⟨rfl, hy0, hy1, hy2, hb, hkp⟩; refine ⟨_, rfl, ?_⟩; replace HO_292003 := Aside0.mk (Kd.R_mono (ok' := fun k_ => some k_ ≠ (.slice Ao10 t284.length co10 : Value).ownBlock ∧ some k_ ≠ (.slice Ao11 t287.length co11 : Value).ownBlock ∧ some k_ ≠ (.slice Ao16 t295.length co16 : Value).ownBlock ∧ some k_ ≠ (.slice Ao17 t298.length co17 : Value).ownBlock ∧ some k_ ≠ (.slice Ao18 t301.length co18 : Value).ownBlock) (Kd.R_keptB (HO_292003.out) hkp (fun k_ hk_ hs_ => Or.elim hs_ (fun e_ => (hk_.2.2.1) e_) (fun e_ => Or.elim e_ (fun e_ => (hk_.2.2.2.1) e_) (fun e_ => (hk_.2.2.2.2) e_)))) (fun k_ hk_ => ⟨hk_.1.1, hk_.1.2.1, hk_.1.2.2.1, hk_.1.2.2.2.1, hk_.1.2.2.2.2⟩)); replace HO_292004 := Aside0.mk (Kd.R_mono (ok' := fun k_ => some k_ ≠ (.slice Ao9 t281.length co9 : Value).ownBlock ∧ some k_ ≠ (.slice Ao11 t287.length co11 : Value).ownBlock ∧ some k_ ≠ (.slice Ao16 t295.length co16 : Value).ownBlock ∧ some k_ ≠ (.slice Ao17 t298.length co17 : Value).ownBlock ∧ some k_ ≠ (.slice Ao18 t301.length co18 : Value).ownBlock) (Kd.R_keptB (HO_292004.out) hkp (fun k_ hk_ hs_ => Or.elim hs_ (fun e_ => (hk_.2.2.1) e_) (fun e_ => Or.elim e_ (fun e_ => (hk_.2.2.2.1) e_) (fun e_ => (hk_.2.2.2.2) e_)))) (fun k_ hk_ => ⟨hk_.1.1, hk_.1.2.1, hk_.1.2.2.1, hk_.1.2.2.2.1, hk_.1.2.2.2.2⟩)); replace HO_292005 := Aside0.mk (Kd.R_mono (ok' := fun k_ => some k_ ≠ (.slice Ao9 t281.length co9 : Value).ownBlock ∧ some k_ ≠ (.slice Ao10 t284.length co10 : Value).ownBlock ∧ some k_ ≠ (.slice Ao16 t295.length co16 : Value).ownBlock ∧ some k_ ≠ (.slice Ao17 t298.length co17 : Value).ownBlock ∧ some k_ ≠ (.slice Ao18 t301.length co18 : Value).ownBlock) (Kd.R_keptB (HO_292005.out) hkp (fun k_ hk_ hs_ => Or.elim hs_ (fun e_ => (hk_.2.2.1) e_) (fun e_ => Or.elim e_ (fun e_ => (hk_.2.2.2.1) e_) (fun e_ => (hk_.2.2.2.2) e_)))) (fun k_ hk_ => ⟨hk_.1.1, hk_.1.2.1, hk_.1.2.2.1, hk_.1.2.2.2.1, hk_.1.2.2.2.2⟩)); replace BK291 := Aside0.mk (blk_kept (kp_ BK291) hkp (fun hs_ => Or.elim hs_ (fun e_ => (fun e_ => (Kd.R_ne HO_306003.out BK291.out (by decide)) e_) e_) (fun e_ => Or.elim e_ (fun e_ => (fun e_ => (Kd.R_ne HO_306004.out BK291.out (by decide)) e_) e_) (fun e_ => (fun e_ => (Kd.R_ne HO_306005.out BK291.out (by decide)) e_) e_)))); replace BK305 := Aside0.mk (blk_kept (kp_ BK305) hkp (fun hs_ => Or.elim hs_ (fun e_ => (fun e_ => (Kd.R_ne HO_306003.out BK305.out (by decide)) e_) e_) (fun e_ => Or.elim e_ (fun e_ => (fun e_ => (Kd.R_ne HO_306004.out BK305.out (by decide)) e_) e_) (fun e_ => (fun e_ => (Kd.R_ne HO_306005.out BK305.out (by decide)) e_) e_)))); replace HB := Aside0.mk (hb); replace HO_306003 := Aside0.mk (Kd.R_reok rfl hy0 (fun k_ e_ => HO_306003.out.1 k_ e_)); replace HO_306004 := Aside0.mk (Kd.R_reok rfl hy1 (fun k_ e_ => HO_306004.out.1 k_ e_)); replace HO_306005 := Aside0.mk (Kd.R_reok rfl hy2 (fun k_ e_ => HO_306005.out.1 k_ e_)); (try clear hb); (try clear hkp); (try clear hy0); (try clear hy1); (try clear hy2); obtain ⟨hcz44_0, hcz44_1, hcz44_2, hcz44_3, hcz44_4, hcz44_5, hfz44_0, hfz44_1, hfz44_2, hfz44_3, hfz44_4, hfz44_5⟩ := bx6 BK305) | ((with_reducible refine gate_callee (f := 8) rfl ?_); refine gl_ (some 38) Tryd.func8 #[.agg #[.int .i64 t292, .int .i64 t293, .int .i64 t294, .slice Ao16 t308.length co16, .slice Ao17 t309.length co17, .slice Ao18 t310.length co18], .int .i64 1] rfl rfl rfl ?_ (by (try simp only [List.map_toArray, List.map_cons, List.map_nil]); first | done | (rw [show t308.length = t295.length from (Kd.R_reads' HO_306003.out).1.symm, show t309.length = t298.length from (Kd.R_reads' HO_306004.out).1.symm, show t310.length = t301.length from (Kd.R_reads' HO_306005.out).1.symm] <;> rfl) | rfl | (simp only [List.length_drop, List.length_take]; rfl)); (with_reducible refine (laws_heldModel.calls kj4 t292 t293 t294 _ _ t308 _ _ t309 _ _ t310 1 t311 _ ?side1 ?side2 ?side3 ?side4 ?side5 ?side6 A31.out).mono ?_); (case side1 => exact Kd.C_o HO_306003); (case side2 => rw [show t308.length = t295.length from (Kd.R_reads' HO_306003.out).1.symm]; exact (Kd.R_reads' HO_306003.out).2.1); (case side3 => exact Kd.C_o HO_306004); (case side4 => rw [show t309.length = t298.length from (Kd.R_reads' HO_306004.out).1.symm]; exact (Kd.R_reads' HO_306004.out).2.1); (case side5 => exact Kd.C_o HO_306005); (case side6 => rw [show t310.length = t301.length from (Kd.R_reads' HO_306005.out).1.symm]; exact (Kd.R_reads' HO_306005.out).2.1); rintro e w45 ⟨rfl, hb⟩; refine ⟨_, rfl, ?_⟩; replace HO_292003 := Kd.R_b HO_292003 hb; replace HO_292004 := Kd.R_b HO_292004 hb; replace HO_292005 := Kd.R_b HO_292005 hb; replace HO_306003 := Kd.R_b HO_306003 hb; replace HO_306004 := Kd.R_b HO_306004 hb; replace HO_306005 := Kd.R_b HO_306005 hb; replace BK291 := kb_ BK291 hb; replace BK305 := kb_ BK305 hb; replace HB := hbs_ HB hb; (try clear hb); (try clear hb2); (try clear hk); (try clear hi)) | ((with_reducible refine gate_callee (f := 5) rfl ?_); refine gl_ (some 46) Tryd.func5 #[.string a0] rfl rfl rfl ?_; (with_reducible refine (impl_ParseModel.calls kj4 a0 t312 t313 t314 t315 t318 t321 t324 _ A39.out (by exact LaidW.step HLw (hb_ HB))).mono ?_); rintro e w46 ⟨v316, v319, v322, rfl, ho0, ho1, ho2, hb⟩; refine ⟨_, rfl, ?_⟩; have HO317 := Kd.R_lo (Kd.R_nw (Kd.R_nw (Kd.R_nw (Kd.R_nw (Kd.R_nw (Kd.R_nw ho0 HO_292003) HO_292004) HO_292005) HO_306003) HO_306004) HO_306005) HB; have HO320 := Kd.R_lo (Kd.R_nw (Kd.R_nw (Kd.R_nw (Kd.R_nw (Kd.R_nw (Kd.R_nw ho1 HO_292003) HO_292004) HO_292005) HO_306003) HO_306004) HO_306005) HB; have HO323 := Kd.R_lo (Kd.R_nw (Kd.R_nw (Kd.R_nw (Kd.R_nw (Kd.R_nw (Kd.R_nw ho2 HO_292003) HO_292004) HO_292005) HO_306003) HO_306004) HO_306005) HB; replace HO_292003 := Kd.R_e3 HO_292003 ho0 ho1 ho2 hb; replace HO_292004 := Kd.R_e3 HO_292004 ho0 ho1 ho2 hb; replace HO_292005 := Kd.R_e3 HO_292005 ho0 ho1 ho2 hb; replace HO_306003 := Kd.R_e3 HO_306003 ho0 ho1 ho2 hb; replace HO_306004 := Kd.R_e3 HO_306004 ho0 ho1 ho2 hb; replace HO_306005 := Kd.R_e3 HO_306005 ho0 ho1 ho2 hb; replace BK291 := kb_ BK291 hb; replace BK305 := kb_ BK305 hb; replace HB := hbs_ HB hb; (try clear hb); (try clear hb2); (try clear hk); (try clear hi); (try clear ho0); (try clear ho1); (try clear ho2)) | ((with_reducible refine gate_dst (N := 9) rfl ?_); refine box_event ?hg (N := 9) ?hd (cs := #[.int .i64 0, .int .i64 0, .int .i64 0, .slice none 0 0, .slice none 0 0, .slice none 0 0]) (t := 26) ?hr ?_; (case hd => rfl); (case hg => rfl); (case hr => first | (go_simp; done) | (go_simp; rfl)); intro gb325 hg w47 hbox hb; have BK325 := Aside0.mk (hbox); have GW325 := gs_ hg HB; have GE325 := gs_ hg HB; have NB291_325 := nl_ hg BK291; have NB325_291 := ng_ hg BK291; have NB305_325 := nl_ hg BK305; have NB325_305 := ng_ hg BK305; replace HO_292003 := Kd.R_b HO_292003 hb; replace HO_292004 := Kd.R_b HO_292004 hb; replace HO_292005 := Kd.R_b HO_292005 hb; replace HO_306003 := Kd.R_b HO_306003 hb; replace HO_306004 := Kd.R_b HO_306004 hb; replace HO_306005 := Kd.R_b HO_306005 hb; replace HO317 := Kd.R_b HO317 hb; replace HO320 := Kd.R_b HO320 hb; replace HO323 := Kd.R_b HO323 hb; replace BK291 := kb_ BK291 hb; replace BK305 := kb_ BK305 hb; replace HB := hbs_ HB hb; clear hb hbox hg; have hnb48 := NB325_291.out; have hnc48 := NB291_325.out; have hnb49 := NB325_305.out; have hnc49 := NB305_325.out; obtain ⟨hcz50_0, hcz50_1, hcz50_2, hcz50_3, hcz50_4, hcz50_5, hfz50_0, hfz50_1, hfz50_2, hfz50_3, hfz50_4, hfz50_5⟩ := bx6 BK325; obtain ⟨Ao51, co51, eo51⟩ := Kd.R_slice HO317.out; subst eo51; obtain ⟨Ao52, co52, eo52⟩ := Kd.R_slice HO320.out; subst eo52; obtain ⟨Ao53, co53, eo53⟩ := Kd.R_slice HO323.out; subst eo53))
       (try simp only [Act.put, List.setIfInBounds_toArray, List.set_cons_zero, List.set_cons_succ])
       go_cut [57] (fun v57 wc => ∃ (kq : Nat) (x57_39 : Bool), v57 = .bool x57_39 ∧ Aside0 (laws_FnExactParseModel.j1 kq t307 x57_39 t292 t293 t294 t308 t309 t310 = some r) ∧ Aside0 (kq ≤ kj4) ∧ Aside0 (Kd.R (Kd.int .i64) 3 wc w.heap.size (fun k_ => some k_ ≠ ((.slice Ao17 t298.length co17) : Value).ownBlock ∧ some k_ ≠ ((.slice Ao18 t301.length co18) : Value).ownBlock) (.slice Ao16 t295.length co16) t308) ∧ Aside0 (Kd.R (Kd.int .i64) 3 wc w.heap.size (fun k_ => some k_ ≠ ((.slice Ao16 t295.length co16) : Value).ownBlock ∧ some k_ ≠ ((.slice Ao18 t301.length co18) : Value).ownBlock) (.slice Ao17 t298.length co17) t309) ∧ Aside0 (Kd.R (Kd.int .i64) 3 wc w.heap.size (fun k_ => some k_ ≠ ((.slice Ao16 t295.length co16) : Value).ownBlock ∧ some k_ ≠ ((.slice Ao17 t298.length co17) : Value).ownBlock) (.slice Ao18 t301.length co18) t310) ∧ Aside0 (wc.heap[gb305]? = some (.cells #[.int .i64 t292, .int .i64 t293, .int .i64 t294, (.slice Ao16 t295.length co16), (.slice Ao17 t298.length co17), (.slice Ao18 t301.length co18)] 26 (0, 0))) ∧ Aside0 (Below w.heap.size w wc))
       case first =>
        have H := HC40.out
        clear HC40
        replace H := Option.bind_eq_some_iff.mp H
        obtain ⟨t326, A540, H⟩ := H
        replace H : (if t326 = true then (laws_FnExactParseModel.j1 kj4 t307 (t324 != t290) t292 t293 t294 t308 t309 t310) else (laws_FnExactParseModel.j1 kj4 t307 true t292 t293 t294 t308 t309 t310)) = some r := H
        have A54 := Aside0.mk A540
        clear A540
        by_cases c55 : t326 = true
        ·subst c55
         have H1 : (laws_FnExactParseModel.j1 kj4 t307 (t324 != t290) t292 t293 t294 t308 t309 t310) = some r := by rw [if_pos rfl] at H; exact H
         clear H
         have H := H1
         clear H1
         have H' := Aside0.mk H
         clear H
         have hnb56 := NB325_291.out
         have hnc56 := NB291_325.out
         have hnb57 := NB325_305.out
         have hnc57 := NB305_325.out
         have hcz58_0 : w47.cell? ⟨gb325, 0, none⟩ = some (.int .i64 0) := (blk_cell BK325.out 0).trans rfl
         have hcz58_1 : w47.cell? ⟨gb325, 1, none⟩ = some (.int .i64 0) := (blk_cell BK325.out 1).trans rfl
         have hcz58_2 : w47.cell? ⟨gb325, 2, none⟩ = some (.int .i64 0) := (blk_cell BK325.out 2).trans rfl
         have hcz58_3 : w47.cell? ⟨gb325, 3, none⟩ = some (.slice none 0 0) := (blk_cell BK325.out 3).trans rfl
         have hcz58_4 : w47.cell? ⟨gb325, 4, none⟩ = some (.slice none 0 0) := (blk_cell BK325.out 4).trans rfl
         have hcz58_5 : w47.cell? ⟨gb325, 5, none⟩ = some (.slice none 0 0) := (blk_cell BK325.out 5).trans rfl
         have hfz58_0 := blk_frozen BK325.out 0
         have hfz58_1 := blk_frozen BK325.out 1
         have hfz58_2 := blk_frozen BK325.out 2
         have hfz58_3 := blk_frozen BK325.out 3
         have hfz58_4 := blk_frozen BK325.out 4
         have hfz58_5 := blk_frozen BK325.out 5
         have hnb59 := NB291_305.out
         have hnc59 := NB305_291.out
         have hcz60_0 : w47.cell? ⟨gb291, 0, none⟩ = some (.int .i64 t278) := (blk_cell BK291.out 0).trans rfl
         have hcz60_1 : w47.cell? ⟨gb291, 1, none⟩ = some (.int .i64 t279) := (blk_cell BK291.out 1).trans rfl
         have hcz60_2 : w47.cell? ⟨gb291, 2, none⟩ = some (.int .i64 t280) := (blk_cell BK291.out 2).trans rfl
         have hcz60_3 : w47.cell? ⟨gb291, 3, none⟩ = some (.slice Ao9 t281.length co9) := (blk_cell BK291.out 3).trans rfl
         have hcz60_4 : w47.cell? ⟨gb291, 4, none⟩ = some (.slice Ao10 t284.length co10) := (blk_cell BK291.out 4).trans rfl
         have hcz60_5 : w47.cell? ⟨gb291, 5, none⟩ = some (.slice Ao11 t287.length co11) := (blk_cell BK291.out 5).trans rfl
         have hfz60_0 := blk_frozen BK291.out 0
         have hfz60_1 := blk_frozen BK291.out 1
         have hfz60_2 := blk_frozen BK291.out 2
         have hfz60_3 := blk_frozen BK291.out 3
         have hfz60_4 := blk_frozen BK291.out 4
         have hfz60_5 := blk_frozen BK291.out 5
         go_wp2_with (first | ((with_reducible refine gate_callee (f := 6) rfl ?_); refine gl_ (some 51) Tryd.func6 #[.agg #[.int .i64 t312, .int .i64 t313, .int .i64 t314, .slice Ao51 t315.length co51, .slice Ao52 t318.length co52, .slice Ao53 t321.length co53], .agg #[.int .i64 t278, .int .i64 t279, .int .i64 t280, .slice Ao9 t281.length co9, .slice Ao10 t284.length co10, .slice Ao11 t287.length co11]] rfl rfl rfl ?_; (with_reducible refine (laws_eqModel.calls kj4 t312 t313 t314 _ _ t315 _ _ t318 _ _ t321 t278 t279 t280 _ _ t281 _ _ t284 _ _ t287 true _ ?side1 ?side2 ?side3 ?side4 ?side5 ?side6 ?side7 ?side8 ?side9 ?side10 ?side11 ?side12 A54.out).mono ?_); (case side1 => exact (Kd.R_reads' (Kd.R_s HO317 BK325)).2.2); (case side2 => exact (Kd.R_reads' HO317.out).2.1); (case side3 => exact (Kd.R_reads' (Kd.R_s HO320 BK325)).2.2); (case side4 => exact (Kd.R_reads' HO320.out).2.1); (case side5 => exact (Kd.R_reads' (Kd.R_s HO323 BK325)).2.2); (case side6 => exact (Kd.R_reads' HO323.out).2.1); (case side7 => exact (Kd.R_reads' (Kd.R_s HO_292003 BK325)).2.2); (case side8 => exact (Kd.R_reads' HO_292003.out).2.1); (case side9 => exact (Kd.R_reads' (Kd.R_s HO_292004 BK325)).2.2); (case side10 => exact (Kd.R_reads' HO_292004.out).2.1); (case side11 => exact (Kd.R_reads' (Kd.R_s HO_292005 BK325)).2.2); (case side12 => exact (Kd.R_reads' HO_292005.out).2.1); rintro e w61 ⟨rfl, hb⟩; refine ⟨_, rfl, ?_⟩; replace HO_292003 := Kd.R_sb HO_292003 BK325 hb; replace HO_292004 := Kd.R_sb HO_292004 BK325 hb; replace HO_292005 := Kd.R_sb HO_292005 BK325 hb; replace HO_306003 := Kd.R_sb HO_306003 BK325 hb; replace HO_306004 := Kd.R_sb HO_306004 BK325 hb; replace HO_306005 := Kd.R_sb HO_306005 BK325 hb; replace HO317 := Kd.R_sb HO317 BK325 hb; replace HO320 := Kd.R_sb HO320 BK325 hb; replace HO323 := Kd.R_sb HO323 BK325 hb; replace BK291 := kfb_ BK291 NB291_325 hb; replace BK305 := kfb_ BK305 NB305_325 hb; replace HB := hbs_ HB hb; replace BK325 := Aside0.mk (blk_below (g := gb325) (o := .cells #[.int .i64 t312, .int .i64 t313, .int .i64 t314, .slice Ao51 t315.length co51, .slice Ao52 t318.length co52, .slice Ao53 t321.length co53] 26 (0, 0)) (kpq_ (kputs BK325 [(0, _), (1, _), (2, _), (3, _), (4, _), (5, _)])) hb); (try clear hb); (try clear hb2); (try clear hk); (try clear hi)))
         go_meet
         case rel => exact ⟨_, ((t324 != t290)), (by first | rfl | (simp; done) | (simp [*]; done)), H', ⟨by have := HJ4.out; first | omega | exact Nat.le_refl _⟩, ⟨Kd.R_pp (Kd.R_mono HO_306003.out (fun _ hk => ⟨hk.1.1.1.2.2.2.1, hk.1.1.1.2.2.2.2⟩))⟩, ⟨Kd.R_pp (Kd.R_mono HO_306004.out (fun _ hk => ⟨hk.1.1.1.2.2.2.1, hk.1.1.1.2.2.2.2⟩))⟩, ⟨Kd.R_pp (Kd.R_mono HO_306005.out (fun _ hk => ⟨hk.1.1.1.2.2.2.1, hk.1.1.1.2.2.2.2⟩))⟩, ⟨kp_ BK305⟩, ⟨hb_ HB⟩⟩
        ·replace c55 := Bool.eq_false_iff.mpr c55
         subst c55
         have H1 : (laws_FnExactParseModel.j1 kj4 t307 true t292 t293 t294 t308 t309 t310) = some r := by rw [if_neg (show ¬ (false = true) by decide)] at H; exact H
         clear H
         have H := H1
         clear H1
         have H' := Aside0.mk H
         clear H
         have hnb62 := NB325_291.out
         have hnc62 := NB291_325.out
         have hnb63 := NB325_305.out
         have hnc63 := NB305_325.out
         have hcz64_0 : w47.cell? ⟨gb325, 0, none⟩ = some (.int .i64 0) := (blk_cell BK325.out 0).trans rfl
         have hcz64_1 : w47.cell? ⟨gb325, 1, none⟩ = some (.int .i64 0) := (blk_cell BK325.out 1).trans rfl
         have hcz64_2 : w47.cell? ⟨gb325, 2, none⟩ = some (.int .i64 0) := (blk_cell BK325.out 2).trans rfl
         have hcz64_3 : w47.cell? ⟨gb325, 3, none⟩ = some (.slice none 0 0) := (blk_cell BK325.out 3).trans rfl
         have hcz64_4 : w47.cell? ⟨gb325, 4, none⟩ = some (.slice none 0 0) := (blk_cell BK325.out 4).trans rfl
         have hcz64_5 : w47.cell? ⟨gb325, 5, none⟩ = some (.slice none 0 0) := (blk_cell BK325.out 5).trans rfl
         have hfz64_0 := blk_frozen BK325.out 0
         have hfz64_1 := blk_frozen BK325.out 1
         have hfz64_2 := blk_frozen BK325.out 2
         have hfz64_3 := blk_frozen BK325.out 3
         have hfz64_4 := blk_frozen BK325.out 4
         have hfz64_5 := blk_frozen BK325.out 5
         have hnb65 := NB291_305.out
         have hnc65 := NB305_291.out
         have hcz66_0 : w47.cell? ⟨gb291, 0, none⟩ = some (.int .i64 t278) := (blk_cell BK291.out 0).trans rfl
         have hcz66_1 : w47.cell? ⟨gb291, 1, none⟩ = some (.int .i64 t279) := (blk_cell BK291.out 1).trans rfl
         have hcz66_2 : w47.cell? ⟨gb291, 2, none⟩ = some (.int .i64 t280) := (blk_cell BK291.out 2).trans rfl
         have hcz66_3 : w47.cell? ⟨gb291, 3, none⟩ = some (.slice Ao9 t281.length co9) := (blk_cell BK291.out 3).trans rfl
         have hcz66_4 : w47.cell? ⟨gb291, 4, none⟩ = some (.slice Ao10 t284.length co10) := (blk_cell BK291.out 4).trans rfl
         have hcz66_5 : w47.cell? ⟨gb291, 5, none⟩ = some (.slice Ao11 t287.length co11) := (blk_cell BK291.out 5).trans rfl
         have hfz66_0 := blk_frozen BK291.out 0
         have hfz66_1 := blk_frozen BK291.out 1
         have hfz66_2 := blk_frozen BK291.out 2
         have hfz66_3 := blk_frozen BK291.out 3
         have hfz66_4 := blk_frozen BK291.out 4
         have hfz66_5 := blk_frozen BK291.out 5
         go_wp2_with (first | ((with_reducible refine gate_callee (f := 6) rfl ?_); refine gl_ (some 51) Tryd.func6 #[.agg #[.int .i64 t312, .int .i64 t313, .int .i64 t314, .slice Ao51 t315.length co51, .slice Ao52 t318.length co52, .slice Ao53 t321.length co53], .agg #[.int .i64 t278, .int .i64 t279, .int .i64 t280, .slice Ao9 t281.length co9, .slice Ao10 t284.length co10, .slice Ao11 t287.length co11]] rfl rfl rfl ?_; (with_reducible refine (laws_eqModel.calls kj4 t312 t313 t314 _ _ t315 _ _ t318 _ _ t321 t278 t279 t280 _ _ t281 _ _ t284 _ _ t287 false _ ?side1 ?side2 ?side3 ?side4 ?side5 ?side6 ?side7 ?side8 ?side9 ?side10 ?side11 ?side12 A54.out).mono ?_); (case side1 => exact (Kd.R_reads' (Kd.R_s HO317 BK325)).2.2); (case side2 => exact (Kd.R_reads' HO317.out).2.1); (case side3 => exact (Kd.R_reads' (Kd.R_s HO320 BK325)).2.2); (case side4 => exact (Kd.R_reads' HO320.out).2.1); (case side5 => exact (Kd.R_reads' (Kd.R_s HO323 BK325)).2.2); (case side6 => exact (Kd.R_reads' HO323.out).2.1); (case side7 => exact (Kd.R_reads' (Kd.R_s HO_292003 BK325)).2.2); (case side8 => exact (Kd.R_reads' HO_292003.out).2.1); (case side9 => exact (Kd.R_reads' (Kd.R_s HO_292004 BK325)).2.2); (case side10 => exact (Kd.R_reads' HO_292004.out).2.1); (case side11 => exact (Kd.R_reads' (Kd.R_s HO_292005 BK325)).2.2); (case side12 => exact (Kd.R_reads' HO_292005.out).2.1); rintro e w67 ⟨rfl, hb⟩; refine ⟨_, rfl, ?_⟩; replace HO_292003 := Kd.R_sb HO_292003 BK325 hb; replace HO_292004 := Kd.R_sb HO_292004 BK325 hb; replace HO_292005 := Kd.R_sb HO_292005 BK325 hb; replace HO_306003 := Kd.R_sb HO_306003 BK325 hb; replace HO_306004 := Kd.R_sb HO_306004 BK325 hb; replace HO_306005 := Kd.R_sb HO_306005 BK325 hb; replace HO317 := Kd.R_sb HO317 BK325 hb; replace HO320 := Kd.R_sb HO320 BK325 hb; replace HO323 := Kd.R_sb HO323 BK325 hb; replace BK291 := kfb_ BK291 NB291_325 hb; replace BK305 := kfb_ BK305 NB305_325 hb; replace HB := hbs_ HB hb; replace BK325 := Aside0.mk (blk_below (g := gb325) (o := .cells #[.int .i64 t312, .int .i64 t313, .int .i64 t314, .slice Ao51 t315.length co51, .slice Ao52 t318.length co52, .slice Ao53 t321.length co53] 26 (0, 0)) (kpq_ (kputs BK325 [(0, _), (1, _), (2, _), (3, _), (4, _), (5, _)])) hb); (try clear hb); (try clear hb2); (try clear hk); (try clear hi)))
         go_meet
         case rel => exact ⟨_, (true), (by first | rfl | (simp; done) | (simp [*]; done)), H', ⟨by have := HJ4.out; first | omega | exact Nat.le_refl _⟩, ⟨Kd.R_pp (Kd.R_mono HO_306003.out (fun _ hk => ⟨hk.1.1.1.2.2.2.1, hk.1.1.1.2.2.2.2⟩))⟩, ⟨Kd.R_pp (Kd.R_mono HO_306004.out (fun _ hk => ⟨hk.1.1.1.2.2.2.1, hk.1.1.1.2.2.2.2⟩))⟩, ⟨Kd.R_pp (Kd.R_mono HO_306005.out (fun _ hk => ⟨hk.1.1.1.2.2.2.1, hk.1.1.1.2.2.2.2⟩))⟩, ⟨kp_ BK305⟩, ⟨hb_ HB⟩⟩
       case rest =>
        clear HC40
        (try clear c1); (try clear c2); (try clear c2b0); (try clear c2b1); (try clear p2); (try clear c3); (try clear c4); (try clear c5); (try clear c6); (try clear c7); (try clear c8); (try clear c14); (try clear c20); (try clear c21); (try clear c25); (try clear c29); (try clear c32); (try clear c32b0); (try clear c33); (try clear c38); (try clear c38b0); (try clear c38b1); (try clear c41); (try clear c48); (try clear c49); (try clear c55); (try clear c56); (try clear c57); (try clear c59); (try clear c62); (try clear c63); (try clear c65); (try clear hcz42_0); (try clear hcz42_1); (try clear hcz42_2); (try clear hcz42_3); (try clear hcz42_4); (try clear hcz42_5); (try clear hcz44_0); (try clear hcz44_1); (try clear hcz44_2); (try clear hcz44_3); (try clear hcz44_4); (try clear hcz44_5); (try clear hcz50_0); (try clear hcz50_1); (try clear hcz50_2); (try clear hcz50_3); (try clear hcz50_4); (try clear hcz50_5); (try clear hfz42_0); (try clear hfz42_1); (try clear hfz42_2); (try clear hfz42_3); (try clear hfz42_4); (try clear hfz42_5); (try clear hfz44_0); (try clear hfz44_1); (try clear hfz44_2); (try clear hfz44_3); (try clear hfz44_4); (try clear hfz44_5); (try clear hfz50_0); (try clear hfz50_1); (try clear hfz50_2); (try clear hfz50_3); (try clear hfz50_4); (try clear hfz50_5)
        obtain ⟨kq, x57_39, rfl, HA, HJ39, HO_306003, HO_306004, HO_306005, BK305, HB⟩ := hcut
        have hl306003_39 := (Kd.R_reads' HO_306003.out).1
        rw [hl306003_39] at HO_306003
        (try simp only [hl306003_39])
        (try simp only [hl306003_39] at BK305)
        (try simp only [hl306003_39] at HO_306004)
        (try simp only [hl306003_39] at HO_306005)
        have hl306004_39 := (Kd.R_reads' HO_306004.out).1
        rw [hl306004_39] at HO_306004
        (try simp only [hl306004_39])
        (try simp only [hl306004_39] at BK305)
        (try simp only [hl306004_39] at HO_306003)
        (try simp only [hl306004_39] at HO_306005)
        have hl306005_39 := (Kd.R_reads' HO_306005.out).1
        rw [hl306005_39] at HO_306005
        (try simp only [hl306005_39])
        (try simp only [hl306005_39] at BK305)
        (try simp only [hl306005_39] at HO_306003)
        (try simp only [hl306005_39] at HO_306004)
        cases kq with
        | zero => exact absurd HA.out (by simp [laws_FnExactParseModel.j1])
        | succ kj39 =>
         have H := HA.out
         clear HA
         simp only [laws_FnExactParseModel.j1] at H
         by_cases c68 : x57_39 = true
         ·subst c68
          have H1 : (some false) = some r := by rw [if_pos rfl] at H; exact H
          clear H
          have H := H1
          clear H1
          obtain rfl := Option.some.inj H
          go_wp2
          go_ret
          exact ⟨by first | rfl | (simp [errW_none, errW_some] <;> rfl) | (simp [*, errW_none, errW_some] <;> rfl), hb_ HB⟩
         ·replace c68 := Bool.eq_false_iff.mpr c68
          subst c68
          have H1 : ((laws_heldModel.f kj39 t292 t293 t294 t308 t309 t310 1).bind fun t327 => (if t327 < 0 then (some false) else (if t327 = t307 then (some true) else (some false)))) = some r := by rw [if_neg (show ¬ (false = true) by decide)] at H; exact H
          clear H
          have H := H1
          clear H1
          replace H := Option.bind_eq_some_iff.mp H
          obtain ⟨t327, A690, H⟩ := H
          replace H : (if t327 < 0 then (some false) else (if t327 = t307 then (some true) else (some false))) = some r := H
          have A69 := Aside0.mk A690
          clear A690
          by_cases c70 : t327 < 0
          ·rw [if_pos c70] at H
           have c70b0 : decide (t327 < 0) = true := decide_eq_true c70
           clear c70
           obtain rfl := Option.some.inj H
           have hcz71_0 : wc.cell? ⟨gb305, 0, none⟩ = some (.int .i64 t292) := (blk_cell BK305.out 0).trans rfl
           have hcz71_1 : wc.cell? ⟨gb305, 1, none⟩ = some (.int .i64 t293) := (blk_cell BK305.out 1).trans rfl
           have hcz71_2 : wc.cell? ⟨gb305, 2, none⟩ = some (.int .i64 t294) := (blk_cell BK305.out 2).trans rfl
           have hcz71_3 : wc.cell? ⟨gb305, 3, none⟩ = some (.slice Ao16 t308.length co16) := (blk_cell BK305.out 3).trans rfl
           have hcz71_4 : wc.cell? ⟨gb305, 4, none⟩ = some (.slice Ao17 t309.length co17) := (blk_cell BK305.out 4).trans rfl
           have hcz71_5 : wc.cell? ⟨gb305, 5, none⟩ = some (.slice Ao18 t310.length co18) := (blk_cell BK305.out 5).trans rfl
           have hfz71_0 := blk_frozen BK305.out 0
           have hfz71_1 := blk_frozen BK305.out 1
           have hfz71_2 := blk_frozen BK305.out 2
           have hfz71_3 := blk_frozen BK305.out 3
           have hfz71_4 := blk_frozen BK305.out 4
           have hfz71_5 := blk_frozen BK305.out 5
           go_wp2_with (first | ((with_reducible refine gate_callee (f := 8) rfl ?_); refine gl_ (some 60) Tryd.func8 #[.agg #[.int .i64 t292, .int .i64 t293, .int .i64 t294, .slice Ao16 t308.length co16, .slice Ao17 t309.length co17, .slice Ao18 t310.length co18], .int .i64 1] rfl rfl rfl ?_; (with_reducible refine (laws_heldModel.calls kj39 t292 t293 t294 _ _ t308 _ _ t309 _ _ t310 1 t327 _ ?side1 ?side2 ?side3 ?side4 ?side5 ?side6 A69.out).mono ?_); (case side1 => exact Kd.C_o HO_306003); (case side2 => exact (Kd.R_reads' HO_306003.out).2.1); (case side3 => exact Kd.C_o HO_306004); (case side4 => exact (Kd.R_reads' HO_306004.out).2.1); (case side5 => exact Kd.C_o HO_306005); (case side6 => exact (Kd.R_reads' HO_306005.out).2.1); rintro e w72 ⟨rfl, hb⟩; refine ⟨_, rfl, ?_⟩; replace HO_306003 := Kd.R_b HO_306003 hb; replace HO_306004 := Kd.R_b HO_306004 hb; replace HO_306005 := Kd.R_b HO_306005 hb; replace BK305 := kb_ BK305 hb; replace HB := hbs_ HB hb; (try clear hb); (try clear hb2); (try clear hk); (try clear hi)))
           go_ret
           exact ⟨by first | rfl | (simp [errW_none, errW_some] <;> rfl) | (simp [*, errW_none, errW_some] <;> rfl), hb_ HB⟩
          ·rw [if_neg c70] at H
           have c70b0 : decide (t327 < 0) = false := decide_eq_false c70
           clear c70
           by_cases c73 : t327 = t307
           ·rw [if_pos c73] at H
            have c73b0 : (t327 == t307) = true := beq_iff_eq.mpr c73
            have c73b1 : (t327 != t307) = false := bne_eq_false_iff_eq.mpr c73
            clear c73
            obtain rfl := Option.some.inj H
            have hcz74_0 : wc.cell? ⟨gb305, 0, none⟩ = some (.int .i64 t292) := (blk_cell BK305.out 0).trans rfl
            have hcz74_1 : wc.cell? ⟨gb305, 1, none⟩ = some (.int .i64 t293) := (blk_cell BK305.out 1).trans rfl
            have hcz74_2 : wc.cell? ⟨gb305, 2, none⟩ = some (.int .i64 t294) := (blk_cell BK305.out 2).trans rfl
            have hcz74_3 : wc.cell? ⟨gb305, 3, none⟩ = some (.slice Ao16 t308.length co16) := (blk_cell BK305.out 3).trans rfl
            have hcz74_4 : wc.cell? ⟨gb305, 4, none⟩ = some (.slice Ao17 t309.length co17) := (blk_cell BK305.out 4).trans rfl
            have hcz74_5 : wc.cell? ⟨gb305, 5, none⟩ = some (.slice Ao18 t310.length co18) := (blk_cell BK305.out 5).trans rfl
            have hfz74_0 := blk_frozen BK305.out 0
            have hfz74_1 := blk_frozen BK305.out 1
            have hfz74_2 := blk_frozen BK305.out 2
            have hfz74_3 := blk_frozen BK305.out 3
            have hfz74_4 := blk_frozen BK305.out 4
            have hfz74_5 := blk_frozen BK305.out 5
            go_wp2_with (first | ((with_reducible refine gate_callee (f := 8) rfl ?_); refine gl_ (some 60) Tryd.func8 #[.agg #[.int .i64 t292, .int .i64 t293, .int .i64 t294, .slice Ao16 t308.length co16, .slice Ao17 t309.length co17, .slice Ao18 t310.length co18], .int .i64 1] rfl rfl rfl ?_; (with_reducible refine (laws_heldModel.calls kj39 t292 t293 t294 _ _ t308 _ _ t309 _ _ t310 1 t327 _ ?side1 ?side2 ?side3 ?side4 ?side5 ?side6 A69.out).mono ?_); (case side1 => exact Kd.C_o HO_306003); (case side2 => exact (Kd.R_reads' HO_306003.out).2.1); (case side3 => exact Kd.C_o HO_306004); (case side4 => exact (Kd.R_reads' HO_306004.out).2.1); (case side5 => exact Kd.C_o HO_306005); (case side6 => exact (Kd.R_reads' HO_306005.out).2.1); rintro e w75 ⟨rfl, hb⟩; refine ⟨_, rfl, ?_⟩; replace HO_306003 := Kd.R_b HO_306003 hb; replace HO_306004 := Kd.R_b HO_306004 hb; replace HO_306005 := Kd.R_b HO_306005 hb; replace BK305 := kb_ BK305 hb; replace HB := hbs_ HB hb; (try clear hb); (try clear hb2); (try clear hk); (try clear hi)))
            go_ret
            exact ⟨by first | rfl | (simp [errW_none, errW_some] <;> rfl) | (simp [*, errW_none, errW_some] <;> rfl), hb_ HB⟩
           ·rw [if_neg c73] at H
            have c73b0 : (t327 == t307) = false := beq_eq_false_iff_ne.mpr c73
            have c73b1 : (t327 != t307) = true := bne_iff_ne.mpr c73
            obtain rfl := Option.some.inj H
            have hcz76_0 : wc.cell? ⟨gb305, 0, none⟩ = some (.int .i64 t292) := (blk_cell BK305.out 0).trans rfl
            have hcz76_1 : wc.cell? ⟨gb305, 1, none⟩ = some (.int .i64 t293) := (blk_cell BK305.out 1).trans rfl
            have hcz76_2 : wc.cell? ⟨gb305, 2, none⟩ = some (.int .i64 t294) := (blk_cell BK305.out 2).trans rfl
            have hcz76_3 : wc.cell? ⟨gb305, 3, none⟩ = some (.slice Ao16 t308.length co16) := (blk_cell BK305.out 3).trans rfl
            have hcz76_4 : wc.cell? ⟨gb305, 4, none⟩ = some (.slice Ao17 t309.length co17) := (blk_cell BK305.out 4).trans rfl
            have hcz76_5 : wc.cell? ⟨gb305, 5, none⟩ = some (.slice Ao18 t310.length co18) := (blk_cell BK305.out 5).trans rfl
            have hfz76_0 := blk_frozen BK305.out 0
            have hfz76_1 := blk_frozen BK305.out 1
            have hfz76_2 := blk_frozen BK305.out 2
            have hfz76_3 := blk_frozen BK305.out 3
            have hfz76_4 := blk_frozen BK305.out 4
            have hfz76_5 := blk_frozen BK305.out 5
            go_wp2_with (first | ((with_reducible refine gate_callee (f := 8) rfl ?_); refine gl_ (some 60) Tryd.func8 #[.agg #[.int .i64 t292, .int .i64 t293, .int .i64 t294, .slice Ao16 t308.length co16, .slice Ao17 t309.length co17, .slice Ao18 t310.length co18], .int .i64 1] rfl rfl rfl ?_; (with_reducible refine (laws_heldModel.calls kj39 t292 t293 t294 _ _ t308 _ _ t309 _ _ t310 1 t327 _ ?side1 ?side2 ?side3 ?side4 ?side5 ?side6 A69.out).mono ?_); (case side1 => exact Kd.C_o HO_306003); (case side2 => exact (Kd.R_reads' HO_306003.out).2.1); (case side3 => exact Kd.C_o HO_306004); (case side4 => exact (Kd.R_reads' HO_306004.out).2.1); (case side5 => exact Kd.C_o HO_306005); (case side6 => exact (Kd.R_reads' HO_306005.out).2.1); rintro e w77 ⟨rfl, hb⟩; refine ⟨_, rfl, ?_⟩; replace HO_306003 := Kd.R_b HO_306003 hb; replace HO_306004 := Kd.R_b HO_306004 hb; replace HO_306005 := Kd.R_b HO_306005 hb; replace BK305 := kb_ BK305 hb; replace HB := hbs_ HB hb; (try clear hb); (try clear hb2); (try clear hk); (try clear hi)))
            go_ret
            exact ⟨by first | rfl | (simp [errW_none, errW_some] <;> rfl) | (simp [*, errW_none, errW_some] <;> rfl), hb_ HB⟩
      ·rw [if_neg c38] at H
       have c38b0 : (t311 == t307) = false := beq_eq_false_iff_ne.mpr c38
       have c38b1 : (t311 != t307) = true := bne_iff_ne.mpr c38
       obtain rfl := Option.some.inj H
       have hnb78 := NB305_291.out
       have hnc78 := NB291_305.out
       have hcz79_0 : wc.cell? ⟨gb305, 0, none⟩ = some (.int .i64 t292) := (blk_cell BK305.out 0).trans rfl
       have hcz79_1 : wc.cell? ⟨gb305, 1, none⟩ = some (.int .i64 t293) := (blk_cell BK305.out 1).trans rfl
       have hcz79_2 : wc.cell? ⟨gb305, 2, none⟩ = some (.int .i64 t294) := (blk_cell BK305.out 2).trans rfl
       have hcz79_3 : wc.cell? ⟨gb305, 3, none⟩ = some (.slice Ao16 t295.length co16) := (blk_cell BK305.out 3).trans rfl
       have hcz79_4 : wc.cell? ⟨gb305, 4, none⟩ = some (.slice Ao17 t298.length co17) := (blk_cell BK305.out 4).trans rfl
       have hcz79_5 : wc.cell? ⟨gb305, 5, none⟩ = some (.slice Ao18 t301.length co18) := (blk_cell BK305.out 5).trans rfl
       have hfz79_0 := blk_frozen BK305.out 0
       have hfz79_1 := blk_frozen BK305.out 1
       have hfz79_2 := blk_frozen BK305.out 2
       have hfz79_3 := blk_frozen BK305.out 3
       have hfz79_4 := blk_frozen BK305.out 4
       have hfz79_5 := blk_frozen BK305.out 5
       (try clear BK291); (try clear GW291); (try clear GE291); (try clear NB291_305); (try clear NB305_291)
       go_wp2_with (first | ((with_reducible refine gate_callee (f := 7) rfl ?_); refine gl_ (some 35) Tryd.func7 #[.agg #[.int .i64 t292, .int .i64 t293, .int .i64 t294, .slice Ao16 t295.length co16, .slice Ao17 t298.length co17, .slice Ao18 t301.length co18], .int .i64 1] rfl rfl rfl ?_; (with_reducible refine (laws_markModel.calls kj4 t292 t293 t294 (fun k_ => some k_ = (.slice Ao16 t295.length co16 : Value).ownBlock) (.slice Ao16 t295.length co16) t295 (fun k_ => some k_ = (.slice Ao17 t298.length co17 : Value).ownBlock) (.slice Ao17 t298.length co17) t298 (fun k_ => some k_ = (.slice Ao18 t301.length co18 : Value).ownBlock) (.slice Ao18 t301.length co18) t301 1 t307 t308 t309 t310 w _ ?side1 ?side2 ?side3 ?side4 ?side5 ?side6 ?side7 ?side8 ?side9 ?side10 A30.out).mono ?_); (case side1 => exact hb_ HB); (case side2 => exact Kd.R_tight rfl HO_306003.out); (case side3 => exact fun k_ e_ => (HO_306003.out.1 k_ e_.symm).2.2.2.1); (case side4 => exact fun k_ e_ => (HO_306003.out.1 k_ e_.symm).2.2.2.2); (case side5 => exact Kd.R_tight rfl HO_306004.out); (case side6 => exact fun k_ e_ => (HO_306004.out.1 k_ e_.symm).2.2.2.1); (case side7 => exact fun k_ e_ => (HO_306004.out.1 k_ e_.symm).2.2.2.2); (case side8 => exact Kd.R_tight rfl HO_306005.out); (case side9 => exact fun k_ e_ => (HO_306005.out.1 k_ e_.symm).2.2.2.1); (case side10 => exact fun k_ e_ => (HO_306005.out.1 k_ e_.symm).2.2.2.2); rintro e w80 ⟨rfl, hy0, hy1, hy2, hb, hkp⟩; refine ⟨_, rfl, ?_⟩; replace HO_292003 := Aside0.mk (Kd.R_mono (ok' := fun k_ => some k_ ≠ (.slice Ao10 t284.length co10 : Value).ownBlock ∧ some k_ ≠ (.slice Ao11 t287.length co11 : Value).ownBlock ∧ some k_ ≠ (.slice Ao16 t295.length co16 : Value).ownBlock ∧ some k_ ≠ (.slice Ao17 t298.length co17 : Value).ownBlock ∧ some k_ ≠ (.slice Ao18 t301.length co18 : Value).ownBlock) (Kd.R_keptB (HO_292003.out) hkp (fun k_ hk_ hs_ => Or.elim hs_ (fun e_ => (hk_.2.2.1) e_) (fun e_ => Or.elim e_ (fun e_ => (hk_.2.2.2.1) e_) (fun e_ => (hk_.2.2.2.2) e_)))) (fun k_ hk_ => ⟨hk_.1.1, hk_.1.2.1, hk_.1.2.2.1, hk_.1.2.2.2.1, hk_.1.2.2.2.2⟩)); replace HO_292004 := Aside0.mk (Kd.R_mono (ok' := fun k_ => some k_ ≠ (.slice Ao9 t281.length co9 : Value).ownBlock ∧ some k_ ≠ (.slice Ao11 t287.length co11 : Value).ownBlock ∧ some k_ ≠ (.slice Ao16 t295.length co16 : Value).ownBlock ∧ some k_ ≠ (.slice Ao17 t298.length co17 : Value).ownBlock ∧ some k_ ≠ (.slice Ao18 t301.length co18 : Value).ownBlock) (Kd.R_keptB (HO_292004.out) hkp (fun k_ hk_ hs_ => Or.elim hs_ (fun e_ => (hk_.2.2.1) e_) (fun e_ => Or.elim e_ (fun e_ => (hk_.2.2.2.1) e_) (fun e_ => (hk_.2.2.2.2) e_)))) (fun k_ hk_ => ⟨hk_.1.1, hk_.1.2.1, hk_.1.2.2.1, hk_.1.2.2.2.1, hk_.1.2.2.2.2⟩)); replace HO_292005 := Aside0.mk (Kd.R_mono (ok' := fun k_ => some k_ ≠ (.slice Ao9 t281.length co9 : Value).ownBlock ∧ some k_ ≠ (.slice Ao10 t284.length co10 : Value).ownBlock ∧ some k_ ≠ (.slice Ao16 t295.length co16 : Value).ownBlock ∧ some k_ ≠ (.slice Ao17 t298.length co17 : Value).ownBlock ∧ some k_ ≠ (.slice Ao18 t301.length co18 : Value).ownBlock) (Kd.R_keptB (HO_292005.out) hkp (fun k_ hk_ hs_ => Or.elim hs_ (fun e_ => (hk_.2.2.1) e_) (fun e_ => Or.elim e_ (fun e_ => (hk_.2.2.2.1) e_) (fun e_ => (hk_.2.2.2.2) e_)))) (fun k_ hk_ => ⟨hk_.1.1, hk_.1.2.1, hk_.1.2.2.1, hk_.1.2.2.2.1, hk_.1.2.2.2.2⟩)); replace BK305 := Aside0.mk (blk_kept (kp_ BK305) hkp (fun hs_ => Or.elim hs_ (fun e_ => (fun e_ => (Kd.R_ne HO_306003.out BK305.out (by decide)) e_) e_) (fun e_ => Or.elim e_ (fun e_ => (fun e_ => (Kd.R_ne HO_306004.out BK305.out (by decide)) e_) e_) (fun e_ => (fun e_ => (Kd.R_ne HO_306005.out BK305.out (by decide)) e_) e_)))); replace HB := Aside0.mk (hb); replace HO_306003 := Aside0.mk (Kd.R_reok rfl hy0 (fun k_ e_ => HO_306003.out.1 k_ e_)); replace HO_306004 := Aside0.mk (Kd.R_reok rfl hy1 (fun k_ e_ => HO_306004.out.1 k_ e_)); replace HO_306005 := Aside0.mk (Kd.R_reok rfl hy2 (fun k_ e_ => HO_306005.out.1 k_ e_)); (try clear hb); (try clear hkp); (try clear hy0); (try clear hy1); (try clear hy2); obtain ⟨hcz81_0, hcz81_1, hcz81_2, hcz81_3, hcz81_4, hcz81_5, hfz81_0, hfz81_1, hfz81_2, hfz81_3, hfz81_4, hfz81_5⟩ := bx6 BK305) | ((with_reducible refine gate_callee (f := 8) rfl ?_); refine gl_ (some 38) Tryd.func8 #[.agg #[.int .i64 t292, .int .i64 t293, .int .i64 t294, .slice Ao16 t308.length co16, .slice Ao17 t309.length co17, .slice Ao18 t310.length co18], .int .i64 1] rfl rfl rfl ?_ (by (try simp only [List.map_toArray, List.map_cons, List.map_nil]); first | done | (rw [show t308.length = t295.length from (Kd.R_reads' HO_306003.out).1.symm, show t309.length = t298.length from (Kd.R_reads' HO_306004.out).1.symm, show t310.length = t301.length from (Kd.R_reads' HO_306005.out).1.symm] <;> rfl) | rfl | (simp only [List.length_drop, List.length_take]; rfl)); (with_reducible refine (laws_heldModel.calls kj4 t292 t293 t294 _ _ t308 _ _ t309 _ _ t310 1 t311 _ ?side1 ?side2 ?side3 ?side4 ?side5 ?side6 A31.out).mono ?_); (case side1 => exact Kd.C_o HO_306003); (case side2 => rw [show t308.length = t295.length from (Kd.R_reads' HO_306003.out).1.symm]; exact (Kd.R_reads' HO_306003.out).2.1); (case side3 => exact Kd.C_o HO_306004); (case side4 => rw [show t309.length = t298.length from (Kd.R_reads' HO_306004.out).1.symm]; exact (Kd.R_reads' HO_306004.out).2.1); (case side5 => exact Kd.C_o HO_306005); (case side6 => rw [show t310.length = t301.length from (Kd.R_reads' HO_306005.out).1.symm]; exact (Kd.R_reads' HO_306005.out).2.1); rintro e w82 ⟨rfl, hb⟩; refine ⟨_, rfl, ?_⟩; replace HO_292003 := Kd.R_b HO_292003 hb; replace HO_292004 := Kd.R_b HO_292004 hb; replace HO_292005 := Kd.R_b HO_292005 hb; replace HO_306003 := Kd.R_b HO_306003 hb; replace HO_306004 := Kd.R_b HO_306004 hb; replace HO_306005 := Kd.R_b HO_306005 hb; replace BK305 := kb_ BK305 hb; replace HB := hbs_ HB hb; (try clear hb); (try clear hb2); (try clear hk); (try clear hi)))
       go_ret
       exact ⟨by first | rfl | (simp [errW_none, errW_some] <;> rfl) | (simp [*, errW_none, errW_some] <;> rfl), hb_ HB⟩

/-- THE ONE PURE STATEMENT of laws_FnExactParseModel: yours. -/
def laws_FnExactParseModel.Pure : Prop := ∀ (a0 : ByteArray), a0.size ≤ 140737488351232 → ∃ k, laws_FnExactParseModel.f k a0 = some true
end Go.Proofs.YtjchafcodnilmaaDoor.PFnExactParseModel
