-- Laid for this claim by wip/tools/print2.sh, a changed copy of the kit's print (wip/tools/patch_print.py): not by print.sh. Changed by wip/fix/levelsums.py.
import Derived.Test.YtdfjlelbkkaloaaPFnExactLevelSumsx0
import Derived.Test.YtdfjlelbkkaloaaPFnExactLevelSumsx1
import Derived.Test.YtdfjlelbkkaloaaPFnExactLevelSumsx3
import Derived.Test.YtdfjlelbkkaloaaPFnExactLevelSumsx5
namespace Go.Proofs.Ytdfjlelbkkaloaa.PFnExactLevelSums
open Go.RowKit Go.Proofs.YtdfjlelbkkaloaaW.PrintWords Go.Proofs.YtdfjlelbkkaloaaW.PrintLast Go.Proofs.YtdfjlelbkkaloaaW.PrintMore
attribute [local go_sem] max2_int min2_int max_two min_two max_three min_three max_four min_four   -- for this text's walks alone
set_option linter.unusedVariables false
set_option linter.unusedSimpArgs false

def LtB (N : Nat) (v : Value) (k : Nat) : Prop := some k ≠ v.ownBlock ∧ k < N
def GeB (N : Nat) (v : Value) (k : Nat) : Prop := some k ≠ v.ownBlock ∧ N ≤ k
theorem name_size {W w1 : World} (hb : Below W.heap.size W w1) : ∃ N, N = W.heap.size := ⟨_, rfl⟩
theorem S_elderN {α : Type} {d : Kd α} {e base N : Nat} {ok : Nat → Prop} {W w1 : World} {u v : Value} {xs : List α} (h : Kd.S d e W base ok u xs) (hN : N = W.heap.size) (hbase : ∀ k, v.ownBlock = some k → W.heap.size ≤ k) (hb : Below W.heap.size W w1) : Kd.S d e w1 base (fun k => ok k ∧ LtB N v k) u xs := by
 subst hN
 exact Kd.S_mono (Kd.S_below (Kd.S_bound h) hb) (fun k hk => ⟨hk.1, fun he => by have := hbase k he.symm; have := hk.2.2.1; omega, hk.2.2.1⟩)
theorem S_newN {α : Type} {d : Kd α} {e N : Nat} {ok : Nat → Prop} {W w1 : World} {u v : Value} {xs : List α} (h : Kd.S d e w1 W.heap.size ok v xs) (hN : N = W.heap.size) (hlt : ∀ k, u.ownBlock = some k → k < W.heap.size) : Kd.S d e w1 W.heap.size (fun k => ok k ∧ GeB N u k) v xs := by
 subst hN
 exact Kd.S_mono (Kd.S_bound h) (fun k hk => ⟨hk.1, fun he => by have := hlt k he.symm; have := hk.2.1; omega, hk.2.1⟩)
/-! ### laws_FnExactLevelSums: function 5 -/
mutual
def laws_FnExactLevelSums.j0 : Nat → List (List Int) → Bool → List (List Int) → Bool → Bool → Int → Int → Int → List Int → List Int → List Int → Int → Int → Int → List Int → List Int → List Int → Option (Bool)
 | 0, _, _, _, _, _, _, _, _, _, _, _, _, _, _, _, _, _ => none
 | k + 1, x4, x5, x7, x8, x40, x234000, x234001, x234002, x234003, x234004, x234005, x264000, x264001, x264002, x264003, x264004, x264005 => if x40 = true then (some false) else ((laws_toModel.f k x234000 x234001 x234002 x234003 x234004 x234005).bind fun bt269 => ((laws_eqModel.f k x264000 x264001 x264002 x264003 x264004 x264005 bt269.1 bt269.2.1 bt269.2.2.1 bt269.2.2.2.1 bt269.2.2.2.2.1 bt269.2.2.2.2.2).bind fun t281 => (if t281 = true then ((laws_markModel.f k x264000 x264001 x264002 x264003 x264004 x264005 1).bind fun bt282 => (if bt282.1 < 0 then (laws_FnExactLevelSums.j1 k x4 x5 x7 true x234000 x234001 x234002 x234003 x234004 x234005) else ((laws_eqIntSS.f k x7 x4).bind fun t286 => (if t286 = true then (laws_FnExactLevelSums.j1 k x4 x5 x7 (x8 != x5) x234000 x234001 x234002 x234003 x234004 x234005) else (laws_FnExactLevelSums.j1 k x4 x5 x7 true x234000 x234001 x234002 x234003 x234004 x234005))))) else (some false))))
def laws_FnExactLevelSums.j1 : Nat → List (List Int) → Bool → List (List Int) → Bool → Int → Int → Int → List Int → List Int → List Int → Option (Bool)
 | 0, _, _, _, _, _, _, _, _, _, _ => none
 | k + 1, x4, x5, x7, x61, x234000, x234001, x234002, x234003, x234004, x234005 => if x61 = true then (some false) else ((laws_markIntSS.f k x7 1).bind fun bt287 => ((laws_heldIntSS.f k bt287.2 1).bind fun t289 => (if t289 < 0 then (some false) else (if t289 = bt287.1 then ((laws_toModel.f k x234000 x234001 x234002 x234003 x234004 x234005).bind fun bt290 => ((impl_LevelSums.f k bt290.1 bt290.2.1 bt290.2.2.1 bt290.2.2.2.1 bt290.2.2.2.2.1 bt290.2.2.2.2.2).bind fun bt302 => ((laws_eqIntSS.f k bt302.1 x4).bind fun t306 => (if t306 = true then (laws_FnExactLevelSums.j2 k bt287.2 bt287.1 (bt302.2 != x5)) else (laws_FnExactLevelSums.j2 k bt287.2 bt287.1 true))))) else (some false)))))
def laws_FnExactLevelSums.j2 : Nat → List (List Int) → Int → Bool → Option (Bool)
 | 0, _, _, _ => none
 | k + 1, x7, x10, x87 => if x87 = true then (some false) else ((laws_heldIntSS.f k x7 1).bind fun t307 => (if t307 < 0 then (some false) else (if t307 = x10 then (some true) else (some false))))
end
def laws_FnExactLevelSums.f (k : Nat) (a0_0 : Int) (a0_1 : Int) (a0_2 : Int) (l0_3 : List Int) (l0_4 : List Int) (l0_5 : List Int) : Option (Bool) := (laws_szModel.f a0_0 a0_1 a0_2 l0_3 l0_4 l0_5 1048576).bind fun t234 => (if t234 < 0 then (some true) else ((laws_toModel.f k a0_0 a0_1 a0_2 l0_3 l0_4 l0_5).bind fun bt235 => ((spec_LevelSums.f k bt235.1 bt235.2.1 bt235.2.2.1 bt235.2.2.2.1 bt235.2.2.2.2.1 bt235.2.2.2.2.2).bind fun bt247 => ((laws_toModel.f k a0_0 a0_1 a0_2 l0_3 l0_4 l0_5).bind fun bt251 => ((impl_LevelSums.f k bt251.1 bt251.2.1 bt251.2.2.1 bt251.2.2.2.1 bt251.2.2.2.2.1 bt251.2.2.2.2.2).bind fun bt264 => ((laws_eqIntSS.f k bt264.1 bt247.1).bind fun t268 => (if t268 = true then (laws_FnExactLevelSums.j0 k bt247.1 bt247.2 bt264.1 bt264.2 (bt264.2 != bt247.2) a0_0 a0_1 a0_2 l0_3 l0_4 l0_5 bt251.1 bt251.2.1 bt251.2.2.1 bt251.2.2.2.1 bt251.2.2.2.2.1 bt251.2.2.2.2.2) else (laws_FnExactLevelSums.j0 k bt247.1 bt247.2 bt264.1 bt264.2 true a0_0 a0_1 a0_2 l0_3 l0_4 l0_5 bt251.1 bt251.2.1 bt251.2.2.1 bt251.2.2.2.1 bt251.2.2.2.2.1 bt251.2.2.2.2.2))))))))
set_option maxHeartbeats 8000000 in
set_option maxRecDepth 100000 in
theorem laws_FnExactLevelSums.calls (k : Nat) (a0_0 : Int) (a0_1 : Int) (a0_2 : Int) (A0_3 : Option Addr) (c0_3 : Nat) (l0_3 : List Int) (A0_4 : Option Addr) (c0_4 : Nat) (l0_4 : List Int) (A0_5 : Option Addr) (c0_5 : Nat) (l0_5 : List Int) (r : Bool) (w : World) (hr0_3 : Kd.C (Kd.int .i64) w A0_3 l0_3.length l0_3) (hc0_3 : l0_3.length ≤ c0_3) (hr0_4 : Kd.C (Kd.int .i64) w A0_4 l0_4.length l0_4) (hc0_4 : l0_4.length ≤ c0_4) (hr0_5 : Kd.C (Kd.int .i64) w A0_5 l0_5.length l0_5) (hc0_5 : l0_5.length ≤ c0_5) (h : laws_FnExactLevelSums.f k a0_0 a0_1 a0_2 l0_3 l0_4 l0_5 = some r) :
  Calls Try.prog 5 #[.agg #[.int .i64 a0_0, .int .i64 a0_1, .int .i64 a0_2, .slice A0_3 l0_3.length c0_3, .slice A0_4 l0_4.length c0_4, .slice A0_5 l0_5.length c0_5]] w fun e w' => e = .returned (.bool r) ∧ Below w.heap.size w w' := by
 have hu26 := Try.underlying26
 have hu30 := Try.underlying30
 have HR0_3 := Aside0.mk hr0_3
 have HC0_3 := Aside0.mk hc0_3
 clear hr0_3 hc0_3
 have HR0_4 := Aside0.mk hr0_4
 have HC0_4 := Aside0.mk hc0_4
 clear hr0_4 hc0_4
 have HR0_5 := Aside0.mk hr0_5
 have HC0_5 := Aside0.mk hc0_5
 clear hr0_5 hc0_5
 have HB := Aside0.mk (Below.refl w.heap.size w)
 have H : ((laws_szModel.f a0_0 a0_1 a0_2 l0_3 l0_4 l0_5 1048576).bind fun t234 => (if t234 < 0 then (some true) else ((laws_toModel.f k a0_0 a0_1 a0_2 l0_3 l0_4 l0_5).bind fun bt235 => ((spec_LevelSums.f k bt235.1 bt235.2.1 bt235.2.2.1 bt235.2.2.2.1 bt235.2.2.2.2.1 bt235.2.2.2.2.2).bind fun bt247 => ((laws_toModel.f k a0_0 a0_1 a0_2 l0_3 l0_4 l0_5).bind fun bt251 => ((impl_LevelSums.f k bt251.1 bt251.2.1 bt251.2.2.1 bt251.2.2.2.1 bt251.2.2.2.2.1 bt251.2.2.2.2.2).bind fun bt264 => ((laws_eqIntSS.f k bt264.1 bt247.1).bind fun t268 => (if t268 = true then (laws_FnExactLevelSums.j0 k bt247.1 bt247.2 bt264.1 bt264.2 (bt264.2 != bt247.2) a0_0 a0_1 a0_2 l0_3 l0_4 l0_5 bt251.1 bt251.2.1 bt251.2.2.1 bt251.2.2.2.1 bt251.2.2.2.2.1 bt251.2.2.2.2.2) else (laws_FnExactLevelSums.j0 k bt247.1 bt247.2 bt264.1 bt264.2 true a0_0 a0_1 a0_2 l0_3 l0_4 l0_5 bt251.1 bt251.2.1 bt251.2.2.1 bt251.2.2.2.1 bt251.2.2.2.2.1 bt251.2.2.2.2.2))))))))) = some r := h
 clear h
 replace H := Option.bind_eq_some_iff.mp H
 obtain ⟨t234, A20, H⟩ := H
 replace H : (if t234 < 0 then (some true) else ((laws_toModel.f k a0_0 a0_1 a0_2 l0_3 l0_4 l0_5).bind fun bt235 => ((spec_LevelSums.f k bt235.1 bt235.2.1 bt235.2.2.1 bt235.2.2.2.1 bt235.2.2.2.2.1 bt235.2.2.2.2.2).bind fun bt247 => ((laws_toModel.f k a0_0 a0_1 a0_2 l0_3 l0_4 l0_5).bind fun bt251 => ((impl_LevelSums.f k bt251.1 bt251.2.1 bt251.2.2.1 bt251.2.2.2.1 bt251.2.2.2.2.1 bt251.2.2.2.2.2).bind fun bt264 => ((laws_eqIntSS.f k bt264.1 bt247.1).bind fun t268 => (if t268 = true then (laws_FnExactLevelSums.j0 k bt247.1 bt247.2 bt264.1 bt264.2 (bt264.2 != bt247.2) a0_0 a0_1 a0_2 l0_3 l0_4 l0_5 bt251.1 bt251.2.1 bt251.2.2.1 bt251.2.2.2.1 bt251.2.2.2.2.1 bt251.2.2.2.2.2) else (laws_FnExactLevelSums.j0 k bt247.1 bt247.2 bt264.1 bt264.2 true a0_0 a0_1 a0_2 l0_3 l0_4 l0_5 bt251.1 bt251.2.1 bt251.2.2.1 bt251.2.2.2.1 bt251.2.2.2.2.1 bt251.2.2.2.2.2)))))))) = some r := H
 have A2 := Aside0.mk A20
 clear A20
 by_cases c3 : t234 < 0
 ·rw [if_pos c3] at H
  have c3b0 : decide (t234 < 0) = true := decide_eq_true c3
  clear c3
  obtain rfl := Option.some.inj H
  go_enter Try.func5, Try.ntmps5
  go_wp2_with (first | ((with_reducible refine gate_dst (N := 1) rfl ?_); refine box_event ?hg (N := 1) ?hd (cs := #[.int .i64 a0_0, .int .i64 a0_1, .int .i64 a0_2, .slice A0_3 l0_3.length c0_3, .slice A0_4 l0_4.length c0_4, .slice A0_5 l0_5.length c0_5]) (t := 26) ?hr ?_; (case hd => rfl); (case hg => rfl); (case hr => first | (go_simp; done) | (go_simp; rfl)); intro gb233 hg w4 hbox hb; have BK233 := Aside0.mk (hbox); have GW233 := gs_ hg HB; have GE233 := gs_ hg HB; replace HB := hbs_ HB hb; clear hb hbox hg; obtain ⟨hcz5_0, hcz5_1, hcz5_2, hcz5_3, hcz5_4, hcz5_5, hfz5_0, hfz5_1, hfz5_2, hfz5_3, hfz5_4, hfz5_5⟩ := bx6 BK233) | ((with_reducible refine gate_callee (f := 7) rfl ?_); refine gl_ (some 16) Try.func7 #[.agg #[.int .i64 a0_0, .int .i64 a0_1, .int .i64 a0_2, .slice A0_3 l0_3.length c0_3, .slice A0_4 l0_4.length c0_4, .slice A0_5 l0_5.length c0_5], .int .i64 1048576] rfl rfl rfl ?_; (with_reducible refine (laws_szModel.calls a0_0 a0_1 a0_2 _ _ l0_3 _ _ l0_4 _ _ l0_5 1048576 t234 _ ?side1 ?side2 ?side3 ?side4 ?side5 ?side6 A2.out).mono ?_); (case side1 => exact Kd.C_w HR0_3 HB); (case side2 => exact HC0_3.out); (case side3 => exact Kd.C_w HR0_4 HB); (case side4 => exact HC0_4.out); (case side5 => exact Kd.C_w HR0_5 HB); (case side6 => exact HC0_5.out); rintro e w6 ⟨rfl, hb⟩; refine ⟨_, rfl, ?_⟩; replace BK233 := kb_ BK233 hb; replace HB := hbs_ HB hb; (try clear hb); (try clear hb2); (try clear hk); (try clear hi)))
  go_ret
  exact ⟨by first | rfl | (simp [errW_none, errW_some] <;> rfl) | (simp [*, errW_none, errW_some] <;> rfl), hb_ HB⟩
 ·rw [if_neg c3] at H
  have c3b0 : decide (t234 < 0) = false := decide_eq_false c3
  clear c3
  replace H := Option.bind_eq_some_iff.mp H
  obtain ⟨⟨t235, t236, t237, t238, t241, t244⟩, A70, H⟩ := H
  replace H : ((spec_LevelSums.f k t235 t236 t237 t238 t241 t244).bind fun bt247 => ((laws_toModel.f k a0_0 a0_1 a0_2 l0_3 l0_4 l0_5).bind fun bt251 => ((impl_LevelSums.f k bt251.1 bt251.2.1 bt251.2.2.1 bt251.2.2.2.1 bt251.2.2.2.2.1 bt251.2.2.2.2.2).bind fun bt264 => ((laws_eqIntSS.f k bt264.1 bt247.1).bind fun t268 => (if t268 = true then (laws_FnExactLevelSums.j0 k bt247.1 bt247.2 bt264.1 bt264.2 (bt264.2 != bt247.2) a0_0 a0_1 a0_2 l0_3 l0_4 l0_5 bt251.1 bt251.2.1 bt251.2.2.1 bt251.2.2.2.1 bt251.2.2.2.2.1 bt251.2.2.2.2.2) else (laws_FnExactLevelSums.j0 k bt247.1 bt247.2 bt264.1 bt264.2 true a0_0 a0_1 a0_2 l0_3 l0_4 l0_5 bt251.1 bt251.2.1 bt251.2.2.1 bt251.2.2.2.1 bt251.2.2.2.2.1 bt251.2.2.2.2.2)))))) = some r := H
  have A7 := Aside0.mk A70
  clear A70
  replace H := Option.bind_eq_some_iff.mp H
  obtain ⟨⟨t247, t250⟩, A80, H⟩ := H
  replace H : ((laws_toModel.f k a0_0 a0_1 a0_2 l0_3 l0_4 l0_5).bind fun bt251 => ((impl_LevelSums.f k bt251.1 bt251.2.1 bt251.2.2.1 bt251.2.2.2.1 bt251.2.2.2.2.1 bt251.2.2.2.2.2).bind fun bt264 => ((laws_eqIntSS.f k bt264.1 t247).bind fun t268 => (if t268 = true then (laws_FnExactLevelSums.j0 k t247 t250 bt264.1 bt264.2 (bt264.2 != t250) a0_0 a0_1 a0_2 l0_3 l0_4 l0_5 bt251.1 bt251.2.1 bt251.2.2.1 bt251.2.2.2.1 bt251.2.2.2.2.1 bt251.2.2.2.2.2) else (laws_FnExactLevelSums.j0 k t247 t250 bt264.1 bt264.2 true a0_0 a0_1 a0_2 l0_3 l0_4 l0_5 bt251.1 bt251.2.1 bt251.2.2.1 bt251.2.2.2.1 bt251.2.2.2.2.1 bt251.2.2.2.2.2))))) = some r := H
  have A8 := Aside0.mk A80
  clear A80
  replace H := Option.bind_eq_some_iff.mp H
  obtain ⟨⟨t251, t252, t253, t254, t257, t260⟩, A90, H⟩ := H
  replace H : ((impl_LevelSums.f k t251 t252 t253 t254 t257 t260).bind fun bt264 => ((laws_eqIntSS.f k bt264.1 t247).bind fun t268 => (if t268 = true then (laws_FnExactLevelSums.j0 k t247 t250 bt264.1 bt264.2 (bt264.2 != t250) a0_0 a0_1 a0_2 l0_3 l0_4 l0_5 t251 t252 t253 t254 t257 t260) else (laws_FnExactLevelSums.j0 k t247 t250 bt264.1 bt264.2 true a0_0 a0_1 a0_2 l0_3 l0_4 l0_5 t251 t252 t253 t254 t257 t260)))) = some r := H
  have A9 := Aside0.mk A90
  clear A90
  replace H := Option.bind_eq_some_iff.mp H
  obtain ⟨⟨t264, t267⟩, A100, H⟩ := H
  replace H : ((laws_eqIntSS.f k t264 t247).bind fun t268 => (if t268 = true then (laws_FnExactLevelSums.j0 k t247 t250 t264 t267 (t267 != t250) a0_0 a0_1 a0_2 l0_3 l0_4 l0_5 t251 t252 t253 t254 t257 t260) else (laws_FnExactLevelSums.j0 k t247 t250 t264 t267 true a0_0 a0_1 a0_2 l0_3 l0_4 l0_5 t251 t252 t253 t254 t257 t260))) = some r := H
  have A10 := Aside0.mk A100
  clear A100
  have HC11 := Aside0.mk H
  clear H
  go_enter Try.func5, Try.ntmps5
  go_upto_region 8 with (first | ((with_reducible refine gate_dst (N := 1) rfl ?_); refine box_event ?hg (N := 1) ?hd (cs := #[.int .i64 a0_0, .int .i64 a0_1, .int .i64 a0_2, .slice A0_3 l0_3.length c0_3, .slice A0_4 l0_4.length c0_4, .slice A0_5 l0_5.length c0_5]) (t := 26) ?hr ?_; (case hd => rfl); (case hg => rfl); (case hr => first | (go_simp; done) | (go_simp; rfl)); intro gb233 hg w12 hbox hb; have BK233 := Aside0.mk (hbox); have GW233 := gs_ hg HB; have GE233 := gs_ hg HB; replace HB := hbs_ HB hb; clear hb hbox hg; obtain ⟨hcz13_0, hcz13_1, hcz13_2, hcz13_3, hcz13_4, hcz13_5, hfz13_0, hfz13_1, hfz13_2, hfz13_3, hfz13_4, hfz13_5⟩ := bx6 BK233) | ((with_reducible refine gate_callee (f := 7) rfl ?_); refine gl_ (some 16) Try.func7 #[.agg #[.int .i64 a0_0, .int .i64 a0_1, .int .i64 a0_2, .slice A0_3 l0_3.length c0_3, .slice A0_4 l0_4.length c0_4, .slice A0_5 l0_5.length c0_5], .int .i64 1048576] rfl rfl rfl ?_; (with_reducible refine (laws_szModel.calls a0_0 a0_1 a0_2 _ _ l0_3 _ _ l0_4 _ _ l0_5 1048576 t234 _ ?side1 ?side2 ?side3 ?side4 ?side5 ?side6 A2.out).mono ?_); (case side1 => exact Kd.C_w HR0_3 HB); (case side2 => exact HC0_3.out); (case side3 => exact Kd.C_w HR0_4 HB); (case side4 => exact HC0_4.out); (case side5 => exact Kd.C_w HR0_5 HB); (case side6 => exact HC0_5.out); rintro e w14 ⟨rfl, hb⟩; refine ⟨_, rfl, ?_⟩; replace BK233 := kb_ BK233 hb; replace HB := hbs_ HB hb; (try clear hb); (try clear hb2); (try clear hk); (try clear hi); obtain ⟨hcz15_0, hcz15_1, hcz15_2, hcz15_3, hcz15_4, hcz15_5, hfz15_0, hfz15_1, hfz15_2, hfz15_3, hfz15_4, hfz15_5⟩ := bx6 BK233) | ((with_reducible refine gate_callee (f := 9) rfl ?_); refine gl_ (some 21) Try.func9 #[.agg #[.int .i64 a0_0, .int .i64 a0_1, .int .i64 a0_2, .slice A0_3 l0_3.length c0_3, .slice A0_4 l0_4.length c0_4, .slice A0_5 l0_5.length c0_5]] rfl rfl rfl ?_; (with_reducible refine (laws_toModel.calls k a0_0 a0_1 a0_2 _ _ l0_3 _ _ l0_4 _ _ l0_5 t235 t236 t237 t238 t241 t244 _ ?side1 ?side2 ?side3 ?side4 ?side5 ?side6 A7.out).mono ?_); (case side1 => exact Kd.C_w HR0_3 HB); (case side2 => exact HC0_3.out); (case side3 => exact Kd.C_w HR0_4 HB); (case side4 => exact HC0_4.out); (case side5 => exact Kd.C_w HR0_5 HB); (case side6 => exact HC0_5.out); rintro e w16 ⟨v239, v242, v245, rfl, ho0, ho1, ho2, hb⟩; refine ⟨_, rfl, ?_⟩; have HO240 := Kd.R_lo ho0 HB; have HO243 := Kd.R_lo ho1 HB; have HO246 := Kd.R_lo ho2 HB; replace BK233 := kb_ BK233 hb; replace HB := hbs_ HB hb; (try clear hb); (try clear hb2); (try clear hk); (try clear hi); (try clear ho0); (try clear ho1); (try clear ho2); obtain ⟨Ao17, co17, eo17⟩ := Kd.R_slice HO240.out; subst eo17; obtain ⟨Ao18, co18, eo18⟩ := Kd.R_slice HO243.out; subst eo18; obtain ⟨Ao19, co19, eo19⟩ := Kd.R_slice HO246.out; subst eo19) | ((with_reducible refine gate_callee (f := 19) rfl ?_); refine gl_ (some 22) Try.func19 #[.agg #[.int .i64 t235, .int .i64 t236, .int .i64 t237, .slice Ao17 t238.length co17, .slice Ao18 t241.length co18, .slice Ao19 t244.length co19]] rfl rfl rfl ?_; (with_reducible refine (spec_LevelSums.calls k t235 t236 t237 _ _ t238 _ _ t241 _ _ t244 t247 t250 _ ?side1 ?side2 ?side3 ?side4 ?side5 ?side6 A8.out).mono ?_); (case side1 => exact Kd.C_o HO240); (case side2 => exact (Kd.R_reads' HO240.out).2.1); (case side3 => exact Kd.C_o HO243); (case side4 => exact (Kd.R_reads' HO243.out).2.1); (case side5 => exact Kd.C_o HO246); (case side6 => exact (Kd.R_reads' HO246.out).2.1); rintro e w20 ⟨v248, rfl, ho0, hb⟩; refine ⟨_, rfl, ?_⟩; have HO249 := Aside0.mk (Kd.S_lower (Kd.S_new' (Kd.S_new' (Kd.S_new' ho0 (Kd.R_lt (Kd.R_p HO240))) (Kd.R_lt (Kd.R_p HO243))) (Kd.R_lt (Kd.R_p HO246))) (below_size (hb_ HB))); replace HO240 := Kd.R_b HO240 hb; replace HO243 := Kd.R_b HO243 hb; replace HO246 := Kd.R_b HO246 hb; replace BK233 := kb_ BK233 hb; replace HB := hbs_ HB hb; (try clear hb); (try clear hb2); (try clear hk); (try clear hi); (try clear ho0); obtain ⟨hcz21_0, hcz21_1, hcz21_2, hcz21_3, hcz21_4, hcz21_5, hfz21_0, hfz21_1, hfz21_2, hfz21_3, hfz21_4, hfz21_5⟩ := bx6 BK233; try clear HO240; try clear HO243; try clear HO246) | ((with_reducible refine gate_callee (f := 9) rfl ?_); refine gl_ (some 26) Try.func9 #[.agg #[.int .i64 a0_0, .int .i64 a0_1, .int .i64 a0_2, .slice A0_3 l0_3.length c0_3, .slice A0_4 l0_4.length c0_4, .slice A0_5 l0_5.length c0_5]] rfl rfl rfl ?_; (with_reducible refine (laws_toModel.calls k a0_0 a0_1 a0_2 _ _ l0_3 _ _ l0_4 _ _ l0_5 t251 t252 t253 t254 t257 t260 _ ?side1 ?side2 ?side3 ?side4 ?side5 ?side6 A9.out).mono ?_); (case side1 => exact Kd.C_w HR0_3 HB); (case side2 => exact HC0_3.out); (case side3 => exact Kd.C_w HR0_4 HB); (case side4 => exact HC0_4.out); (case side5 => exact Kd.C_w HR0_5 HB); (case side6 => exact HC0_5.out); rintro e w22 ⟨v255, v258, v261, rfl, ho0, ho1, ho2, hb⟩; refine ⟨_, rfl, ?_⟩; have HO256 := Kd.R_lo ho0 HB; have HO259 := Kd.R_lo ho1 HB; have HO262 := Kd.R_lo ho2 HB; replace HO249 := Aside0.mk (Kd.S_mono (Kd.S_told (Kd.S_told (Kd.S_told (Kd.S_old (by (with_reducible repeat (first | apply Kd.S_alloc | apply Kd.S_drewN | apply Kd.S_drew)); exact HO249.out) hb) (Kd.R_base ho0)) (Kd.R_base ho1)) (Kd.R_base ho2)) (fun _ h_ => h_.1)); replace BK233 := kb_ BK233 hb; replace HB := hbs_ HB hb; (try clear hb); (try clear hb2); (try clear hk); (try clear hi); (try clear ho0); (try clear ho1); (try clear ho2)) | ((with_reducible refine gate_dst (N := 6) rfl ?_); refine box_event ?hg (N := 6) ?hd (cs := #[.int .i64 0, .int .i64 0, .int .i64 0, .slice none 0 0, .slice none 0 0, .slice none 0 0]) (t := 30) ?hr ?_; (case hd => rfl); (case hg => rfl); (case hr => first | (go_simp; done) | (go_simp; rfl)); intro gb263 hg w23 hbox hb; have BK263 := Aside0.mk (hbox); have GW263 := gs_ hg HB; have GE263 := gs_ hg HB; have NB233_263 := nl_ hg BK233; have NB263_233 := ng_ hg BK233; replace HO249 := Aside0.mk (Kd.S_below (by (with_reducible repeat (first | apply Kd.S_alloc | apply Kd.S_drewN | apply Kd.S_drew)); exact HO249.out) hb); replace HO256 := Kd.R_b HO256 hb; replace HO259 := Kd.R_b HO259 hb; replace HO262 := Kd.R_b HO262 hb; replace BK233 := kb_ BK233 hb; replace HB := hbs_ HB hb; clear hb hbox hg; have hnb24 := NB263_233.out; have hnc24 := NB233_263.out; obtain ⟨hcz25_0, hcz25_1, hcz25_2, hcz25_3, hcz25_4, hcz25_5, hfz25_0, hfz25_1, hfz25_2, hfz25_3, hfz25_4, hfz25_5⟩ := bx6 BK263; obtain ⟨Ao26, co26, eo26⟩ := Kd.R_slice HO256.out; subst eo26; obtain ⟨Ao27, co27, eo27⟩ := Kd.R_slice HO259.out; subst eo27; obtain ⟨Ao28, co28, eo28⟩ := Kd.R_slice HO262.out; subst eo28) | ((with_reducible refine gate_callee (f := 20) rfl ?_); refine gl_ (some 29) Try.func20 #[.agg #[.int .i64 t251, .int .i64 t252, .int .i64 t253, .slice Ao26 t254.length co26, .slice Ao27 t257.length co27, .slice Ao28 t260.length co28]] rfl rfl rfl ?_; (with_reducible refine (impl_LevelSums.calls k t251 t252 t253 _ _ t254 _ _ t257 _ _ t260 t264 t267 _ ?side1 ?side2 ?side3 ?side4 ?side5 ?side6 A10.out).mono ?_); (case side1 => exact (Kd.R_reads' (Kd.R_s HO256 BK263)).2.2); (case side2 => exact (Kd.R_reads' HO256.out).2.1); (case side3 => exact (Kd.R_reads' (Kd.R_s HO259 BK263)).2.2); (case side4 => exact (Kd.R_reads' HO259.out).2.1); (case side5 => exact (Kd.R_reads' (Kd.R_s HO262 BK263)).2.2); (case side6 => exact (Kd.R_reads' HO262.out).2.1); rintro e w29 ⟨v265, rfl, ho0, hb⟩; refine ⟨_, rfl, ?_⟩; obtain ⟨N9, hN9⟩ := name_size hb; have HO266 := Aside0.mk (Kd.S_lower (Kd.S_new' (Kd.S_new' (Kd.S_new' (S_newN ho0 hN9 (Kd.S_lt (by (with_reducible repeat (first | apply Kd.S_alloc | apply Kd.S_drewN | apply Kd.S_drew)); exact (Kd.S_mono (Kd.S_far (p := ⟨gb263, 5, none⟩) (Kd.S_far (p := ⟨gb263, 4, none⟩) (Kd.S_far (p := ⟨gb263, 3, none⟩) (Kd.S_far (p := ⟨gb263, 2, none⟩) (Kd.S_far (p := ⟨gb263, 1, none⟩) (Kd.S_far (p := ⟨gb263, 0, none⟩) (Kd.S_types HO249.out BK263.out (by decide)) (fun _ hk => hk.2) (.int .i64 t251)) (fun _ hk => hk.2) (.int .i64 t252)) (fun _ hk => hk.2) (.int .i64 t253)) (fun _ hk => hk.2) (.slice Ao26 t254.length co26)) (fun _ hk => hk.2) (.slice Ao27 t257.length co27)) (fun _ hk => hk.2) (.slice Ao28 t260.length co28)) (fun _ h_ => h_.1))))) (Kd.R_lt (Kd.R_s HO256 BK263))) (Kd.R_lt (Kd.R_s HO259 BK263))) (Kd.R_lt (Kd.R_s HO262 BK263))) (below_size (hb_ HB))); replace HO249 := Aside0.mk (S_elderN (by (with_reducible repeat (first | apply Kd.S_alloc | apply Kd.S_drewN | apply Kd.S_drew)); exact (Kd.S_mono (Kd.S_far (p := ⟨gb263, 5, none⟩) (Kd.S_far (p := ⟨gb263, 4, none⟩) (Kd.S_far (p := ⟨gb263, 3, none⟩) (Kd.S_far (p := ⟨gb263, 2, none⟩) (Kd.S_far (p := ⟨gb263, 1, none⟩) (Kd.S_far (p := ⟨gb263, 0, none⟩) (Kd.S_types HO249.out BK263.out (by decide)) (fun _ hk => hk.2) (.int .i64 t251)) (fun _ hk => hk.2) (.int .i64 t252)) (fun _ hk => hk.2) (.int .i64 t253)) (fun _ hk => hk.2) (.slice Ao26 t254.length co26)) (fun _ hk => hk.2) (.slice Ao27 t257.length co27)) (fun _ hk => hk.2) (.slice Ao28 t260.length co28)) (fun _ h_ => h_.1))) hN9 (Kd.S_base ho0) hb); replace HO256 := Kd.R_sb HO256 BK263 hb; replace HO259 := Kd.R_sb HO259 BK263 hb; replace HO262 := Kd.R_sb HO262 BK263 hb; replace BK233 := kfb_ BK233 NB233_263 hb; replace HB := hbs_ HB hb; replace BK263 := Aside0.mk (blk_below (g := gb263) (o := .cells #[.int .i64 t251, .int .i64 t252, .int .i64 t253, .slice Ao26 t254.length co26, .slice Ao27 t257.length co27, .slice Ao28 t260.length co28] 30 (0, 0)) (kpq_ (kputs BK263 [(0, _), (1, _), (2, _), (3, _), (4, _), (5, _)])) hb); (try clear hb); (try clear hb2); (try clear hk); (try clear hi); (try clear hN9); (try clear ho0)))
  (try simp only [Act.put, List.setIfInBounds_toArray, List.set_cons_zero, List.set_cons_succ])
  go_cut [40] (fun v40 wc => ∃ (kq : Nat) (x40_10 : Bool), v40 = .bool x40_10 ∧ Aside0 (laws_FnExactLevelSums.j0 kq t247 t250 t264 t267 x40_10 a0_0 a0_1 a0_2 l0_3 l0_4 l0_5 t251 t252 t253 t254 t257 t260 = some r) ∧ Aside0 (kq ≤ k) ∧ Aside0 (Kd.S (Kd.slice 3 (Kd.int .i64)) 24 wc w.heap.size (fun k_ => LtB N9 v265 k_ ∧ some k_ ≠ ((.slice Ao26 t254.length co26) : Value).ownBlock ∧ some k_ ≠ ((.slice Ao27 t257.length co27) : Value).ownBlock ∧ some k_ ≠ ((.slice Ao28 t260.length co28) : Value).ownBlock) v248 t247) ∧ Aside0 (Kd.S (Kd.slice 3 (Kd.int .i64)) 24 wc w.heap.size (fun k_ => GeB N9 v248 k_ ∧ some k_ ≠ ((.slice Ao26 t254.length co26) : Value).ownBlock ∧ some k_ ≠ ((.slice Ao27 t257.length co27) : Value).ownBlock ∧ some k_ ≠ ((.slice Ao28 t260.length co28) : Value).ownBlock) v265 t264) ∧ Aside0 (Kd.R (Kd.int .i64) 3 wc w.heap.size (fun k_ => some k_ ≠ ((.slice Ao27 t257.length co27) : Value).ownBlock ∧ some k_ ≠ ((.slice Ao28 t260.length co28) : Value).ownBlock) (.slice Ao26 t254.length co26) t254) ∧ Aside0 (Kd.R (Kd.int .i64) 3 wc w.heap.size (fun k_ => some k_ ≠ ((.slice Ao26 t254.length co26) : Value).ownBlock ∧ some k_ ≠ ((.slice Ao28 t260.length co28) : Value).ownBlock) (.slice Ao27 t257.length co27) t257) ∧ Aside0 (Kd.R (Kd.int .i64) 3 wc w.heap.size (fun k_ => some k_ ≠ ((.slice Ao26 t254.length co26) : Value).ownBlock ∧ some k_ ≠ ((.slice Ao27 t257.length co27) : Value).ownBlock) (.slice Ao28 t260.length co28) t260) ∧ Aside0 (wc.heap[gb233]? = some (.cells #[.int .i64 a0_0, .int .i64 a0_1, .int .i64 a0_2, (.slice A0_3 l0_3.length c0_3), (.slice A0_4 l0_4.length c0_4), (.slice A0_5 l0_5.length c0_5)] 26 (0, 0))) ∧ Aside0 (wc.heap[gb263]? = some (.cells #[.int .i64 t251, .int .i64 t252, .int .i64 t253, (.slice Ao26 t254.length co26), (.slice Ao27 t257.length co27), (.slice Ao28 t260.length co28)] 30 (0, 0))) ∧ Aside0 (Below w.heap.size w wc))
  case first =>
   have H := HC11.out
   clear HC11
   replace H := Option.bind_eq_some_iff.mp H
   obtain ⟨t268, A300, H⟩ := H
   replace H : (if t268 = true then (laws_FnExactLevelSums.j0 k t247 t250 t264 t267 (t267 != t250) a0_0 a0_1 a0_2 l0_3 l0_4 l0_5 t251 t252 t253 t254 t257 t260) else (laws_FnExactLevelSums.j0 k t247 t250 t264 t267 true a0_0 a0_1 a0_2 l0_3 l0_4 l0_5 t251 t252 t253 t254 t257 t260)) = some r := H
   have A30 := Aside0.mk A300
   clear A300
   by_cases c31 : t268 = true
   ·subst c31
    have H1 : (laws_FnExactLevelSums.j0 k t247 t250 t264 t267 (t267 != t250) a0_0 a0_1 a0_2 l0_3 l0_4 l0_5 t251 t252 t253 t254 t257 t260) = some r := by rw [if_pos rfl] at H; exact H
    clear H
    have H := H1
    clear H1
    have H' := Aside0.mk H
    clear H
    obtain ⟨Ao32, co32, eo32⟩ := Kd.S_slice HO266.out
    subst eo32
    obtain ⟨Ao33, co33, eo33⟩ := Kd.S_slice HO249.out
    subst eo33
    go_wp2_with (first | ((with_reducible refine gate_callee (f := 21) rfl ?_); refine gl_ (some 34) Try.func21 #[.slice Ao32 t264.length co32, .slice Ao33 t247.length co33] rfl rfl rfl ?_; (with_reducible refine (laws_eqIntSS.calls k _ _ t264 _ _ t247 true _ ?side1 ?side2 ?side3 ?side4 A30.out).mono ?_); (case side1 => repeat (first | exact (Kd.S_reads' HO266.out).2.2 | (with_reducible refine Kd.C_alloc ?_ _) | (with_reducible refine Kd.C_drewN ?_ _) | (with_reducible refine Kd.C_drew ?_))); (case side2 => exact (Kd.S_reads' HO266.out).2.1); (case side3 => repeat (first | exact (Kd.S_reads' HO249.out).2.2 | (with_reducible refine Kd.C_alloc ?_ _) | (with_reducible refine Kd.C_drewN ?_ _) | (with_reducible refine Kd.C_drew ?_))); (case side4 => exact (Kd.S_reads' HO249.out).2.1); rintro e w' ⟨rfl, ⟨nd, rfl⟩⟩; refine ⟨_, rfl, ?_⟩))
    go_meet
    case rel => exact ⟨_, ((t267 != t250)), (by first | rfl | (simp; done) | (simp [*]; done)), H', ⟨by first | omega | exact Nat.le_refl _⟩, ⟨by (with_reducible repeat (first | apply Kd.S_alloc | apply Kd.S_drewN | apply Kd.S_drew)); exact Kd.S_mono HO249.out (fun _ hk => ⟨hk.2, ⟨hk.1.1.1.2, ⟨hk.1.1.2, hk.1.2⟩⟩⟩)⟩, ⟨by (with_reducible repeat (first | apply Kd.S_alloc | apply Kd.S_drewN | apply Kd.S_drew)); exact Kd.S_mono HO266.out (fun _ hk => ⟨hk.1.1.1.2, ⟨hk.1.1.2, ⟨hk.1.2, hk.2⟩⟩⟩)⟩, ⟨Kd.R_p HO256⟩, ⟨Kd.R_p HO259⟩, ⟨Kd.R_p HO262⟩, ⟨kp_ BK233⟩, ⟨kp_ BK263⟩, ⟨hb_ HB⟩⟩
   ·replace c31 := Bool.eq_false_iff.mpr c31
    subst c31
    have H1 : (laws_FnExactLevelSums.j0 k t247 t250 t264 t267 true a0_0 a0_1 a0_2 l0_3 l0_4 l0_5 t251 t252 t253 t254 t257 t260) = some r := by rw [if_neg (show ¬ (false = true) by decide)] at H; exact H
    clear H
    have H := H1
    clear H1
    have H' := Aside0.mk H
    clear H
    obtain ⟨Ao34, co34, eo34⟩ := Kd.S_slice HO266.out
    subst eo34
    obtain ⟨Ao35, co35, eo35⟩ := Kd.S_slice HO249.out
    subst eo35
    go_wp2_with (first | ((with_reducible refine gate_callee (f := 21) rfl ?_); refine gl_ (some 34) Try.func21 #[.slice Ao34 t264.length co34, .slice Ao35 t247.length co35] rfl rfl rfl ?_; (with_reducible refine (laws_eqIntSS.calls k _ _ t264 _ _ t247 false _ ?side1 ?side2 ?side3 ?side4 A30.out).mono ?_); (case side1 => repeat (first | exact (Kd.S_reads' HO266.out).2.2 | (with_reducible refine Kd.C_alloc ?_ _) | (with_reducible refine Kd.C_drewN ?_ _) | (with_reducible refine Kd.C_drew ?_))); (case side2 => exact (Kd.S_reads' HO266.out).2.1); (case side3 => repeat (first | exact (Kd.S_reads' HO249.out).2.2 | (with_reducible refine Kd.C_alloc ?_ _) | (with_reducible refine Kd.C_drewN ?_ _) | (with_reducible refine Kd.C_drew ?_))); (case side4 => exact (Kd.S_reads' HO249.out).2.1); rintro e w' ⟨rfl, ⟨nd, rfl⟩⟩; refine ⟨_, rfl, ?_⟩))
    go_meet
    case rel => exact ⟨_, (true), (by first | rfl | (simp; done) | (simp [*]; done)), H', ⟨by first | omega | exact Nat.le_refl _⟩, ⟨by (with_reducible repeat (first | apply Kd.S_alloc | apply Kd.S_drewN | apply Kd.S_drew)); exact Kd.S_mono HO249.out (fun _ hk => ⟨hk.2, ⟨hk.1.1.1.2, ⟨hk.1.1.2, hk.1.2⟩⟩⟩)⟩, ⟨by (with_reducible repeat (first | apply Kd.S_alloc | apply Kd.S_drewN | apply Kd.S_drew)); exact Kd.S_mono HO266.out (fun _ hk => ⟨hk.1.1.1.2, ⟨hk.1.1.2, ⟨hk.1.2, hk.2⟩⟩⟩)⟩, ⟨Kd.R_p HO256⟩, ⟨Kd.R_p HO259⟩, ⟨Kd.R_p HO262⟩, ⟨kp_ BK233⟩, ⟨kp_ BK263⟩, ⟨hb_ HB⟩⟩
  case rest =>
   clear HC11
   (try clear c1); (try clear c2); (try clear p2); (try clear c3); (try clear c3b0); (try clear c5); (try clear c7); (try clear c9); (try clear c19); (try clear c20); (try clear c21); (try clear c24); (try clear c31); (try clear hcz13_0); (try clear hcz13_1); (try clear hcz13_2); (try clear hcz13_3); (try clear hcz13_4); (try clear hcz13_5); (try clear hcz15_0); (try clear hcz15_1); (try clear hcz15_2); (try clear hcz15_3); (try clear hcz15_4); (try clear hcz15_5); (try clear hcz21_0); (try clear hcz21_1); (try clear hcz21_2); (try clear hcz21_3); (try clear hcz21_4); (try clear hcz21_5); (try clear hcz25_0); (try clear hcz25_1); (try clear hcz25_2); (try clear hcz25_3); (try clear hcz25_4); (try clear hcz25_5); (try clear hfz13_0); (try clear hfz13_1); (try clear hfz13_2); (try clear hfz13_3); (try clear hfz13_4); (try clear hfz13_5); (try clear hfz15_0); (try clear hfz15_1); (try clear hfz15_2); (try clear hfz15_3); (try clear hfz15_4); (try clear hfz15_5); (try clear hfz21_0); (try clear hfz21_1); (try clear hfz21_2); (try clear hfz21_3); (try clear hfz21_4); (try clear hfz21_5); (try clear hfz25_0); (try clear hfz25_1); (try clear hfz25_2); (try clear hfz25_3); (try clear hfz25_4); (try clear hfz25_5)
   obtain ⟨kq, x40_10, rfl, HA, HJ10, HO_4, HO_7, HO_264003, HO_264004, HO_264005, BK233, BK263, HB⟩ := hcut
   cases kq with
   | zero => exact absurd HA.out (by simp [laws_FnExactLevelSums.j0])
   | succ kj10 =>
    have H := HA.out
    clear HA
    simp only [laws_FnExactLevelSums.j0] at H
    by_cases c36 : x40_10 = true
    ·subst c36
     have H1 : (some false) = some r := by rw [if_pos rfl] at H; exact H
     clear H
     have H := H1
     clear H1
     obtain rfl := Option.some.inj H
     go_wp2
     go_ret
     exact ⟨by first | rfl | (simp [errW_none, errW_some] <;> rfl) | (simp [*, errW_none, errW_some] <;> rfl), hb_ HB⟩
    ·replace c36 := Bool.eq_false_iff.mpr c36
     subst c36
     have H1 : ((laws_toModel.f kj10 a0_0 a0_1 a0_2 l0_3 l0_4 l0_5).bind fun bt269 => ((laws_eqModel.f kj10 t251 t252 t253 t254 t257 t260 bt269.1 bt269.2.1 bt269.2.2.1 bt269.2.2.2.1 bt269.2.2.2.2.1 bt269.2.2.2.2.2).bind fun t281 => (if t281 = true then ((laws_markModel.f kj10 t251 t252 t253 t254 t257 t260 1).bind fun bt282 => (if bt282.1 < 0 then (laws_FnExactLevelSums.j1 kj10 t247 t250 t264 true a0_0 a0_1 a0_2 l0_3 l0_4 l0_5) else ((laws_eqIntSS.f kj10 t264 t247).bind fun t286 => (if t286 = true then (laws_FnExactLevelSums.j1 kj10 t247 t250 t264 (t267 != t250) a0_0 a0_1 a0_2 l0_3 l0_4 l0_5) else (laws_FnExactLevelSums.j1 kj10 t247 t250 t264 true a0_0 a0_1 a0_2 l0_3 l0_4 l0_5))))) else (some false)))) = some r := by rw [if_neg (show ¬ (false = true) by decide)] at H; exact H
     clear H
     have H := H1
     clear H1
     replace H := Option.bind_eq_some_iff.mp H
     obtain ⟨⟨t269, t270, t271, t272, t275, t278⟩, A370, H⟩ := H
     replace H : ((laws_eqModel.f kj10 t251 t252 t253 t254 t257 t260 t269 t270 t271 t272 t275 t278).bind fun t281 => (if t281 = true then ((laws_markModel.f kj10 t251 t252 t253 t254 t257 t260 1).bind fun bt282 => (if bt282.1 < 0 then (laws_FnExactLevelSums.j1 kj10 t247 t250 t264 true a0_0 a0_1 a0_2 l0_3 l0_4 l0_5) else ((laws_eqIntSS.f kj10 t264 t247).bind fun t286 => (if t286 = true then (laws_FnExactLevelSums.j1 kj10 t247 t250 t264 (t267 != t250) a0_0 a0_1 a0_2 l0_3 l0_4 l0_5) else (laws_FnExactLevelSums.j1 kj10 t247 t250 t264 true a0_0 a0_1 a0_2 l0_3 l0_4 l0_5))))) else (some false))) = some r := H
     have A37 := Aside0.mk A370
     clear A370
     replace H := Option.bind_eq_some_iff.mp H
     obtain ⟨t281, A380, H⟩ := H
     replace H : (if t281 = true then ((laws_markModel.f kj10 t251 t252 t253 t254 t257 t260 1).bind fun bt282 => (if bt282.1 < 0 then (laws_FnExactLevelSums.j1 kj10 t247 t250 t264 true a0_0 a0_1 a0_2 l0_3 l0_4 l0_5) else ((laws_eqIntSS.f kj10 t264 t247).bind fun t286 => (if t286 = true then (laws_FnExactLevelSums.j1 kj10 t247 t250 t264 (t267 != t250) a0_0 a0_1 a0_2 l0_3 l0_4 l0_5) else (laws_FnExactLevelSums.j1 kj10 t247 t250 t264 true a0_0 a0_1 a0_2 l0_3 l0_4 l0_5))))) else (some false)) = some r := H
     have A38 := Aside0.mk A380
     clear A380
     by_cases c39 : t281 = true
     ·subst c39
      have H1 : ((laws_markModel.f kj10 t251 t252 t253 t254 t257 t260 1).bind fun bt282 => (if bt282.1 < 0 then (laws_FnExactLevelSums.j1 kj10 t247 t250 t264 true a0_0 a0_1 a0_2 l0_3 l0_4 l0_5) else ((laws_eqIntSS.f kj10 t264 t247).bind fun t286 => (if t286 = true then (laws_FnExactLevelSums.j1 kj10 t247 t250 t264 (t267 != t250) a0_0 a0_1 a0_2 l0_3 l0_4 l0_5) else (laws_FnExactLevelSums.j1 kj10 t247 t250 t264 true a0_0 a0_1 a0_2 l0_3 l0_4 l0_5))))) = some r := by rw [if_pos rfl] at H; exact H
      clear H
      have H := H1
      clear H1
      replace H := Option.bind_eq_some_iff.mp H
      obtain ⟨⟨t282, t283, t284, t285⟩, A400, H⟩ := H
      replace H : (if t282 < 0 then (laws_FnExactLevelSums.j1 kj10 t247 t250 t264 true a0_0 a0_1 a0_2 l0_3 l0_4 l0_5) else ((laws_eqIntSS.f kj10 t264 t247).bind fun t286 => (if t286 = true then (laws_FnExactLevelSums.j1 kj10 t247 t250 t264 (t267 != t250) a0_0 a0_1 a0_2 l0_3 l0_4 l0_5) else (laws_FnExactLevelSums.j1 kj10 t247 t250 t264 true a0_0 a0_1 a0_2 l0_3 l0_4 l0_5)))) = some r := H
      have A40 := Aside0.mk A400
      clear A400
      have HC41 := Aside0.mk H
      clear H
      try go_wp2
      have n0_ := Aside0.mk (Kd.S_drew HO_4.out)
      have n1_ := Aside0.mk (Kd.S_drew HO_7.out)
      have n2_ := Aside0.mk (Kd.R_drew HO_264003.out)
      have n3_ := Aside0.mk (Kd.R_drew HO_264004.out)
      have n4_ := Aside0.mk (Kd.R_drew HO_264005.out)
      have n5_ := Aside0.mk (blk_drew BK233.out)
      have n6_ := Aside0.mk (blk_drew BK263.out)
      have n7_ := Aside0.mk (below_drew1 HB.out)
      clear HO_4
      clear HO_7
      clear HO_264003
      clear HO_264004
      clear HO_264005
      clear BK233
      clear BK263
      clear HB
      have HO_4 := n0_
      have HO_7 := n1_
      have HO_264003 := n2_
      have HO_264004 := n3_
      have HO_264005 := n4_
      have BK233 := n5_
      have BK263 := n6_
      have HB := n7_
      clear n0_ n1_ n2_ n3_ n4_ n5_ n6_ n7_
      refine start_ (n := 5) (S := fun w' => w'.cell? ⟨gb263, 0, none⟩ = some (.int .i64 t251) ∧ w'.cell? ⟨gb263, 1, none⟩ = some (.int .i64 t252) ∧ w'.cell? ⟨gb263, 2, none⟩ = some (.int .i64 t253) ∧ w'.cell? ⟨gb263, 3, none⟩ = some (.slice Ao26 t254.length co26) ∧ w'.cell? ⟨gb263, 4, none⟩ = some (.slice Ao27 t257.length co27) ∧ w'.cell? ⟨gb263, 5, none⟩ = some (.slice Ao28 t260.length co28) ∧ w'.cell? ⟨gb233, 0, none⟩ = some (.int .i64 a0_0) ∧ w'.cell? ⟨gb233, 1, none⟩ = some (.int .i64 a0_1) ∧ w'.cell? ⟨gb233, 2, none⟩ = some (.int .i64 a0_2) ∧ w'.cell? ⟨gb233, 3, none⟩ = some (.slice A0_3 l0_3.length c0_3) ∧ w'.cell? ⟨gb233, 4, none⟩ = some (.slice A0_4 l0_4.length c0_4) ∧ w'.cell? ⟨gb233, 5, none⟩ = some (.slice A0_5 l0_5.length c0_5)) (ds := []) #[false, false, false, false, false] (by kernel_rfl) rfl rfl ⟨(blk_cell BK263.out 0).trans rfl, (blk_cell BK263.out 1).trans rfl, (blk_cell BK263.out 2).trans rfl, (blk_cell BK263.out 3).trans rfl, (blk_cell BK263.out 4).trans rfl, (blk_cell BK263.out 5).trans rfl, (blk_cell BK233.out 0).trans rfl, (blk_cell BK233.out 1).trans rfl, (blk_cell BK233.out 2).trans rfl, (blk_cell BK233.out 3).trans rfl, (blk_cell BK233.out 4).trans rfl, (blk_cell BK233.out 5).trans rfl⟩ (fun hHeld => ?_)
      generalize wc.drew = w42 at HO_4 HO_7 HO_264003 HO_264004 HO_264005 BK233 BK263 HB hHeld ⊢
      refine take_ (i := 0) (N := some 41) (v := ?_) (a' := ?_) #[true, false, false, false, false] rfl rfl (by kernel_rfl) (fun _ _ _ h => h) (Or.inl ⟨by rfl, ?_⟩) hHeld ?_ ?_
      rotate_left
      ·rintro w' ⟨s0, s1, s2, s3, s4, s5, s6, s7, s8, s9, s10, s11⟩
       go_simp
       with_reducible rfl
      rotate_left
      ·simp only [Act.put, List.setIfInBounds_toArray, List.set_cons_zero, List.set_cons_succ, i64_w, i32_w]
       rfl
      refine take_ (i := 1) (N := some 42) (v := ?_) (a' := ?_) #[true, true, false, false, false] rfl rfl (by kernel_rfl) (fun _ _ _ h => h) (Or.inl ⟨by rfl, ?_⟩) hHeld ?_ ?_
      rotate_left
      ·rintro w' ⟨s0, s1, s2, s3, s4, s5, s6, s7, s8, s9, s10, s11⟩
       go_simp
       with_reducible rfl
      rotate_left
      ·simp only [Act.put, List.setIfInBounds_toArray, List.set_cons_zero, List.set_cons_succ, i64_w, i32_w]
       rfl
      refine one_ (i := 2) (N := some 43) #[true, true, true, false, false] rfl rfl (by kernel_rfl) (by decide) (fun K hK => ?_)
      refine goes_ Try.func9 (by kernel_rfl) rfl #[.agg #[.int .i64 a0_0, .int .i64 a0_1, .int .i64 a0_2, .slice A0_3 l0_3.length c0_3, .slice A0_4 l0_4.length c0_4, .slice A0_5 l0_5.length c0_5]] (by rfl) rfl rfl (by (try simp only [List.map_toArray, List.map_cons, List.map_nil]); first | done | rfl | (simp only [List.length_drop, List.length_take]; rfl)) ?_
      with_reducible refine (laws_toModel.calls kj10 a0_0 a0_1 a0_2 _ _ l0_3 _ _ l0_4 _ _ l0_5 t269 t270 t271 t272 t275 t278 _ ?side1 ?side2 ?side3 ?side4 ?side5 ?side6 A37.out).mono ?_
      (case side1 => exact Kd.C_w HR0_3 HB)
      (case side2 => exact HC0_3.out)
      (case side3 => exact Kd.C_w HR0_4 HB)
      (case side4 => exact HC0_4.out)
      (case side5 => exact Kd.C_w HR0_5 HB)
      (case side6 => exact HC0_5.out)
      rintro e w43 ⟨v273, v276, v279, rfl, ho0, ho1, ho2, hb⟩
      refine ⟨_, rfl, ?_⟩
      have n0_ := Aside0.mk (Kd.S_mono (Kd.S_told (Kd.S_told (Kd.S_told (Kd.S_old (by (with_reducible repeat (first | apply Kd.S_alloc | apply Kd.S_drewN | apply Kd.S_drew)); exact HO_4.out) hb) (Kd.R_base ho0)) (Kd.R_base ho1)) (Kd.R_base ho2)) (fun _ h_ => h_.1))
      have n1_ := Aside0.mk (Kd.S_mono (Kd.S_told (Kd.S_told (Kd.S_told (Kd.S_old (by (with_reducible repeat (first | apply Kd.S_alloc | apply Kd.S_drewN | apply Kd.S_drew)); exact HO_7.out) hb) (Kd.R_base ho0)) (Kd.R_base ho1)) (Kd.R_base ho2)) (fun _ h_ => h_.1))
      have n2_ := Aside0.mk (Kd.R_mono (Kd.R_told (Kd.R_told (Kd.R_told (Kd.R_old (Kd.R_p HO_264003) hb) (Kd.R_base ho0)) (Kd.R_base ho1)) (Kd.R_base ho2)) (fun _ h_ => h_.1))
      have n3_ := Aside0.mk (Kd.R_mono (Kd.R_told (Kd.R_told (Kd.R_told (Kd.R_old (Kd.R_p HO_264004) hb) (Kd.R_base ho0)) (Kd.R_base ho1)) (Kd.R_base ho2)) (fun _ h_ => h_.1))
      have n4_ := Aside0.mk (Kd.R_mono (Kd.R_told (Kd.R_told (Kd.R_told (Kd.R_old (Kd.R_p HO_264005) hb) (Kd.R_base ho0)) (Kd.R_base ho1)) (Kd.R_base ho2)) (fun _ h_ => h_.1))
      have n5_ := Aside0.mk (Kd.R_lower (Kd.R_nw (Kd.R_nw (Kd.R_nw ho0 HO_264003) HO_264004) HO_264005) (below_size (hb_ HB)))
      have n6_ := Aside0.mk (Kd.R_lower (Kd.R_nw (Kd.R_nw (Kd.R_nw ho1 HO_264003) HO_264004) HO_264005) (below_size (hb_ HB)))
      have n7_ := Aside0.mk (Kd.R_lower (Kd.R_nw (Kd.R_nw (Kd.R_nw ho2 HO_264003) HO_264004) HO_264005) (below_size (hb_ HB)))
      have n8_ := Aside0.mk (blk_below (kp_ BK233) hb)
      have n9_ := Aside0.mk (blk_below (kp_ BK263) hb)
      have n10_ := Aside0.mk (below_step (hb_ HB) hb)
      clear HO_4
      clear HO_7
      clear HO_264003
      clear HO_264004
      clear HO_264005
      clear BK233
      clear BK263
      clear HB
      have HO_4 := n0_
      have HO_7 := n1_
      have HO_264003 := n2_
      have HO_264004 := n3_
      have HO_264005 := n4_
      have HO274 := n5_
      have HO277 := n6_
      have HO280 := n7_
      have BK233 := n8_
      have BK263 := n9_
      have HB := n10_
      clear n0_ n1_ n2_ n3_ n4_ n5_ n6_ n7_ n8_ n9_ n10_
      (try clear hb)
      (try clear hb2)
      (try clear hk)
      (try clear hi)
      (try clear ho0)
      (try clear ho1)
      (try clear ho2)
      obtain ⟨Ao44, co44, eo44⟩ := Kd.R_slice HO274.out
      (first | subst eo44 | (injection eo44 with f1_ f2_ f3_; have f4_ := f1_.symm; have f5_ := f3_.symm; clear f1_ f2_ f3_; subst f4_; subst f5_))
      obtain ⟨Ao45, co45, eo45⟩ := Kd.R_slice HO277.out
      (first | subst eo45 | (injection eo45 with f1_ f2_ f3_; have f4_ := f1_.symm; have f5_ := f3_.symm; clear f1_ f2_ f3_; subst f4_; subst f5_))
      obtain ⟨Ao46, co46, eo46⟩ := Kd.R_slice HO280.out
      (first | subst eo46 | (injection eo46 with f1_ f2_ f3_; have f4_ := f1_.symm; have f5_ := f3_.symm; clear f1_ f2_ f3_; subst f4_; subst f5_))
      refine hK.out _ _ ⟨(blk_cell BK263.out 0).trans rfl, (blk_cell BK263.out 1).trans rfl, (blk_cell BK263.out 2).trans rfl, (blk_cell BK263.out 3).trans rfl, (blk_cell BK263.out 4).trans rfl, (blk_cell BK263.out 5).trans rfl, (blk_cell BK233.out 0).trans rfl, (blk_cell BK233.out 1).trans rfl, (blk_cell BK233.out 2).trans rfl, (blk_cell BK233.out 3).trans rfl, (blk_cell BK233.out 4).trans rfl, (blk_cell BK233.out 5).trans rfl⟩ (fun hHeld => ?_)
      clear hK K
      refine norm_ (a' := ?_) ?_ ?_
      rotate_left
      ·show Act.put _ (some 43) _ = _
       simp only [Act.put, List.setIfInBounds_toArray, List.set_cons_zero, List.set_cons_succ, i64_w, i32_w]
       rfl
      refine one_ (i := 3) (N := some 44) #[true, true, true, true, false] rfl rfl (by kernel_rfl) (by decide) (fun K hK => ?_)
      refine goes_ Try.func11 (by kernel_rfl) rfl #[.agg #[.int .i64 t251, .int .i64 t252, .int .i64 t253, .slice Ao26 t254.length co26, .slice Ao27 t257.length co27, .slice Ao28 t260.length co28], .agg #[.int .i64 t269, .int .i64 t270, .int .i64 t271, .slice Ao44 t272.length co44, .slice Ao45 t275.length co45, .slice Ao46 t278.length co46]] (by rfl) rfl rfl (by (try simp only [List.map_toArray, List.map_cons, List.map_nil]); first | done | rfl | (simp only [List.length_drop, List.length_take]; rfl)) ?_
      with_reducible refine (laws_eqModel.calls kj10 t251 t252 t253 _ _ t254 _ _ t257 _ _ t260 t269 t270 t271 _ _ t272 _ _ t275 _ _ t278 true _ ?side1 ?side2 ?side3 ?side4 ?side5 ?side6 ?side7 ?side8 ?side9 ?side10 ?side11 ?side12 A38.out).mono ?_
      (case side1 => exact Kd.C_o HO_264003)
      (case side2 => exact (Kd.R_reads' HO_264003.out).2.1)
      (case side3 => exact Kd.C_o HO_264004)
      (case side4 => exact (Kd.R_reads' HO_264004.out).2.1)
      (case side5 => exact Kd.C_o HO_264005)
      (case side6 => exact (Kd.R_reads' HO_264005.out).2.1)
      (case side7 => exact Kd.C_o HO274)
      (case side8 => exact (Kd.R_reads' HO274.out).2.1)
      (case side9 => exact Kd.C_o HO277)
      (case side10 => exact (Kd.R_reads' HO277.out).2.1)
      (case side11 => exact Kd.C_o HO280)
      (case side12 => exact (Kd.R_reads' HO280.out).2.1)
      rintro e w47 ⟨rfl, hb⟩
      refine ⟨_, rfl, ?_⟩
      have n0_ := Aside0.mk (Kd.S_below (by (with_reducible repeat (first | apply Kd.S_alloc | apply Kd.S_drewN | apply Kd.S_drew)); exact HO_4.out) hb)
      have n1_ := Aside0.mk (Kd.S_below (by (with_reducible repeat (first | apply Kd.S_alloc | apply Kd.S_drewN | apply Kd.S_drew)); exact HO_7.out) hb)
      have n2_ := Aside0.mk (Kd.R_below (Kd.R_p HO_264003) hb)
      have n3_ := Aside0.mk (Kd.R_below (Kd.R_p HO_264004) hb)
      have n4_ := Aside0.mk (Kd.R_below (Kd.R_p HO_264005) hb)
      have n5_ := Aside0.mk (Kd.R_below (Kd.R_p HO274) hb)
      have n6_ := Aside0.mk (Kd.R_below (Kd.R_p HO277) hb)
      have n7_ := Aside0.mk (Kd.R_below (Kd.R_p HO280) hb)
      have n8_ := Aside0.mk (blk_below (kp_ BK233) hb)
      have n9_ := Aside0.mk (blk_below (kp_ BK263) hb)
      have n10_ := Aside0.mk (below_step (hb_ HB) hb)
      clear HO_4
      clear HO_7
      clear HO_264003
      clear HO_264004
      clear HO_264005
      clear HO274
      clear HO277
      clear HO280
      clear BK233
      clear BK263
      clear HB
      have HO_4 := n0_
      have HO_7 := n1_
      have HO_264003 := n2_
      have HO_264004 := n3_
      have HO_264005 := n4_
      have HO274 := n5_
      have HO277 := n6_
      have HO280 := n7_
      have BK233 := n8_
      have BK263 := n9_
      have HB := n10_
      clear n0_ n1_ n2_ n3_ n4_ n5_ n6_ n7_ n8_ n9_ n10_
      (try clear hb)
      (try clear hb2)
      (try clear hk)
      (try clear hi)
      refine hK.out _ _ ⟨(blk_cell BK263.out 0).trans rfl, (blk_cell BK263.out 1).trans rfl, (blk_cell BK263.out 2).trans rfl, (blk_cell BK263.out 3).trans rfl, (blk_cell BK263.out 4).trans rfl, (blk_cell BK263.out 5).trans rfl, (blk_cell BK233.out 0).trans rfl, (blk_cell BK233.out 1).trans rfl, (blk_cell BK233.out 2).trans rfl, (blk_cell BK233.out 3).trans rfl, (blk_cell BK233.out 4).trans rfl, (blk_cell BK233.out 5).trans rfl⟩ (fun hHeld => ?_)
      clear hK K
      refine norm_ (a' := ?_) ?_ ?_
      rotate_left
      ·show Act.put _ (some 44) _ = _
       simp only [Act.put, List.setIfInBounds_toArray, List.set_cons_zero, List.set_cons_succ, i64_w, i32_w]
       rfl
      refine pure_ (i := 4) (N := some 45) (v := ?_) (a' := ?_) #[true, true, true, true, true] rfl rfl (by kernel_rfl) (fun _ _ _ h => h) (Or.inl ⟨by rfl, ?_⟩) ?_ ?_
      rotate_left
      ·intro w'
       go_simp
       with_reducible rfl
      rotate_left
      ·simp only [Act.put, List.setIfInBounds_toArray, List.set_cons_zero, List.set_cons_succ, i64_w, i32_w]
       rfl
      refine done_ (by kernel_rfl) ?_
      have hnb48 := NB263_233.out
      have hnc48 := NB233_263.out
      have hcz49_0 : w47.cell? ⟨gb263, 0, none⟩ = some (.int .i64 t251) := (blk_cell BK263.out 0).trans rfl
      have hcz49_1 : w47.cell? ⟨gb263, 1, none⟩ = some (.int .i64 t252) := (blk_cell BK263.out 1).trans rfl
      have hcz49_2 : w47.cell? ⟨gb263, 2, none⟩ = some (.int .i64 t253) := (blk_cell BK263.out 2).trans rfl
      have hcz49_3 : w47.cell? ⟨gb263, 3, none⟩ = some (.slice Ao26 t254.length co26) := (blk_cell BK263.out 3).trans rfl
      have hcz49_4 : w47.cell? ⟨gb263, 4, none⟩ = some (.slice Ao27 t257.length co27) := (blk_cell BK263.out 4).trans rfl
      have hcz49_5 : w47.cell? ⟨gb263, 5, none⟩ = some (.slice Ao28 t260.length co28) := (blk_cell BK263.out 5).trans rfl
      have hfz49_0 := blk_frozen BK263.out 0
      have hfz49_1 := blk_frozen BK263.out 1
      have hfz49_2 := blk_frozen BK263.out 2
      have hfz49_3 := blk_frozen BK263.out 3
      have hfz49_4 := blk_frozen BK263.out 4
      have hfz49_5 := blk_frozen BK263.out 5
      (try clear HO274); (try clear HO277); (try clear HO280)
      go_upto_region 14 with (first | ((with_reducible refine gate_callee (f := 12) rfl ?_); refine gl_ (some 48) Try.func12 #[.agg #[.int .i64 t251, .int .i64 t252, .int .i64 t253, .slice Ao26 t254.length co26, .slice Ao27 t257.length co27, .slice Ao28 t260.length co28], .int .i64 1] rfl rfl rfl ?_; (with_reducible refine (laws_markModel.calls kj10 t251 t252 t253 (fun k_ => some k_ = (.slice Ao26 t254.length co26 : Value).ownBlock) (.slice Ao26 t254.length co26) t254 (fun k_ => some k_ = (.slice Ao27 t257.length co27 : Value).ownBlock) (.slice Ao27 t257.length co27) t257 (fun k_ => some k_ = (.slice Ao28 t260.length co28 : Value).ownBlock) (.slice Ao28 t260.length co28) t260 1 t282 t283 t284 t285 w _ ?side1 ?side2 ?side3 ?side4 ?side5 ?side6 ?side7 ?side8 ?side9 ?side10 A40.out).mono ?_); (case side1 => exact hb_ HB); (case side2 => exact Kd.R_tight rfl HO_264003.out); (case side3 => exact fun k_ e_ => (HO_264003.out.1 k_ e_.symm).1.1.1.1); (case side4 => exact fun k_ e_ => (HO_264003.out.1 k_ e_.symm).1.1.1.2); (case side5 => exact Kd.R_tight rfl HO_264004.out); (case side6 => exact fun k_ e_ => (HO_264004.out.1 k_ e_.symm).1.1.1.1); (case side7 => exact fun k_ e_ => (HO_264004.out.1 k_ e_.symm).1.1.1.2); (case side8 => exact Kd.R_tight rfl HO_264005.out); (case side9 => exact fun k_ e_ => (HO_264005.out.1 k_ e_.symm).1.1.1.1); (case side10 => exact fun k_ e_ => (HO_264005.out.1 k_ e_.symm).1.1.1.2); rintro e w50 ⟨rfl, hy0, hy1, hy2, hb, hkp⟩; refine ⟨_, rfl, ?_⟩; replace HO_4 := Aside0.mk (Kd.S_mono (ok' := fun k_ => LtB N9 v265 k_ ∧ some k_ ≠ (.slice Ao26 t254.length co26 : Value).ownBlock ∧ some k_ ≠ (.slice Ao27 t257.length co27 : Value).ownBlock ∧ some k_ ≠ (.slice Ao28 t260.length co28 : Value).ownBlock) (Kd.S_keptB (HO_4.out) hkp (fun k_ hk_ hs_ => Or.elim hs_ (fun e_ => (hk_.1.1.1.2.1) e_) (fun e_ => Or.elim e_ (fun e_ => (hk_.1.1.1.2.2.1) e_) (fun e_ => (hk_.1.1.1.2.2.2) e_)))) (fun k_ hk_ => ⟨hk_.1.1.1.1.1, hk_.1.1.1.1.2.1, hk_.1.1.1.1.2.2.1, hk_.1.1.1.1.2.2.2⟩)); replace HO_7 := Aside0.mk (Kd.S_mono (ok' := fun k_ => GeB N9 v248 k_ ∧ some k_ ≠ (.slice Ao26 t254.length co26 : Value).ownBlock ∧ some k_ ≠ (.slice Ao27 t257.length co27 : Value).ownBlock ∧ some k_ ≠ (.slice Ao28 t260.length co28 : Value).ownBlock) (Kd.S_keptB (HO_7.out) hkp (fun k_ hk_ hs_ => Or.elim hs_ (fun e_ => (hk_.1.1.1.2.1) e_) (fun e_ => Or.elim e_ (fun e_ => (hk_.1.1.1.2.2.1) e_) (fun e_ => (hk_.1.1.1.2.2.2) e_)))) (fun k_ hk_ => ⟨hk_.1.1.1.1.1, hk_.1.1.1.1.2.1, hk_.1.1.1.1.2.2.1, hk_.1.1.1.1.2.2.2⟩)); replace BK233 := Aside0.mk (blk_kept (kp_ BK233) hkp (fun hs_ => Or.elim hs_ (fun e_ => (fun e_ => (Kd.R_ne HO_264003.out BK233.out (by decide)) e_) e_) (fun e_ => Or.elim e_ (fun e_ => (fun e_ => (Kd.R_ne HO_264004.out BK233.out (by decide)) e_) e_) (fun e_ => (fun e_ => (Kd.R_ne HO_264005.out BK233.out (by decide)) e_) e_)))); replace BK263 := Aside0.mk (blk_kept (kp_ BK263) hkp (fun hs_ => Or.elim hs_ (fun e_ => (fun e_ => (Kd.R_ne HO_264003.out BK263.out (by decide)) e_) e_) (fun e_ => Or.elim e_ (fun e_ => (fun e_ => (Kd.R_ne HO_264004.out BK263.out (by decide)) e_) e_) (fun e_ => (fun e_ => (Kd.R_ne HO_264005.out BK263.out (by decide)) e_) e_)))); replace HB := Aside0.mk (hb); replace HO_264003 := Aside0.mk (Kd.R_reok rfl hy0 (fun k_ e_ => HO_264003.out.1 k_ e_)); replace HO_264004 := Aside0.mk (Kd.R_reok rfl hy1 (fun k_ e_ => HO_264004.out.1 k_ e_)); replace HO_264005 := Aside0.mk (Kd.R_reok rfl hy2 (fun k_ e_ => HO_264005.out.1 k_ e_)); (try clear hb); (try clear hkp); (try clear hy0); (try clear hy1); (try clear hy2)))
      (try simp only [Act.put, List.setIfInBounds_toArray, List.set_cons_zero, List.set_cons_succ])
      go_cut [61] (fun v61 wc => ∃ (kq : Nat) (x61_40 : Bool), v61 = .bool x61_40 ∧ Aside0 (laws_FnExactLevelSums.j1 kq t247 t250 t264 x61_40 a0_0 a0_1 a0_2 l0_3 l0_4 l0_5 = some r) ∧ Aside0 (kq ≤ kj10) ∧ Aside0 (Kd.S (Kd.slice 3 (Kd.int .i64)) 24 wc w.heap.size (fun k_ => LtB N9 v265 k_) v248 t247) ∧ Aside0 (Kd.S (Kd.slice 3 (Kd.int .i64)) 24 wc w.heap.size (fun k_ => GeB N9 v248 k_) v265 t264) ∧ Aside0 (wc.heap[gb233]? = some (.cells #[.int .i64 a0_0, .int .i64 a0_1, .int .i64 a0_2, (.slice A0_3 l0_3.length c0_3), (.slice A0_4 l0_4.length c0_4), (.slice A0_5 l0_5.length c0_5)] 26 (0, 0))) ∧ Aside0 (Below w.heap.size w wc))
      case first =>
       have H := HC41.out
       clear HC41
       by_cases c51 : t282 < 0
       ·rw [if_pos c51] at H
        have c51b0 : decide (t282 < 0) = true := decide_eq_true c51
        clear c51
        (first | rw [c51b0] | (simp only [i64_w, i32_w]; rw [c51b0]) | skip)
        have H' := Aside0.mk H
        clear H
        go_wp2
        go_meet
        case rel => exact ⟨_, (true), (by first | rfl | (simp; done) | (simp [*]; done)), H', ⟨by have := HJ10.out; first | omega | exact Nat.le_refl _⟩, ⟨by (with_reducible repeat (first | apply Kd.S_alloc | apply Kd.S_drewN | apply Kd.S_drew)); exact Kd.S_mono HO_4.out (fun _ hk => hk.1)⟩, ⟨by (with_reducible repeat (first | apply Kd.S_alloc | apply Kd.S_drewN | apply Kd.S_drew)); exact Kd.S_mono HO_7.out (fun _ hk => hk.1)⟩, ⟨kp_ BK233⟩, ⟨hb_ HB⟩⟩
       ·rw [if_neg c51] at H
        have c51b0 : decide (t282 < 0) = false := decide_eq_false c51
        clear c51
        (first | rw [c51b0] | (simp only [i64_w, i32_w]; rw [c51b0]) | skip)
        replace H := Option.bind_eq_some_iff.mp H
        obtain ⟨t286, A520, H⟩ := H
        replace H : (if t286 = true then (laws_FnExactLevelSums.j1 kj10 t247 t250 t264 (t267 != t250) a0_0 a0_1 a0_2 l0_3 l0_4 l0_5) else (laws_FnExactLevelSums.j1 kj10 t247 t250 t264 true a0_0 a0_1 a0_2 l0_3 l0_4 l0_5)) = some r := H
        have A52 := Aside0.mk A520
        clear A520
        by_cases c53 : t286 = true
        ·subst c53
         have H1 : (laws_FnExactLevelSums.j1 kj10 t247 t250 t264 (t267 != t250) a0_0 a0_1 a0_2 l0_3 l0_4 l0_5) = some r := by rw [if_pos rfl] at H; exact H
         clear H
         have H := H1
         clear H1
         have H' := Aside0.mk H
         clear H
         (try clear BK263); (try clear GW263); (try clear GE263); (try clear NB263_233); (try clear NB233_263)
         obtain ⟨Ao54, co54, eo54⟩ := Kd.S_slice HO_7.out
         subst eo54
         obtain ⟨Ao55, co55, eo55⟩ := Kd.S_slice HO_4.out
         subst eo55
         go_wp2_with (first | (go_at_call 21; (with_reducible refine (laws_eqIntSS.calls kj10 _ _ t264 _ _ t247 true _ ?side1 ?side2 ?side3 ?side4 A52.out).mono ?_); (case side1 => repeat (first | exact (Kd.S_reads' HO_7.out).2.2 | (with_reducible refine Kd.C_alloc ?_ _) | (with_reducible refine Kd.C_drewN ?_ _) | (with_reducible refine Kd.C_drew ?_))); (case side2 => exact (Kd.S_reads' HO_7.out).2.1); (case side3 => repeat (first | exact (Kd.S_reads' HO_4.out).2.2 | (with_reducible refine Kd.C_alloc ?_ _) | (with_reducible refine Kd.C_drewN ?_ _) | (with_reducible refine Kd.C_drew ?_))); (case side4 => exact (Kd.S_reads' HO_4.out).2.1); rintro e w' ⟨rfl, ⟨nd, rfl⟩⟩))
         go_meet
         case rel => exact ⟨_, ((t267 != t250)), (by first | rfl | (simp; done) | (simp [*]; done)), H', ⟨by have := HJ10.out; first | omega | exact Nat.le_refl _⟩, ⟨by (with_reducible repeat (first | apply Kd.S_alloc | apply Kd.S_drewN | apply Kd.S_drew)); exact Kd.S_mono HO_4.out (fun _ hk => hk.1)⟩, ⟨by (with_reducible repeat (first | apply Kd.S_alloc | apply Kd.S_drewN | apply Kd.S_drew)); exact Kd.S_mono HO_7.out (fun _ hk => hk.1)⟩, ⟨kp_ BK233⟩, ⟨hb_ HB⟩⟩
        ·replace c53 := Bool.eq_false_iff.mpr c53
         subst c53
         have H1 : (laws_FnExactLevelSums.j1 kj10 t247 t250 t264 true a0_0 a0_1 a0_2 l0_3 l0_4 l0_5) = some r := by rw [if_neg (show ¬ (false = true) by decide)] at H; exact H
         clear H
         have H := H1
         clear H1
         have H' := Aside0.mk H
         clear H
         (try clear BK263); (try clear GW263); (try clear GE263); (try clear NB263_233); (try clear NB233_263)
         obtain ⟨Ao56, co56, eo56⟩ := Kd.S_slice HO_7.out
         subst eo56
         obtain ⟨Ao57, co57, eo57⟩ := Kd.S_slice HO_4.out
         subst eo57
         go_wp2_with (first | (go_at_call 21; (with_reducible refine (laws_eqIntSS.calls kj10 _ _ t264 _ _ t247 false _ ?side1 ?side2 ?side3 ?side4 A52.out).mono ?_); (case side1 => repeat (first | exact (Kd.S_reads' HO_7.out).2.2 | (with_reducible refine Kd.C_alloc ?_ _) | (with_reducible refine Kd.C_drewN ?_ _) | (with_reducible refine Kd.C_drew ?_))); (case side2 => exact (Kd.S_reads' HO_7.out).2.1); (case side3 => repeat (first | exact (Kd.S_reads' HO_4.out).2.2 | (with_reducible refine Kd.C_alloc ?_ _) | (with_reducible refine Kd.C_drewN ?_ _) | (with_reducible refine Kd.C_drew ?_))); (case side4 => exact (Kd.S_reads' HO_4.out).2.1); rintro e w' ⟨rfl, ⟨nd, rfl⟩⟩))
         go_meet
         case rel => exact ⟨_, (true), (by first | rfl | (simp; done) | (simp [*]; done)), H', ⟨by have := HJ10.out; first | omega | exact Nat.le_refl _⟩, ⟨by (with_reducible repeat (first | apply Kd.S_alloc | apply Kd.S_drewN | apply Kd.S_drew)); exact Kd.S_mono HO_4.out (fun _ hk => hk.1)⟩, ⟨by (with_reducible repeat (first | apply Kd.S_alloc | apply Kd.S_drewN | apply Kd.S_drew)); exact Kd.S_mono HO_7.out (fun _ hk => hk.1)⟩, ⟨kp_ BK233⟩, ⟨hb_ HB⟩⟩
      case rest =>
       clear HC41
       (try clear c1); (try clear c2); (try clear p2); (try clear c3); (try clear c3b0); (try clear c4); (try clear c5); (try clear c7); (try clear c9); (try clear c11); (try clear c12); (try clear c19); (try clear c20); (try clear c21); (try clear c24); (try clear c31); (try clear c36); (try clear c39); (try clear c48); (try clear c51); (try clear c51b0); (try clear c53); (try clear hcz49_0); (try clear hcz49_1); (try clear hcz49_2); (try clear hcz49_3); (try clear hcz49_4); (try clear hcz49_5); (try clear hfz49_0); (try clear hfz49_1); (try clear hfz49_2); (try clear hfz49_3); (try clear hfz49_4); (try clear hfz49_5)
       obtain ⟨kq, x61_40, rfl, HA, HJ40, HO_4, HO_7, BK233, HB⟩ := hcut
       cases kq with
       | zero => exact absurd HA.out (by simp [laws_FnExactLevelSums.j1])
       | succ kj40 =>
        have H := HA.out
        clear HA
        simp only [laws_FnExactLevelSums.j1] at H
        by_cases c58 : x61_40 = true
        ·subst c58
         have H1 : (some false) = some r := by rw [if_pos rfl] at H; exact H
         clear H
         have H := H1
         clear H1
         obtain rfl := Option.some.inj H
         go_wp2
         go_ret
         exact ⟨by first | rfl | (simp [errW_none, errW_some] <;> rfl) | (simp [*, errW_none, errW_some] <;> rfl), hb_ HB⟩
        ·replace c58 := Bool.eq_false_iff.mpr c58
         subst c58
         have H1 : ((laws_markIntSS.f kj40 t264 1).bind fun bt287 => ((laws_heldIntSS.f kj40 bt287.2 1).bind fun t289 => (if t289 < 0 then (some false) else (if t289 = bt287.1 then ((laws_toModel.f kj40 a0_0 a0_1 a0_2 l0_3 l0_4 l0_5).bind fun bt290 => ((impl_LevelSums.f kj40 bt290.1 bt290.2.1 bt290.2.2.1 bt290.2.2.2.1 bt290.2.2.2.2.1 bt290.2.2.2.2.2).bind fun bt302 => ((laws_eqIntSS.f kj40 bt302.1 t247).bind fun t306 => (if t306 = true then (laws_FnExactLevelSums.j2 kj40 bt287.2 bt287.1 (bt302.2 != t250)) else (laws_FnExactLevelSums.j2 kj40 bt287.2 bt287.1 true))))) else (some false))))) = some r := by rw [if_neg (show ¬ (false = true) by decide)] at H; exact H
         clear H
         have H := H1
         clear H1
         replace H := Option.bind_eq_some_iff.mp H
         obtain ⟨⟨t287, t288⟩, A590, H⟩ := H
         replace H : ((laws_heldIntSS.f kj40 t288 1).bind fun t289 => (if t289 < 0 then (some false) else (if t289 = t287 then ((laws_toModel.f kj40 a0_0 a0_1 a0_2 l0_3 l0_4 l0_5).bind fun bt290 => ((impl_LevelSums.f kj40 bt290.1 bt290.2.1 bt290.2.2.1 bt290.2.2.2.1 bt290.2.2.2.2.1 bt290.2.2.2.2.2).bind fun bt302 => ((laws_eqIntSS.f kj40 bt302.1 t247).bind fun t306 => (if t306 = true then (laws_FnExactLevelSums.j2 kj40 t288 t287 (bt302.2 != t250)) else (laws_FnExactLevelSums.j2 kj40 t288 t287 true))))) else (some false)))) = some r := H
         have A59 := Aside0.mk A590
         clear A590
         replace H := Option.bind_eq_some_iff.mp H
         obtain ⟨t289, A600, H⟩ := H
         replace H : (if t289 < 0 then (some false) else (if t289 = t287 then ((laws_toModel.f kj40 a0_0 a0_1 a0_2 l0_3 l0_4 l0_5).bind fun bt290 => ((impl_LevelSums.f kj40 bt290.1 bt290.2.1 bt290.2.2.1 bt290.2.2.2.1 bt290.2.2.2.2.1 bt290.2.2.2.2.2).bind fun bt302 => ((laws_eqIntSS.f kj40 bt302.1 t247).bind fun t306 => (if t306 = true then (laws_FnExactLevelSums.j2 kj40 t288 t287 (bt302.2 != t250)) else (laws_FnExactLevelSums.j2 kj40 t288 t287 true))))) else (some false))) = some r := H
         have A60 := Aside0.mk A600
         clear A600
         by_cases c61 : t289 < 0
         ·rw [if_pos c61] at H
          have c61b0 : decide (t289 < 0) = true := decide_eq_true c61
          clear c61
          obtain rfl := Option.some.inj H
          (try clear BK233); (try clear GW233); (try clear GE233)
          obtain ⟨Ao62, co62, eo62⟩ := Kd.S_slice HO_7.out
          subst eo62
          go_wp2_with (first | ((with_reducible refine gate_callee (f := 22) rfl ?_); refine gl_ (some 64) Try.func22 #[.slice Ao62 t264.length co62, .int .i64 1] rfl rfl rfl ?_; (with_reducible refine (laws_markIntSS.calls kj40 (fun k_ => GeB N9 v248 k_ ∧ True) (.slice Ao62 t264.length co62) t264 1 t287 t288 w _ ?side1 ?side2 A59.out).mono ?_); (case side1 => exact hb_ HB); (case side2 => exact Kd.S_mono (by (with_reducible repeat (first | apply Kd.S_alloc | apply Kd.S_drewN | apply Kd.S_drew)); exact HO_7.out) (fun _ h_ => ⟨h_, trivial⟩)); rintro e w63 ⟨rfl, hy0, hb, hkp⟩; refine ⟨_, rfl, ?_⟩; replace HO_4 := Aside0.mk (Kd.S_mono (ok' := fun k_ => some k_ ≠ (.slice Ao62 t264.length co62 : Value).ownBlock) (Kd.S_keptB (HO_4.out) hkp (fun k_ hk_ hs_ => Nat.not_le.2 hk_.2 hs_.1.2)) (fun k_ hk_ => hk_.1.1)); replace HO_7 := Aside0.mk hy0; replace HB := Aside0.mk (hb); (try clear hb); (try clear hkp); (try clear hy0)) | ((with_reducible refine gate_callee (f := 23) rfl ?_); refine gl_ (some 67) Try.func23 #[.slice Ao62 t288.length co62, .int .i64 1] rfl rfl rfl ?_ (by (try simp only [List.map_toArray, List.map_cons, List.map_nil]); first | done | (rw [show t288.length = t264.length from (Kd.S_reads' HO_7.out).1.symm] <;> rfl) | rfl | (simp only [List.length_drop, List.length_take]; rfl)); (with_reducible refine (laws_heldIntSS.calls kj40 _ _ t288 1 t289 _ ?side1 ?side2 A60.out).mono ?_); (case side1 => repeat (first | exact (Kd.S_reads' HO_7.out).2.2 | (with_reducible refine Kd.C_alloc ?_ _) | (with_reducible refine Kd.C_drewN ?_ _) | (with_reducible refine Kd.C_drew ?_))); (case side2 => rw [show t288.length = t264.length from (Kd.S_reads' HO_7.out).1.symm]; exact (Kd.S_reads' HO_7.out).2.1); rintro e w' ⟨rfl, ⟨nd, rfl⟩⟩; refine ⟨_, rfl, ?_⟩))
          go_ret
          exact ⟨by first | rfl | (simp [errW_none, errW_some] <;> rfl) | (simp [*, errW_none, errW_some] <;> rfl), hb_ HB⟩
         ·rw [if_neg c61] at H
          have c61b0 : decide (t289 < 0) = false := decide_eq_false c61
          clear c61
          by_cases c64 : t289 = t287
          ·rw [if_pos c64] at H
           have c64b0 : (t289 == t287) = true := beq_iff_eq.mpr c64
           have c64b1 : (t289 != t287) = false := bne_eq_false_iff_eq.mpr c64
           clear c64
           replace H := Option.bind_eq_some_iff.mp H
           obtain ⟨⟨t290, t291, t292, t293, t296, t299⟩, A650, H⟩ := H
           replace H : ((impl_LevelSums.f kj40 t290 t291 t292 t293 t296 t299).bind fun bt302 => ((laws_eqIntSS.f kj40 bt302.1 t247).bind fun t306 => (if t306 = true then (laws_FnExactLevelSums.j2 kj40 t288 t287 (bt302.2 != t250)) else (laws_FnExactLevelSums.j2 kj40 t288 t287 true)))) = some r := H
           have A65 := Aside0.mk A650
           clear A650
           replace H := Option.bind_eq_some_iff.mp H
           obtain ⟨⟨t302, t305⟩, A660, H⟩ := H
           replace H : ((laws_eqIntSS.f kj40 t302 t247).bind fun t306 => (if t306 = true then (laws_FnExactLevelSums.j2 kj40 t288 t287 (t305 != t250)) else (laws_FnExactLevelSums.j2 kj40 t288 t287 true))) = some r := H
           have A66 := Aside0.mk A660
           clear A660
           have HC67 := Aside0.mk H
           clear H
           obtain ⟨Ao68, co68, eo68⟩ := Kd.S_slice HO_7.out
           subst eo68
           go_upto_region 25 with (first | ((with_reducible refine gate_callee (f := 22) rfl ?_); refine gl_ (some 64) Try.func22 #[.slice Ao68 t264.length co68, .int .i64 1] rfl rfl rfl ?_; (with_reducible refine (laws_markIntSS.calls kj40 (fun k_ => GeB N9 v248 k_ ∧ k_ ≠ gb233) (.slice Ao68 t264.length co68) t264 1 t287 t288 w _ ?side1 ?side2 A59.out).mono ?_); (case side1 => exact hb_ HB); (case side2 => exact Kd.S_types HO_7.out BK233.out (by decide)); rintro e w69 ⟨rfl, hy0, hb, hkp⟩; refine ⟨_, rfl, ?_⟩; replace HO_4 := Aside0.mk (Kd.S_mono (ok' := fun k_ => some k_ ≠ (.slice Ao68 t264.length co68 : Value).ownBlock) (Kd.S_keptB (HO_4.out) hkp (fun k_ hk_ hs_ => Nat.not_le.2 hk_.2 hs_.1.2)) (fun k_ hk_ => hk_.1.1)); replace BK233 := Aside0.mk (blk_kept (kp_ BK233) hkp (fun hs_ => hs_.2 rfl)); replace HB := Aside0.mk (hb); replace HO_7 := Aside0.mk hy0; (try clear hb); (try clear hkp); (try clear hy0)) | ((with_reducible refine gate_callee (f := 23) rfl ?_); refine gl_ (some 67) Try.func23 #[.slice Ao68 t288.length co68, .int .i64 1] rfl rfl rfl ?_ (by (try simp only [List.map_toArray, List.map_cons, List.map_nil]); first | done | (rw [show t288.length = t264.length from (Kd.S_reads' HO_7.out).1.symm] <;> rfl) | rfl | (simp only [List.length_drop, List.length_take]; rfl)); (with_reducible refine (laws_heldIntSS.calls kj40 _ _ t288 1 t289 _ ?side1 ?side2 A60.out).mono ?_); (case side1 => repeat (first | exact (Kd.S_reads' HO_7.out).2.2 | (with_reducible refine Kd.C_alloc ?_ _) | (with_reducible refine Kd.C_drewN ?_ _) | (with_reducible refine Kd.C_drew ?_))); (case side2 => rw [show t288.length = t264.length from (Kd.S_reads' HO_7.out).1.symm]; exact (Kd.S_reads' HO_7.out).2.1); rintro e w' ⟨rfl, ⟨nd, rfl⟩⟩; refine ⟨_, rfl, ?_⟩; obtain ⟨hcz70_0, hcz70_1, hcz70_2, hcz70_3, hcz70_4, hcz70_5, hfz70_0, hfz70_1, hfz70_2, hfz70_3, hfz70_4, hfz70_5⟩ := bx6 BK233) | ((with_reducible refine gate_callee (f := 9) rfl ?_); refine gl_ (some 75) Try.func9 #[.agg #[.int .i64 a0_0, .int .i64 a0_1, .int .i64 a0_2, .slice A0_3 l0_3.length c0_3, .slice A0_4 l0_4.length c0_4, .slice A0_5 l0_5.length c0_5]] rfl rfl rfl ?_; (with_reducible refine (laws_toModel.calls kj40 a0_0 a0_1 a0_2 _ _ l0_3 _ _ l0_4 _ _ l0_5 t290 t291 t292 t293 t296 t299 _ ?side1 ?side2 ?side3 ?side4 ?side5 ?side6 A65.out).mono ?_); (case side1 => exact Kd.C_below HR0_3.out (hb_ HB)); (case side2 => exact HC0_3.out); (case side3 => exact Kd.C_below HR0_4.out (hb_ HB)); (case side4 => exact HC0_4.out); (case side5 => exact Kd.C_below HR0_5.out (hb_ HB)); (case side6 => exact HC0_5.out); rintro e w71 ⟨v294, v297, v300, rfl, ho0, ho1, ho2, hb⟩; refine ⟨_, rfl, ?_⟩; have HO295 := Kd.R_lo ho0 HB; have HO298 := Kd.R_lo ho1 HB; have HO301 := Kd.R_lo ho2 HB; replace HO_4 := Aside0.mk (Kd.S_mono (Kd.S_told (Kd.S_told (Kd.S_told (Kd.S_old (by (with_reducible repeat (first | apply Kd.S_alloc | apply Kd.S_drewN | apply Kd.S_drew)); exact HO_4.out) hb) (Kd.R_base ho0)) (Kd.R_base ho1)) (Kd.R_base ho2)) (fun _ h_ => h_.1)); replace HO_7 := Aside0.mk (Kd.S_mono (Kd.S_told (Kd.S_told (Kd.S_told (Kd.S_old (by (with_reducible repeat (first | apply Kd.S_alloc | apply Kd.S_drewN | apply Kd.S_drew)); exact HO_7.out) hb) (Kd.R_base ho0)) (Kd.R_base ho1)) (Kd.R_base ho2)) (fun _ h_ => h_.1)); replace BK233 := kb_ BK233 hb; replace HB := hbs_ HB hb; (try clear hb); (try clear hb2); (try clear hk); (try clear hi); (try clear ho0); (try clear ho1); (try clear ho2); try clear BK233; try clear GW233; try clear GE233; obtain ⟨Ao72, co72, eo72⟩ := Kd.R_slice HO295.out; subst eo72; obtain ⟨Ao73, co73, eo73⟩ := Kd.R_slice HO298.out; subst eo73; obtain ⟨Ao74, co74, eo74⟩ := Kd.R_slice HO301.out; subst eo74) | ((with_reducible refine gate_callee (f := 20) rfl ?_); refine gl_ (some 76) Try.func20 #[.agg #[.int .i64 t290, .int .i64 t291, .int .i64 t292, .slice Ao72 t293.length co72, .slice Ao73 t296.length co73, .slice Ao74 t299.length co74]] rfl rfl rfl ?_; (with_reducible refine (impl_LevelSums.calls kj40 t290 t291 t292 _ _ t293 _ _ t296 _ _ t299 t302 t305 _ ?side1 ?side2 ?side3 ?side4 ?side5 ?side6 A66.out).mono ?_); (case side1 => exact Kd.C_o HO295); (case side2 => exact (Kd.R_reads' HO295.out).2.1); (case side3 => exact Kd.C_o HO298); (case side4 => exact (Kd.R_reads' HO298.out).2.1); (case side5 => exact Kd.C_o HO301); (case side6 => exact (Kd.R_reads' HO301.out).2.1); rintro e w75 ⟨v303, rfl, ho0, hb⟩; refine ⟨_, rfl, ?_⟩; have HO304 := Aside0.mk (Kd.S_lower (Kd.S_new' (Kd.S_new' (Kd.S_new' (Kd.S_new' (Kd.S_new' ho0 (Kd.S_lt (by (with_reducible repeat (first | apply Kd.S_alloc | apply Kd.S_drewN | apply Kd.S_drew)); exact HO_4.out))) (Kd.S_lt (by (with_reducible repeat (first | apply Kd.S_alloc | apply Kd.S_drewN | apply Kd.S_drew)); exact HO_7.out))) (Kd.R_lt (Kd.R_p HO295))) (Kd.R_lt (Kd.R_p HO298))) (Kd.R_lt (Kd.R_p HO301))) (below_size (hb_ HB))); replace HO_4 := Aside0.mk (Kd.S_elder' (by (with_reducible repeat (first | apply Kd.S_alloc | apply Kd.S_drewN | apply Kd.S_drew)); exact HO_4.out) (Kd.S_base ho0) hb); replace HO_7 := Aside0.mk (Kd.S_elder' (by (with_reducible repeat (first | apply Kd.S_alloc | apply Kd.S_drewN | apply Kd.S_drew)); exact HO_7.out) (Kd.S_base ho0) hb); replace HO295 := Kd.R_b HO295 hb; replace HO298 := Kd.R_b HO298 hb; replace HO301 := Kd.R_b HO301 hb; replace HB := hbs_ HB hb; (try clear hb); (try clear hb2); (try clear hk); (try clear hi); (try clear ho0)))
           (try simp only [Act.put, List.setIfInBounds_toArray, List.set_cons_zero, List.set_cons_succ])
           go_cut [87] (fun v87 wc => ∃ (kq : Nat) (x87_66 : Bool), v87 = .bool x87_66 ∧ Aside0 (laws_FnExactLevelSums.j2 kq t288 t287 x87_66 = some r) ∧ Aside0 (kq ≤ kj40) ∧ Aside0 (Kd.S (Kd.slice 3 (Kd.int .i64)) 24 wc w.heap.size (fun _ => True) (.slice Ao68 t264.length co68) t288) ∧ Aside0 (Below w.heap.size w wc))
           case first =>
            have H := HC67.out
            clear HC67
            replace H := Option.bind_eq_some_iff.mp H
            obtain ⟨t306, A760, H⟩ := H
            replace H : (if t306 = true then (laws_FnExactLevelSums.j2 kj40 t288 t287 (t305 != t250)) else (laws_FnExactLevelSums.j2 kj40 t288 t287 true)) = some r := H
            have A76 := Aside0.mk A760
            clear A760
            by_cases c77 : t306 = true
            ·subst c77
             have H1 : (laws_FnExactLevelSums.j2 kj40 t288 t287 (t305 != t250)) = some r := by rw [if_pos rfl] at H; exact H
             clear H
             have H := H1
             clear H1
             have H' := Aside0.mk H
             clear H
             (try clear HO295); (try clear HO298); (try clear HO301)
             obtain ⟨Ao78, co78, eo78⟩ := Kd.S_slice HO304.out
             subst eo78
             obtain ⟨Ao79, co79, eo79⟩ := Kd.S_slice HO_4.out
             subst eo79
             go_wp2_with (first | ((with_reducible refine gate_callee (f := 21) rfl ?_); refine gl_ (some 81) Try.func21 #[.slice Ao78 t302.length co78, .slice Ao79 t247.length co79] rfl rfl rfl ?_; (with_reducible refine (laws_eqIntSS.calls kj40 _ _ t302 _ _ t247 true _ ?side1 ?side2 ?side3 ?side4 A76.out).mono ?_); (case side1 => repeat (first | exact (Kd.S_reads' HO304.out).2.2 | (with_reducible refine Kd.C_alloc ?_ _) | (with_reducible refine Kd.C_drewN ?_ _) | (with_reducible refine Kd.C_drew ?_))); (case side2 => exact (Kd.S_reads' HO304.out).2.1); (case side3 => repeat (first | exact (Kd.S_reads' HO_4.out).2.2 | (with_reducible refine Kd.C_alloc ?_ _) | (with_reducible refine Kd.C_drewN ?_ _) | (with_reducible refine Kd.C_drew ?_))); (case side4 => exact (Kd.S_reads' HO_4.out).2.1); rintro e w' ⟨rfl, ⟨nd, rfl⟩⟩; refine ⟨_, rfl, ?_⟩))
             go_meet
             case rel => exact ⟨_, ((t305 != t250)), (by first | rfl | (simp; done) | (simp [*]; done)), H', ⟨by have := HJ10.out; have := HJ40.out; first | omega | exact Nat.le_refl _⟩, ⟨by (with_reducible repeat (first | apply Kd.S_alloc | apply Kd.S_drewN | apply Kd.S_drew)); exact Kd.S_mono HO_7.out (fun _ hk => trivial)⟩, ⟨hb_ HB⟩⟩
            ·replace c77 := Bool.eq_false_iff.mpr c77
             subst c77
             have H1 : (laws_FnExactLevelSums.j2 kj40 t288 t287 true) = some r := by rw [if_neg (show ¬ (false = true) by decide)] at H; exact H
             clear H
             have H := H1
             clear H1
             have H' := Aside0.mk H
             clear H
             (try clear HO295); (try clear HO298); (try clear HO301)
             obtain ⟨Ao80, co80, eo80⟩ := Kd.S_slice HO304.out
             subst eo80
             obtain ⟨Ao81, co81, eo81⟩ := Kd.S_slice HO_4.out
             subst eo81
             go_wp2_with (first | ((with_reducible refine gate_callee (f := 21) rfl ?_); refine gl_ (some 81) Try.func21 #[.slice Ao80 t302.length co80, .slice Ao81 t247.length co81] rfl rfl rfl ?_; (with_reducible refine (laws_eqIntSS.calls kj40 _ _ t302 _ _ t247 false _ ?side1 ?side2 ?side3 ?side4 A76.out).mono ?_); (case side1 => repeat (first | exact (Kd.S_reads' HO304.out).2.2 | (with_reducible refine Kd.C_alloc ?_ _) | (with_reducible refine Kd.C_drewN ?_ _) | (with_reducible refine Kd.C_drew ?_))); (case side2 => exact (Kd.S_reads' HO304.out).2.1); (case side3 => repeat (first | exact (Kd.S_reads' HO_4.out).2.2 | (with_reducible refine Kd.C_alloc ?_ _) | (with_reducible refine Kd.C_drewN ?_ _) | (with_reducible refine Kd.C_drew ?_))); (case side4 => exact (Kd.S_reads' HO_4.out).2.1); rintro e w' ⟨rfl, ⟨nd, rfl⟩⟩; refine ⟨_, rfl, ?_⟩))
             go_meet
             case rel => exact ⟨_, (true), (by first | rfl | (simp; done) | (simp [*]; done)), H', ⟨by have := HJ10.out; have := HJ40.out; first | omega | exact Nat.le_refl _⟩, ⟨by (with_reducible repeat (first | apply Kd.S_alloc | apply Kd.S_drewN | apply Kd.S_drew)); exact Kd.S_mono HO_7.out (fun _ hk => trivial)⟩, ⟨hb_ HB⟩⟩
           case rest =>
            clear HC67
            (try clear c1); (try clear c2); (try clear p2); (try clear c3); (try clear c3b0); (try clear c4); (try clear c5); (try clear c6); (try clear c7); (try clear c9); (try clear c11); (try clear c12); (try clear c19); (try clear c20); (try clear c21); (try clear c22); (try clear c23); (try clear c24); (try clear c31); (try clear c36); (try clear c39); (try clear c48); (try clear c51); (try clear c51b0); (try clear c53); (try clear c58); (try clear c61); (try clear c61b0); (try clear c64); (try clear c64b0); (try clear c64b1); (try clear c77); (try clear hcz70_0); (try clear hcz70_1); (try clear hcz70_2); (try clear hcz70_3); (try clear hcz70_4); (try clear hcz70_5); (try clear hfz70_0); (try clear hfz70_1); (try clear hfz70_2); (try clear hfz70_3); (try clear hfz70_4); (try clear hfz70_5)
            obtain ⟨kq, x87_66, rfl, HA, HJ66, HO_7, HB⟩ := hcut
            have hl7_66 := (Kd.S_reads' HO_7.out).1
            rw [hl7_66] at HO_7
            (try simp only [hl7_66])
            cases kq with
            | zero => exact absurd HA.out (by simp [laws_FnExactLevelSums.j2])
            | succ kj66 =>
             have H := HA.out
             clear HA
             simp only [laws_FnExactLevelSums.j2] at H
             by_cases c82 : x87_66 = true
             ·subst c82
              have H1 : (some false) = some r := by rw [if_pos rfl] at H; exact H
              clear H
              have H := H1
              clear H1
              obtain rfl := Option.some.inj H
              go_wp2
              go_ret
              exact ⟨by first | rfl | (simp [errW_none, errW_some] <;> rfl) | (simp [*, errW_none, errW_some] <;> rfl), hb_ HB⟩
             ·replace c82 := Bool.eq_false_iff.mpr c82
              subst c82
              have H1 : ((laws_heldIntSS.f kj66 t288 1).bind fun t307 => (if t307 < 0 then (some false) else (if t307 = t287 then (some true) else (some false)))) = some r := by rw [if_neg (show ¬ (false = true) by decide)] at H; exact H
              clear H
              have H := H1
              clear H1
              replace H := Option.bind_eq_some_iff.mp H
              obtain ⟨t307, A830, H⟩ := H
              replace H : (if t307 < 0 then (some false) else (if t307 = t287 then (some true) else (some false))) = some r := H
              have A83 := Aside0.mk A830
              clear A830
              by_cases c84 : t307 < 0
              ·rw [if_pos c84] at H
               have c84b0 : decide (t307 < 0) = true := decide_eq_true c84
               clear c84
               obtain rfl := Option.some.inj H
               go_wp2_with (first | ((with_reducible refine gate_callee (f := 23) rfl ?_); refine gl_ (some 90) Try.func23 #[.slice Ao68 t288.length co68, .int .i64 1] rfl rfl rfl ?_; (with_reducible refine (laws_heldIntSS.calls kj66 _ _ t288 1 t307 _ ?side1 ?side2 A83.out).mono ?_); (case side1 => repeat (first | exact (Kd.S_reads' HO_7.out).2.2 | (with_reducible refine Kd.C_alloc ?_ _) | (with_reducible refine Kd.C_drewN ?_ _) | (with_reducible refine Kd.C_drew ?_))); (case side2 => exact (Kd.S_reads' HO_7.out).2.1); rintro e w' ⟨rfl, ⟨nd, rfl⟩⟩; refine ⟨_, rfl, ?_⟩))
               go_ret
               exact ⟨by first | rfl | (simp [errW_none, errW_some] <;> rfl) | (simp [*, errW_none, errW_some] <;> rfl), hb_ HB⟩
              ·rw [if_neg c84] at H
               have c84b0 : decide (t307 < 0) = false := decide_eq_false c84
               clear c84
               by_cases c85 : t307 = t287
               ·rw [if_pos c85] at H
                have c85b0 : (t307 == t287) = true := beq_iff_eq.mpr c85
                have c85b1 : (t307 != t287) = false := bne_eq_false_iff_eq.mpr c85
                clear c85
                obtain rfl := Option.some.inj H
                go_wp2_with (first | ((with_reducible refine gate_callee (f := 23) rfl ?_); refine gl_ (some 90) Try.func23 #[.slice Ao68 t288.length co68, .int .i64 1] rfl rfl rfl ?_; (with_reducible refine (laws_heldIntSS.calls kj66 _ _ t288 1 t307 _ ?side1 ?side2 A83.out).mono ?_); (case side1 => repeat (first | exact (Kd.S_reads' HO_7.out).2.2 | (with_reducible refine Kd.C_alloc ?_ _) | (with_reducible refine Kd.C_drewN ?_ _) | (with_reducible refine Kd.C_drew ?_))); (case side2 => exact (Kd.S_reads' HO_7.out).2.1); rintro e w' ⟨rfl, ⟨nd, rfl⟩⟩; refine ⟨_, rfl, ?_⟩))
                go_ret
                exact ⟨by first | rfl | (simp [errW_none, errW_some] <;> rfl) | (simp [*, errW_none, errW_some] <;> rfl), hb_ HB⟩
               ·rw [if_neg c85] at H
                have c85b0 : (t307 == t287) = false := beq_eq_false_iff_ne.mpr c85
                have c85b1 : (t307 != t287) = true := bne_iff_ne.mpr c85
                obtain rfl := Option.some.inj H
                go_wp2_with (first | ((with_reducible refine gate_callee (f := 23) rfl ?_); refine gl_ (some 90) Try.func23 #[.slice Ao68 t288.length co68, .int .i64 1] rfl rfl rfl ?_; (with_reducible refine (laws_heldIntSS.calls kj66 _ _ t288 1 t307 _ ?side1 ?side2 A83.out).mono ?_); (case side1 => repeat (first | exact (Kd.S_reads' HO_7.out).2.2 | (with_reducible refine Kd.C_alloc ?_ _) | (with_reducible refine Kd.C_drewN ?_ _) | (with_reducible refine Kd.C_drew ?_))); (case side2 => exact (Kd.S_reads' HO_7.out).2.1); rintro e w' ⟨rfl, ⟨nd, rfl⟩⟩; refine ⟨_, rfl, ?_⟩))
                go_ret
                exact ⟨by first | rfl | (simp [errW_none, errW_some] <;> rfl) | (simp [*, errW_none, errW_some] <;> rfl), hb_ HB⟩
          ·rw [if_neg c64] at H
           have c64b0 : (t289 == t287) = false := beq_eq_false_iff_ne.mpr c64
           have c64b1 : (t289 != t287) = true := bne_iff_ne.mpr c64
           obtain rfl := Option.some.inj H
           (try clear BK233); (try clear GW233); (try clear GE233)
           obtain ⟨Ao86, co86, eo86⟩ := Kd.S_slice HO_7.out
           subst eo86
           go_wp2_with (first | ((with_reducible refine gate_callee (f := 22) rfl ?_); refine gl_ (some 64) Try.func22 #[.slice Ao86 t264.length co86, .int .i64 1] rfl rfl rfl ?_; (with_reducible refine (laws_markIntSS.calls kj40 (fun k_ => GeB N9 v248 k_ ∧ True) (.slice Ao86 t264.length co86) t264 1 t287 t288 w _ ?side1 ?side2 A59.out).mono ?_); (case side1 => exact hb_ HB); (case side2 => exact Kd.S_mono (by (with_reducible repeat (first | apply Kd.S_alloc | apply Kd.S_drewN | apply Kd.S_drew)); exact HO_7.out) (fun _ h_ => ⟨h_, trivial⟩)); rintro e w87 ⟨rfl, hy0, hb, hkp⟩; refine ⟨_, rfl, ?_⟩; replace HO_4 := Aside0.mk (Kd.S_mono (ok' := fun k_ => some k_ ≠ (.slice Ao86 t264.length co86 : Value).ownBlock) (Kd.S_keptB (HO_4.out) hkp (fun k_ hk_ hs_ => Nat.not_le.2 hk_.2 hs_.1.2)) (fun k_ hk_ => hk_.1.1)); replace HO_7 := Aside0.mk hy0; replace HB := Aside0.mk (hb); (try clear hb); (try clear hkp); (try clear hy0)) | ((with_reducible refine gate_callee (f := 23) rfl ?_); refine gl_ (some 67) Try.func23 #[.slice Ao86 t288.length co86, .int .i64 1] rfl rfl rfl ?_ (by (try simp only [List.map_toArray, List.map_cons, List.map_nil]); first | done | (rw [show t288.length = t264.length from (Kd.S_reads' HO_7.out).1.symm] <;> rfl) | rfl | (simp only [List.length_drop, List.length_take]; rfl)); (with_reducible refine (laws_heldIntSS.calls kj40 _ _ t288 1 t289 _ ?side1 ?side2 A60.out).mono ?_); (case side1 => repeat (first | exact (Kd.S_reads' HO_7.out).2.2 | (with_reducible refine Kd.C_alloc ?_ _) | (with_reducible refine Kd.C_drewN ?_ _) | (with_reducible refine Kd.C_drew ?_))); (case side2 => rw [show t288.length = t264.length from (Kd.S_reads' HO_7.out).1.symm]; exact (Kd.S_reads' HO_7.out).2.1); rintro e w' ⟨rfl, ⟨nd, rfl⟩⟩; refine ⟨_, rfl, ?_⟩))
           go_ret
           exact ⟨by first | rfl | (simp [errW_none, errW_some] <;> rfl) | (simp [*, errW_none, errW_some] <;> rfl), hb_ HB⟩
     ·replace c39 := Bool.eq_false_iff.mpr c39
      subst c39
      have H1 : (some false) = some r := by rw [if_neg (show ¬ (false = true) by decide)] at H; exact H
      clear H
      have H := H1
      clear H1
      obtain rfl := Option.some.inj H
      try go_wp2
      have n0_ := Aside0.mk (Kd.S_drew HO_4.out)
      have n1_ := Aside0.mk (Kd.S_drew HO_7.out)
      have n2_ := Aside0.mk (Kd.R_drew HO_264003.out)
      have n3_ := Aside0.mk (Kd.R_drew HO_264004.out)
      have n4_ := Aside0.mk (Kd.R_drew HO_264005.out)
      have n5_ := Aside0.mk (blk_drew BK233.out)
      have n6_ := Aside0.mk (blk_drew BK263.out)
      have n7_ := Aside0.mk (below_drew1 HB.out)
      clear HO_4
      clear HO_7
      clear HO_264003
      clear HO_264004
      clear HO_264005
      clear BK233
      clear BK263
      clear HB
      have HO_4 := n0_
      have HO_7 := n1_
      have HO_264003 := n2_
      have HO_264004 := n3_
      have HO_264005 := n4_
      have BK233 := n5_
      have BK263 := n6_
      have HB := n7_
      clear n0_ n1_ n2_ n3_ n4_ n5_ n6_ n7_
      refine start_ (n := 5) (S := fun w' => w'.cell? ⟨gb263, 0, none⟩ = some (.int .i64 t251) ∧ w'.cell? ⟨gb263, 1, none⟩ = some (.int .i64 t252) ∧ w'.cell? ⟨gb263, 2, none⟩ = some (.int .i64 t253) ∧ w'.cell? ⟨gb263, 3, none⟩ = some (.slice Ao26 t254.length co26) ∧ w'.cell? ⟨gb263, 4, none⟩ = some (.slice Ao27 t257.length co27) ∧ w'.cell? ⟨gb263, 5, none⟩ = some (.slice Ao28 t260.length co28) ∧ w'.cell? ⟨gb233, 0, none⟩ = some (.int .i64 a0_0) ∧ w'.cell? ⟨gb233, 1, none⟩ = some (.int .i64 a0_1) ∧ w'.cell? ⟨gb233, 2, none⟩ = some (.int .i64 a0_2) ∧ w'.cell? ⟨gb233, 3, none⟩ = some (.slice A0_3 l0_3.length c0_3) ∧ w'.cell? ⟨gb233, 4, none⟩ = some (.slice A0_4 l0_4.length c0_4) ∧ w'.cell? ⟨gb233, 5, none⟩ = some (.slice A0_5 l0_5.length c0_5)) (ds := []) #[false, false, false, false, false] (by kernel_rfl) rfl rfl ⟨(blk_cell BK263.out 0).trans rfl, (blk_cell BK263.out 1).trans rfl, (blk_cell BK263.out 2).trans rfl, (blk_cell BK263.out 3).trans rfl, (blk_cell BK263.out 4).trans rfl, (blk_cell BK263.out 5).trans rfl, (blk_cell BK233.out 0).trans rfl, (blk_cell BK233.out 1).trans rfl, (blk_cell BK233.out 2).trans rfl, (blk_cell BK233.out 3).trans rfl, (blk_cell BK233.out 4).trans rfl, (blk_cell BK233.out 5).trans rfl⟩ (fun hHeld => ?_)
      generalize wc.drew = w88 at HO_4 HO_7 HO_264003 HO_264004 HO_264005 BK233 BK263 HB hHeld ⊢
      refine take_ (i := 0) (N := some 41) (v := ?_) (a' := ?_) #[true, false, false, false, false] rfl rfl (by kernel_rfl) (fun _ _ _ h => h) (Or.inl ⟨by rfl, ?_⟩) hHeld ?_ ?_
      rotate_left
      ·rintro w' ⟨s0, s1, s2, s3, s4, s5, s6, s7, s8, s9, s10, s11⟩
       go_simp
       with_reducible rfl
      rotate_left
      ·simp only [Act.put, List.setIfInBounds_toArray, List.set_cons_zero, List.set_cons_succ, i64_w, i32_w]
       rfl
      refine take_ (i := 1) (N := some 42) (v := ?_) (a' := ?_) #[true, true, false, false, false] rfl rfl (by kernel_rfl) (fun _ _ _ h => h) (Or.inl ⟨by rfl, ?_⟩) hHeld ?_ ?_
      rotate_left
      ·rintro w' ⟨s0, s1, s2, s3, s4, s5, s6, s7, s8, s9, s10, s11⟩
       go_simp
       with_reducible rfl
      rotate_left
      ·simp only [Act.put, List.setIfInBounds_toArray, List.set_cons_zero, List.set_cons_succ, i64_w, i32_w]
       rfl
      refine one_ (i := 2) (N := some 43) #[true, true, true, false, false] rfl rfl (by kernel_rfl) (by decide) (fun K hK => ?_)
      refine goes_ Try.func9 (by kernel_rfl) rfl #[.agg #[.int .i64 a0_0, .int .i64 a0_1, .int .i64 a0_2, .slice A0_3 l0_3.length c0_3, .slice A0_4 l0_4.length c0_4, .slice A0_5 l0_5.length c0_5]] (by rfl) rfl rfl (by (try simp only [List.map_toArray, List.map_cons, List.map_nil]); first | done | rfl | (simp only [List.length_drop, List.length_take]; rfl)) ?_
      with_reducible refine (laws_toModel.calls kj10 a0_0 a0_1 a0_2 _ _ l0_3 _ _ l0_4 _ _ l0_5 t269 t270 t271 t272 t275 t278 _ ?side1 ?side2 ?side3 ?side4 ?side5 ?side6 A37.out).mono ?_
      (case side1 => exact Kd.C_w HR0_3 HB)
      (case side2 => exact HC0_3.out)
      (case side3 => exact Kd.C_w HR0_4 HB)
      (case side4 => exact HC0_4.out)
      (case side5 => exact Kd.C_w HR0_5 HB)
      (case side6 => exact HC0_5.out)
      rintro e w89 ⟨v273, v276, v279, rfl, ho0, ho1, ho2, hb⟩
      refine ⟨_, rfl, ?_⟩
      have n0_ := Aside0.mk (Kd.S_mono (Kd.S_told (Kd.S_told (Kd.S_told (Kd.S_old (by (with_reducible repeat (first | apply Kd.S_alloc | apply Kd.S_drewN | apply Kd.S_drew)); exact HO_4.out) hb) (Kd.R_base ho0)) (Kd.R_base ho1)) (Kd.R_base ho2)) (fun _ h_ => h_.1))
      have n1_ := Aside0.mk (Kd.S_mono (Kd.S_told (Kd.S_told (Kd.S_told (Kd.S_old (by (with_reducible repeat (first | apply Kd.S_alloc | apply Kd.S_drewN | apply Kd.S_drew)); exact HO_7.out) hb) (Kd.R_base ho0)) (Kd.R_base ho1)) (Kd.R_base ho2)) (fun _ h_ => h_.1))
      have n2_ := Aside0.mk (Kd.R_mono (Kd.R_told (Kd.R_told (Kd.R_told (Kd.R_old (Kd.R_p HO_264003) hb) (Kd.R_base ho0)) (Kd.R_base ho1)) (Kd.R_base ho2)) (fun _ h_ => h_.1))
      have n3_ := Aside0.mk (Kd.R_mono (Kd.R_told (Kd.R_told (Kd.R_told (Kd.R_old (Kd.R_p HO_264004) hb) (Kd.R_base ho0)) (Kd.R_base ho1)) (Kd.R_base ho2)) (fun _ h_ => h_.1))
      have n4_ := Aside0.mk (Kd.R_mono (Kd.R_told (Kd.R_told (Kd.R_told (Kd.R_old (Kd.R_p HO_264005) hb) (Kd.R_base ho0)) (Kd.R_base ho1)) (Kd.R_base ho2)) (fun _ h_ => h_.1))
      have n5_ := Aside0.mk (Kd.R_lower (Kd.R_nw (Kd.R_nw (Kd.R_nw ho0 HO_264003) HO_264004) HO_264005) (below_size (hb_ HB)))
      have n6_ := Aside0.mk (Kd.R_lower (Kd.R_nw (Kd.R_nw (Kd.R_nw ho1 HO_264003) HO_264004) HO_264005) (below_size (hb_ HB)))
      have n7_ := Aside0.mk (Kd.R_lower (Kd.R_nw (Kd.R_nw (Kd.R_nw ho2 HO_264003) HO_264004) HO_264005) (below_size (hb_ HB)))
      have n8_ := Aside0.mk (blk_below (kp_ BK233) hb)
      have n9_ := Aside0.mk (blk_below (kp_ BK263) hb)
      have n10_ := Aside0.mk (below_step (hb_ HB) hb)
      clear HO_4
      clear HO_7
      clear HO_264003
      clear HO_264004
      clear HO_264005
      clear BK233
      clear BK263
      clear HB
      have HO_4 := n0_
      have HO_7 := n1_
      have HO_264003 := n2_
      have HO_264004 := n3_
      have HO_264005 := n4_
      have HO274 := n5_
      have HO277 := n6_
      have HO280 := n7_
      have BK233 := n8_
      have BK263 := n9_
      have HB := n10_
      clear n0_ n1_ n2_ n3_ n4_ n5_ n6_ n7_ n8_ n9_ n10_
      (try clear hb)
      (try clear hb2)
      (try clear hk)
      (try clear hi)
      (try clear ho0)
      (try clear ho1)
      (try clear ho2)
      obtain ⟨Ao90, co90, eo90⟩ := Kd.R_slice HO274.out
      (first | subst eo90 | (injection eo90 with f1_ f2_ f3_; have f4_ := f1_.symm; have f5_ := f3_.symm; clear f1_ f2_ f3_; subst f4_; subst f5_))
      obtain ⟨Ao91, co91, eo91⟩ := Kd.R_slice HO277.out
      (first | subst eo91 | (injection eo91 with f1_ f2_ f3_; have f4_ := f1_.symm; have f5_ := f3_.symm; clear f1_ f2_ f3_; subst f4_; subst f5_))
      obtain ⟨Ao92, co92, eo92⟩ := Kd.R_slice HO280.out
      (first | subst eo92 | (injection eo92 with f1_ f2_ f3_; have f4_ := f1_.symm; have f5_ := f3_.symm; clear f1_ f2_ f3_; subst f4_; subst f5_))
      refine hK.out _ _ ⟨(blk_cell BK263.out 0).trans rfl, (blk_cell BK263.out 1).trans rfl, (blk_cell BK263.out 2).trans rfl, (blk_cell BK263.out 3).trans rfl, (blk_cell BK263.out 4).trans rfl, (blk_cell BK263.out 5).trans rfl, (blk_cell BK233.out 0).trans rfl, (blk_cell BK233.out 1).trans rfl, (blk_cell BK233.out 2).trans rfl, (blk_cell BK233.out 3).trans rfl, (blk_cell BK233.out 4).trans rfl, (blk_cell BK233.out 5).trans rfl⟩ (fun hHeld => ?_)
      clear hK K
      refine norm_ (a' := ?_) ?_ ?_
      rotate_left
      ·show Act.put _ (some 43) _ = _
       simp only [Act.put, List.setIfInBounds_toArray, List.set_cons_zero, List.set_cons_succ, i64_w, i32_w]
       rfl
      refine one_ (i := 3) (N := some 44) #[true, true, true, true, false] rfl rfl (by kernel_rfl) (by decide) (fun K hK => ?_)
      refine goes_ Try.func11 (by kernel_rfl) rfl #[.agg #[.int .i64 t251, .int .i64 t252, .int .i64 t253, .slice Ao26 t254.length co26, .slice Ao27 t257.length co27, .slice Ao28 t260.length co28], .agg #[.int .i64 t269, .int .i64 t270, .int .i64 t271, .slice Ao90 t272.length co90, .slice Ao91 t275.length co91, .slice Ao92 t278.length co92]] (by rfl) rfl rfl (by (try simp only [List.map_toArray, List.map_cons, List.map_nil]); first | done | rfl | (simp only [List.length_drop, List.length_take]; rfl)) ?_
      with_reducible refine (laws_eqModel.calls kj10 t251 t252 t253 _ _ t254 _ _ t257 _ _ t260 t269 t270 t271 _ _ t272 _ _ t275 _ _ t278 false _ ?side1 ?side2 ?side3 ?side4 ?side5 ?side6 ?side7 ?side8 ?side9 ?side10 ?side11 ?side12 A38.out).mono ?_
      (case side1 => exact Kd.C_o HO_264003)
      (case side2 => exact (Kd.R_reads' HO_264003.out).2.1)
      (case side3 => exact Kd.C_o HO_264004)
      (case side4 => exact (Kd.R_reads' HO_264004.out).2.1)
      (case side5 => exact Kd.C_o HO_264005)
      (case side6 => exact (Kd.R_reads' HO_264005.out).2.1)
      (case side7 => exact Kd.C_o HO274)
      (case side8 => exact (Kd.R_reads' HO274.out).2.1)
      (case side9 => exact Kd.C_o HO277)
      (case side10 => exact (Kd.R_reads' HO277.out).2.1)
      (case side11 => exact Kd.C_o HO280)
      (case side12 => exact (Kd.R_reads' HO280.out).2.1)
      rintro e w93 ⟨rfl, hb⟩
      refine ⟨_, rfl, ?_⟩
      have n0_ := Aside0.mk (Kd.S_below (by (with_reducible repeat (first | apply Kd.S_alloc | apply Kd.S_drewN | apply Kd.S_drew)); exact HO_4.out) hb)
      have n1_ := Aside0.mk (Kd.S_below (by (with_reducible repeat (first | apply Kd.S_alloc | apply Kd.S_drewN | apply Kd.S_drew)); exact HO_7.out) hb)
      have n2_ := Aside0.mk (Kd.R_below (Kd.R_p HO_264003) hb)
      have n3_ := Aside0.mk (Kd.R_below (Kd.R_p HO_264004) hb)
      have n4_ := Aside0.mk (Kd.R_below (Kd.R_p HO_264005) hb)
      have n5_ := Aside0.mk (Kd.R_below (Kd.R_p HO274) hb)
      have n6_ := Aside0.mk (Kd.R_below (Kd.R_p HO277) hb)
      have n7_ := Aside0.mk (Kd.R_below (Kd.R_p HO280) hb)
      have n8_ := Aside0.mk (blk_below (kp_ BK233) hb)
      have n9_ := Aside0.mk (blk_below (kp_ BK263) hb)
      have n10_ := Aside0.mk (below_step (hb_ HB) hb)
      clear HO_4
      clear HO_7
      clear HO_264003
      clear HO_264004
      clear HO_264005
      clear HO274
      clear HO277
      clear HO280
      clear BK233
      clear BK263
      clear HB
      have HO_4 := n0_
      have HO_7 := n1_
      have HO_264003 := n2_
      have HO_264004 := n3_
      have HO_264005 := n4_
      have HO274 := n5_
      have HO277 := n6_
      have HO280 := n7_
      have BK233 := n8_
      have BK263 := n9_
      have HB := n10_
      clear n0_ n1_ n2_ n3_ n4_ n5_ n6_ n7_ n8_ n9_ n10_
      (try clear hb)
      (try clear hb2)
      (try clear hk)
      (try clear hi)
      refine hK.out _ _ ⟨(blk_cell BK263.out 0).trans rfl, (blk_cell BK263.out 1).trans rfl, (blk_cell BK263.out 2).trans rfl, (blk_cell BK263.out 3).trans rfl, (blk_cell BK263.out 4).trans rfl, (blk_cell BK263.out 5).trans rfl, (blk_cell BK233.out 0).trans rfl, (blk_cell BK233.out 1).trans rfl, (blk_cell BK233.out 2).trans rfl, (blk_cell BK233.out 3).trans rfl, (blk_cell BK233.out 4).trans rfl, (blk_cell BK233.out 5).trans rfl⟩ (fun hHeld => ?_)
      clear hK K
      refine norm_ (a' := ?_) ?_ ?_
      rotate_left
      ·show Act.put _ (some 44) _ = _
       simp only [Act.put, List.setIfInBounds_toArray, List.set_cons_zero, List.set_cons_succ, i64_w, i32_w]
       rfl
      refine pure_ (i := 4) (N := some 45) (v := ?_) (a' := ?_) #[true, true, true, true, true] rfl rfl (by kernel_rfl) (fun _ _ _ h => h) (Or.inl ⟨by rfl, ?_⟩) ?_ ?_
      rotate_left
      ·intro w'
       go_simp
       with_reducible rfl
      rotate_left
      ·simp only [Act.put, List.setIfInBounds_toArray, List.set_cons_zero, List.set_cons_succ, i64_w, i32_w]
       rfl
      refine done_ (by kernel_rfl) ?_
      try go_wp2
      go_ret
      exact ⟨by first | rfl | (simp [errW_none, errW_some] <;> rfl) | (simp [*, errW_none, errW_some] <;> rfl), hb_ HB⟩

end Go.Proofs.Ytdfjlelbkkaloaa.PFnExactLevelSums
