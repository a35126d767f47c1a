-- Laid for this claim by wip/tools/print2.sh, a changed copy of the kit's print (wip/tools/patch_print.py): not by print.sh. Changed by wip/fix/laid.py.
import Derived.Test.YtckhegdfabcehaaDoorPFnExactModelTextx0
import Derived.Test.YtckhegdfabcehaaDoorPFnExactModelTextx1
import Derived.Test.YtckhegdfabcehaaDoorPFnExactModelTextx2
import Derived.Test.YtckhegdfabcehaaDoorPFnExactModelTextx3
import Derived.Test.YtckhegdfabcehaaDoorPFnExactModelTextx5
import Derived.Test.YtckhegdfabcehaaDoorPFnExactModelTextx6
namespace Go.Proofs.YtckhegdfabcehaaDoor.PFnExactModelText
open Go.RowKit Go.Proofs.YtckhegdfabcehaaDoorW.PrintWords Go.Proofs.YtckhegdfabcehaaDoorW.PrintLast Go.Proofs.YtckhegdfabcehaaDoorW.PrintMore
attribute [local go_sem] max2_int min2_int max_two min_two max_three min_three max_four min_four   -- for this text's walks alone
set_option linter.unusedVariables false
set_option linter.unusedSimpArgs false

/-! ### laws_FnExactModelText: function 3 -/
def laws_FnExactModelText.j0 : Nat → Bool → Int → Int → Int → List Int → List Int → List Int → Int → Int → Int → List Int → List Int → List Int → Option (Bool)
 | 0, _, _, _, _, _, _, _, _, _, _, _, _, _ => none
 | k + 1, x34, x211000, x211001, x211002, x211003, x211004, x211005, x239000, x239001, x239002, x239003, x239004, x239005 => if x34 = true then (some false) else ((laws_toModel.f k x211000 x211001 x211002 x211003 x211004 x211005).bind fun bt241 => ((laws_eqModel.f k x239000 x239001 x239002 x239003 x239004 x239005 bt241.1 bt241.2.1 bt241.2.2.1 bt241.2.2.2.1 bt241.2.2.2.2.1 bt241.2.2.2.2.2).bind fun t253 => (if t253 = true then (some true) else (some false))))
def laws_FnExactModelText.f (k : Nat) (a0_0 : Int) (a0_1 : Int) (a0_2 : Int) (l0_3 : List Int) (l0_4 : List Int) (l0_5 : List Int) : Option (Bool) := (laws_szModel.f a0_0 a0_1 a0_2 l0_3 l0_4 l0_5 1048576).bind fun t211 => (if t211 < 0 then (some true) else ((laws_toModel.f k a0_0 a0_1 a0_2 l0_3 l0_4 l0_5).bind fun bt212 => ((spec_ModelText.f k bt212.1 bt212.2.1 bt212.2.2.1 bt212.2.2.2.1 bt212.2.2.2.2.1 bt212.2.2.2.2.2).bind fun bt224 => ((laws_toModel.f k a0_0 a0_1 a0_2 l0_3 l0_4 l0_5).bind fun bt226 => ((impl_ModelText.f k bt226.1 bt226.2.1 bt226.2.2.1 bt226.2.2.2.1 bt226.2.2.2.2.1 bt226.2.2.2.2.2).bind fun bt239 => (if bt239.1.toList = bt224.1.toList then (laws_FnExactModelText.j0 k (bt239.2 != bt224.2) a0_0 a0_1 a0_2 l0_3 l0_4 l0_5 bt226.1 bt226.2.1 bt226.2.2.1 bt226.2.2.2.1 bt226.2.2.2.2.1 bt226.2.2.2.2.2) else (laws_FnExactModelText.j0 k true a0_0 a0_1 a0_2 l0_3 l0_4 l0_5 bt226.1 bt226.2.1 bt226.2.2.1 bt226.2.2.2.1 bt226.2.2.2.2.1 bt226.2.2.2.2.2)))))))
set_option maxHeartbeats 8000000 in
set_option maxRecDepth 100000 in
theorem laws_FnExactModelText.calls (k : Nat) (a0_0 : Int) (a0_1 : Int) (a0_2 : Int) (A0_3 : Option Addr) (c0_3 : Nat) (l0_3 : List Int) (A0_4 : Option Addr) (c0_4 : Nat) (l0_4 : List Int) (A0_5 : Option Addr) (c0_5 : Nat) (l0_5 : List Int) (r : Bool) (w : World) (hr0_3 : Kd.C (Kd.int .i64) w A0_3 l0_3.length l0_3) (hc0_3 : l0_3.length ≤ c0_3) (hr0_4 : Kd.C (Kd.int .i64) w A0_4 l0_4.length l0_4) (hc0_4 : l0_4.length ≤ c0_4) (hr0_5 : Kd.C (Kd.int .i64) w A0_5 l0_5.length l0_5) (hc0_5 : l0_5.length ≤ c0_5) (h : laws_FnExactModelText.f k a0_0 a0_1 a0_2 l0_3 l0_4 l0_5 = some r) (hL : LaidW w) :
  Calls Tryd.prog 3 #[.agg #[.int .i64 a0_0, .int .i64 a0_1, .int .i64 a0_2, .slice A0_3 l0_3.length c0_3, .slice A0_4 l0_4.length c0_4, .slice A0_5 l0_5.length c0_5]] w fun e w' => e = .returned (.bool r) ∧ Below w.heap.size w w' := by
 have HLw := Aside0.mk hL
 clear hL
 have hu26 := Tryd.underlying26
 have hu32 := Tryd.underlying32
 have HR0_3 := Aside0.mk hr0_3
 have HC0_3 := Aside0.mk hc0_3
 clear hr0_3 hc0_3
 have HR0_4 := Aside0.mk hr0_4
 have HC0_4 := Aside0.mk hc0_4
 clear hr0_4 hc0_4
 have HR0_5 := Aside0.mk hr0_5
 have HC0_5 := Aside0.mk hc0_5
 clear hr0_5 hc0_5
 have HB := Aside0.mk (Below.refl w.heap.size w)
 have H : ((laws_szModel.f a0_0 a0_1 a0_2 l0_3 l0_4 l0_5 1048576).bind fun t211 => (if t211 < 0 then (some true) else ((laws_toModel.f k a0_0 a0_1 a0_2 l0_3 l0_4 l0_5).bind fun bt212 => ((spec_ModelText.f k bt212.1 bt212.2.1 bt212.2.2.1 bt212.2.2.2.1 bt212.2.2.2.2.1 bt212.2.2.2.2.2).bind fun bt224 => ((laws_toModel.f k a0_0 a0_1 a0_2 l0_3 l0_4 l0_5).bind fun bt226 => ((impl_ModelText.f k bt226.1 bt226.2.1 bt226.2.2.1 bt226.2.2.2.1 bt226.2.2.2.2.1 bt226.2.2.2.2.2).bind fun bt239 => (if bt239.1.toList = bt224.1.toList then (laws_FnExactModelText.j0 k (bt239.2 != bt224.2) a0_0 a0_1 a0_2 l0_3 l0_4 l0_5 bt226.1 bt226.2.1 bt226.2.2.1 bt226.2.2.2.1 bt226.2.2.2.2.1 bt226.2.2.2.2.2) else (laws_FnExactModelText.j0 k true a0_0 a0_1 a0_2 l0_3 l0_4 l0_5 bt226.1 bt226.2.1 bt226.2.2.1 bt226.2.2.2.1 bt226.2.2.2.2.1 bt226.2.2.2.2.2)))))))) = some r := h
 clear h
 replace H := Option.bind_eq_some_iff.mp H
 obtain ⟨t211, A20, H⟩ := H
 replace H : (if t211 < 0 then (some true) else ((laws_toModel.f k a0_0 a0_1 a0_2 l0_3 l0_4 l0_5).bind fun bt212 => ((spec_ModelText.f k bt212.1 bt212.2.1 bt212.2.2.1 bt212.2.2.2.1 bt212.2.2.2.2.1 bt212.2.2.2.2.2).bind fun bt224 => ((laws_toModel.f k a0_0 a0_1 a0_2 l0_3 l0_4 l0_5).bind fun bt226 => ((impl_ModelText.f k bt226.1 bt226.2.1 bt226.2.2.1 bt226.2.2.2.1 bt226.2.2.2.2.1 bt226.2.2.2.2.2).bind fun bt239 => (if bt239.1.toList = bt224.1.toList then (laws_FnExactModelText.j0 k (bt239.2 != bt224.2) a0_0 a0_1 a0_2 l0_3 l0_4 l0_5 bt226.1 bt226.2.1 bt226.2.2.1 bt226.2.2.2.1 bt226.2.2.2.2.1 bt226.2.2.2.2.2) else (laws_FnExactModelText.j0 k true a0_0 a0_1 a0_2 l0_3 l0_4 l0_5 bt226.1 bt226.2.1 bt226.2.2.1 bt226.2.2.2.1 bt226.2.2.2.2.1 bt226.2.2.2.2.2))))))) = some r := H
 have A2 := Aside0.mk A20
 clear A20
 by_cases c3 : t211 < 0
 ·rw [if_pos c3] at H
  have c3b0 : decide (t211 < 0) = true := decide_eq_true c3
  clear c3
  obtain rfl := Option.some.inj H
  go_enter Tryd.func3, Tryd.ntmps3
  go_wp2_with (first | ((with_reducible refine gate_dst (N := 1) rfl ?_); refine box_event ?hg (N := 1) ?hd (cs := #[.int .i64 a0_0, .int .i64 a0_1, .int .i64 a0_2, .slice A0_3 l0_3.length c0_3, .slice A0_4 l0_4.length c0_4, .slice A0_5 l0_5.length c0_5]) (t := 26) ?hr ?_; (case hd => rfl); (case hg => rfl); (case hr => first | (go_simp; done) | (go_simp; rfl)); intro gb210 hg w4 hbox hb; have BK210 := Aside0.mk (hbox); have GW210 := gs_ hg HB; have GE210 := gs_ hg HB; replace HB := hbs_ HB hb; clear hb hbox hg; obtain ⟨hcz5_0, hcz5_1, hcz5_2, hcz5_3, hcz5_4, hcz5_5, hfz5_0, hfz5_1, hfz5_2, hfz5_3, hfz5_4, hfz5_5⟩ := bx6 BK210) | ((with_reducible refine gate_callee (f := 4) rfl ?_); refine gl_ (some 11) Tryd.func4 #[.agg #[.int .i64 a0_0, .int .i64 a0_1, .int .i64 a0_2, .slice A0_3 l0_3.length c0_3, .slice A0_4 l0_4.length c0_4, .slice A0_5 l0_5.length c0_5], .int .i64 1048576] rfl rfl rfl ?_; (with_reducible refine (laws_szModel.calls a0_0 a0_1 a0_2 _ _ l0_3 _ _ l0_4 _ _ l0_5 1048576 t211 _ ?side1 ?side2 ?side3 ?side4 ?side5 ?side6 A2.out).mono ?_); (case side1 => exact Kd.C_w HR0_3 HB); (case side2 => exact HC0_3.out); (case side3 => exact Kd.C_w HR0_4 HB); (case side4 => exact HC0_4.out); (case side5 => exact Kd.C_w HR0_5 HB); (case side6 => exact HC0_5.out); rintro e w6 ⟨rfl, hb⟩; refine ⟨_, rfl, ?_⟩; replace BK210 := kb_ BK210 hb; replace HB := hbs_ HB hb; (try clear hb); (try clear hb2); (try clear hk); (try clear hi)))
  go_ret
  exact ⟨by first | rfl | (simp [errW_none, errW_some] <;> rfl) | (simp [*, errW_none, errW_some] <;> rfl), hb_ HB⟩
 ·rw [if_neg c3] at H
  have c3b0 : decide (t211 < 0) = false := decide_eq_false c3
  clear c3
  replace H := Option.bind_eq_some_iff.mp H
  obtain ⟨⟨t212, t213, t214, t215, t218, t221⟩, A70, H⟩ := H
  replace H : ((spec_ModelText.f k t212 t213 t214 t215 t218 t221).bind fun bt224 => ((laws_toModel.f k a0_0 a0_1 a0_2 l0_3 l0_4 l0_5).bind fun bt226 => ((impl_ModelText.f k bt226.1 bt226.2.1 bt226.2.2.1 bt226.2.2.2.1 bt226.2.2.2.2.1 bt226.2.2.2.2.2).bind fun bt239 => (if bt239.1.toList = bt224.1.toList then (laws_FnExactModelText.j0 k (bt239.2 != bt224.2) a0_0 a0_1 a0_2 l0_3 l0_4 l0_5 bt226.1 bt226.2.1 bt226.2.2.1 bt226.2.2.2.1 bt226.2.2.2.2.1 bt226.2.2.2.2.2) else (laws_FnExactModelText.j0 k true a0_0 a0_1 a0_2 l0_3 l0_4 l0_5 bt226.1 bt226.2.1 bt226.2.2.1 bt226.2.2.2.1 bt226.2.2.2.2.1 bt226.2.2.2.2.2))))) = some r := H
  have A7 := Aside0.mk A70
  clear A70
  replace H := Option.bind_eq_some_iff.mp H
  obtain ⟨⟨t224, t225⟩, A80, H⟩ := H
  replace H : ((laws_toModel.f k a0_0 a0_1 a0_2 l0_3 l0_4 l0_5).bind fun bt226 => ((impl_ModelText.f k bt226.1 bt226.2.1 bt226.2.2.1 bt226.2.2.2.1 bt226.2.2.2.2.1 bt226.2.2.2.2.2).bind fun bt239 => (if bt239.1.toList = t224.toList then (laws_FnExactModelText.j0 k (bt239.2 != t225) a0_0 a0_1 a0_2 l0_3 l0_4 l0_5 bt226.1 bt226.2.1 bt226.2.2.1 bt226.2.2.2.1 bt226.2.2.2.2.1 bt226.2.2.2.2.2) else (laws_FnExactModelText.j0 k true a0_0 a0_1 a0_2 l0_3 l0_4 l0_5 bt226.1 bt226.2.1 bt226.2.2.1 bt226.2.2.2.1 bt226.2.2.2.2.1 bt226.2.2.2.2.2)))) = some r := H
  have A8 := Aside0.mk A80
  clear A80
  replace H := Option.bind_eq_some_iff.mp H
  obtain ⟨⟨t226, t227, t228, t229, t232, t235⟩, A90, H⟩ := H
  replace H : ((impl_ModelText.f k t226 t227 t228 t229 t232 t235).bind fun bt239 => (if bt239.1.toList = t224.toList then (laws_FnExactModelText.j0 k (bt239.2 != t225) a0_0 a0_1 a0_2 l0_3 l0_4 l0_5 t226 t227 t228 t229 t232 t235) else (laws_FnExactModelText.j0 k true a0_0 a0_1 a0_2 l0_3 l0_4 l0_5 t226 t227 t228 t229 t232 t235))) = some r := H
  have A9 := Aside0.mk A90
  clear A90
  replace H := Option.bind_eq_some_iff.mp H
  obtain ⟨⟨t239, t240⟩, A100, H⟩ := H
  replace H : (if t239.toList = t224.toList then (laws_FnExactModelText.j0 k (t240 != t225) a0_0 a0_1 a0_2 l0_3 l0_4 l0_5 t226 t227 t228 t229 t232 t235) else (laws_FnExactModelText.j0 k true a0_0 a0_1 a0_2 l0_3 l0_4 l0_5 t226 t227 t228 t229 t232 t235)) = some r := H
  have A10 := Aside0.mk A100
  clear A100
  have HC11 := Aside0.mk H
  clear H
  go_enter Tryd.func3, Tryd.ntmps3
  go_upto_region 8 with (first | ((with_reducible refine gate_dst (N := 1) rfl ?_); refine box_event ?hg (N := 1) ?hd (cs := #[.int .i64 a0_0, .int .i64 a0_1, .int .i64 a0_2, .slice A0_3 l0_3.length c0_3, .slice A0_4 l0_4.length c0_4, .slice A0_5 l0_5.length c0_5]) (t := 26) ?hr ?_; (case hd => rfl); (case hg => rfl); (case hr => first | (go_simp; done) | (go_simp; rfl)); intro gb210 hg w12 hbox hb; have BK210 := Aside0.mk (hbox); have GW210 := gs_ hg HB; have GE210 := gs_ hg HB; replace HB := hbs_ HB hb; clear hb hbox hg; obtain ⟨hcz13_0, hcz13_1, hcz13_2, hcz13_3, hcz13_4, hcz13_5, hfz13_0, hfz13_1, hfz13_2, hfz13_3, hfz13_4, hfz13_5⟩ := bx6 BK210) | ((with_reducible refine gate_callee (f := 4) rfl ?_); refine gl_ (some 11) Tryd.func4 #[.agg #[.int .i64 a0_0, .int .i64 a0_1, .int .i64 a0_2, .slice A0_3 l0_3.length c0_3, .slice A0_4 l0_4.length c0_4, .slice A0_5 l0_5.length c0_5], .int .i64 1048576] rfl rfl rfl ?_; (with_reducible refine (laws_szModel.calls a0_0 a0_1 a0_2 _ _ l0_3 _ _ l0_4 _ _ l0_5 1048576 t211 _ ?side1 ?side2 ?side3 ?side4 ?side5 ?side6 A2.out).mono ?_); (case side1 => exact Kd.C_w HR0_3 HB); (case side2 => exact HC0_3.out); (case side3 => exact Kd.C_w HR0_4 HB); (case side4 => exact HC0_4.out); (case side5 => exact Kd.C_w HR0_5 HB); (case side6 => exact HC0_5.out); rintro e w14 ⟨rfl, hb⟩; refine ⟨_, rfl, ?_⟩; replace BK210 := kb_ BK210 hb; replace HB := hbs_ HB hb; (try clear hb); (try clear hb2); (try clear hk); (try clear hi); obtain ⟨hcz15_0, hcz15_1, hcz15_2, hcz15_3, hcz15_4, hcz15_5, hfz15_0, hfz15_1, hfz15_2, hfz15_3, hfz15_4, hfz15_5⟩ := bx6 BK210) | ((with_reducible refine gate_callee (f := 6) rfl ?_); refine gl_ (some 16) Tryd.func6 #[.agg #[.int .i64 a0_0, .int .i64 a0_1, .int .i64 a0_2, .slice A0_3 l0_3.length c0_3, .slice A0_4 l0_4.length c0_4, .slice A0_5 l0_5.length c0_5]] rfl rfl rfl ?_; (with_reducible refine (laws_toModel.calls k a0_0 a0_1 a0_2 _ _ l0_3 _ _ l0_4 _ _ l0_5 t212 t213 t214 t215 t218 t221 _ ?side1 ?side2 ?side3 ?side4 ?side5 ?side6 A7.out).mono ?_); (case side1 => exact Kd.C_w HR0_3 HB); (case side2 => exact HC0_3.out); (case side3 => exact Kd.C_w HR0_4 HB); (case side4 => exact HC0_4.out); (case side5 => exact Kd.C_w HR0_5 HB); (case side6 => exact HC0_5.out); rintro e w16 ⟨v216, v219, v222, rfl, ho0, ho1, ho2, hb⟩; refine ⟨_, rfl, ?_⟩; have HO217 := Kd.R_lo ho0 HB; have HO220 := Kd.R_lo ho1 HB; have HO223 := Kd.R_lo ho2 HB; replace BK210 := kb_ BK210 hb; replace HB := hbs_ HB hb; (try clear hb); (try clear hb2); (try clear hk); (try clear hi); (try clear ho0); (try clear ho1); (try clear ho2); obtain ⟨Ao17, co17, eo17⟩ := Kd.R_slice HO217.out; subst eo17; obtain ⟨Ao18, co18, eo18⟩ := Kd.R_slice HO220.out; subst eo18; obtain ⟨Ao19, co19, eo19⟩ := Kd.R_slice HO223.out; subst eo19) | ((with_reducible refine gate_callee (f := 5) rfl ?_); refine gl_ (some 17) Tryd.func5 #[.agg #[.int .i64 t212, .int .i64 t213, .int .i64 t214, .slice Ao17 t215.length co17, .slice Ao18 t218.length co18, .slice Ao19 t221.length co19]] rfl rfl rfl ?_; (with_reducible refine (spec_ModelText.calls k t212 t213 t214 _ _ t215 _ _ t218 _ _ t221 t224 t225 _ ?side1 ?side2 ?side3 ?side4 ?side5 ?side6 A8.out).mono ?_); (case side1 => exact Kd.C_o HO217); (case side2 => exact (Kd.R_reads' HO217.out).2.1); (case side3 => exact Kd.C_o HO220); (case side4 => exact (Kd.R_reads' HO220.out).2.1); (case side5 => exact Kd.C_o HO223); (case side6 => exact (Kd.R_reads' HO223.out).2.1); rintro e w20 ⟨rfl, hb⟩; refine ⟨_, rfl, ?_⟩; replace HO217 := Kd.R_b HO217 hb; replace HO220 := Kd.R_b HO220 hb; replace HO223 := Kd.R_b HO223 hb; replace BK210 := kb_ BK210 hb; replace HB := hbs_ HB hb; (try clear hb); (try clear hb2); (try clear hk); (try clear hi); obtain ⟨hcz21_0, hcz21_1, hcz21_2, hcz21_3, hcz21_4, hcz21_5, hfz21_0, hfz21_1, hfz21_2, hfz21_3, hfz21_4, hfz21_5⟩ := bx6 BK210; try clear HO217; try clear HO220; try clear HO223) | ((with_reducible refine gate_callee (f := 6) rfl ?_); refine gl_ (some 21) Tryd.func6 #[.agg #[.int .i64 a0_0, .int .i64 a0_1, .int .i64 a0_2, .slice A0_3 l0_3.length c0_3, .slice A0_4 l0_4.length c0_4, .slice A0_5 l0_5.length c0_5]] rfl rfl rfl ?_; (with_reducible refine (laws_toModel.calls k a0_0 a0_1 a0_2 _ _ l0_3 _ _ l0_4 _ _ l0_5 t226 t227 t228 t229 t232 t235 _ ?side1 ?side2 ?side3 ?side4 ?side5 ?side6 A9.out).mono ?_); (case side1 => exact Kd.C_w HR0_3 HB); (case side2 => exact HC0_3.out); (case side3 => exact Kd.C_w HR0_4 HB); (case side4 => exact HC0_4.out); (case side5 => exact Kd.C_w HR0_5 HB); (case side6 => exact HC0_5.out); rintro e w22 ⟨v230, v233, v236, rfl, ho0, ho1, ho2, hb⟩; refine ⟨_, rfl, ?_⟩; have HO231 := Kd.R_lo ho0 HB; have HO234 := Kd.R_lo ho1 HB; have HO237 := Kd.R_lo ho2 HB; replace BK210 := kb_ BK210 hb; replace HB := hbs_ HB hb; (try clear hb); (try clear hb2); (try clear hk); (try clear hi); (try clear ho0); (try clear ho1); (try clear ho2)) | ((with_reducible refine gate_dst (N := 6) rfl ?_); refine box_event ?hg (N := 6) ?hd (cs := #[.int .i64 0, .int .i64 0, .int .i64 0, .slice none 0 0, .slice none 0 0, .slice none 0 0]) (t := 32) ?hr ?_; (case hd => rfl); (case hg => rfl); (case hr => first | (go_simp; done) | (go_simp; rfl)); intro gb238 hg w23 hbox hb; have BK238 := Aside0.mk (hbox); have GW238 := gs_ hg HB; have GE238 := gs_ hg HB; have NB210_238 := nl_ hg BK210; have NB238_210 := ng_ hg BK210; replace HO231 := Kd.R_b HO231 hb; replace HO234 := Kd.R_b HO234 hb; replace HO237 := Kd.R_b HO237 hb; replace BK210 := kb_ BK210 hb; replace HB := hbs_ HB hb; clear hb hbox hg; have hnb24 := NB238_210.out; have hnc24 := NB210_238.out; obtain ⟨hcz25_0, hcz25_1, hcz25_2, hcz25_3, hcz25_4, hcz25_5, hfz25_0, hfz25_1, hfz25_2, hfz25_3, hfz25_4, hfz25_5⟩ := bx6 BK238; obtain ⟨Ao26, co26, eo26⟩ := Kd.R_slice HO231.out; subst eo26; obtain ⟨Ao27, co27, eo27⟩ := Kd.R_slice HO234.out; subst eo27; obtain ⟨Ao28, co28, eo28⟩ := Kd.R_slice HO237.out; subst eo28) | ((with_reducible refine gate_callee (f := 7) rfl ?_); refine gl_ (some 24) Tryd.func7 #[.agg #[.int .i64 t226, .int .i64 t227, .int .i64 t228, .slice Ao26 t229.length co26, .slice Ao27 t232.length co27, .slice Ao28 t235.length co28]] rfl rfl rfl ?_; (with_reducible refine (impl_ModelText.calls k t226 t227 t228 _ _ t229 _ _ t232 _ _ t235 t239 t240 _ ?side1 ?side2 ?side3 ?side4 ?side5 ?side6 A10.out (by exact LaidW.step HLw (hb_ HB))).mono ?_); (case side1 => exact (Kd.R_reads' (Kd.R_s HO231 BK238)).2.2); (case side2 => exact (Kd.R_reads' HO231.out).2.1); (case side3 => exact (Kd.R_reads' (Kd.R_s HO234 BK238)).2.2); (case side4 => exact (Kd.R_reads' HO234.out).2.1); (case side5 => exact (Kd.R_reads' (Kd.R_s HO237 BK238)).2.2); (case side6 => exact (Kd.R_reads' HO237.out).2.1); rintro e w29 ⟨rfl, hb⟩; refine ⟨_, rfl, ?_⟩; replace HO231 := Kd.R_sb HO231 BK238 hb; replace HO234 := Kd.R_sb HO234 BK238 hb; replace HO237 := Kd.R_sb HO237 BK238 hb; replace BK210 := kfb_ BK210 NB210_238 hb; replace HB := hbs_ HB hb; replace BK238 := Aside0.mk (blk_below (g := gb238) (o := .cells #[.int .i64 t226, .int .i64 t227, .int .i64 t228, .slice Ao26 t229.length co26, .slice Ao27 t232.length co27, .slice Ao28 t235.length co28] 32 (0, 0)) (kpq_ (kputs BK238 [(0, _), (1, _), (2, _), (3, _), (4, _), (5, _)])) hb); (try clear hb); (try clear hb2); (try clear hk); (try clear hi)))
  (try simp only [Act.put, List.setIfInBounds_toArray, List.set_cons_zero, List.set_cons_succ])
  go_cut [34] (fun v34 wc => ∃ (kq : Nat) (x34_10 : Bool), v34 = .bool x34_10 ∧ Aside0 (laws_FnExactModelText.j0 kq x34_10 a0_0 a0_1 a0_2 l0_3 l0_4 l0_5 t226 t227 t228 t229 t232 t235 = some r) ∧ Aside0 (kq ≤ k) ∧ Aside0 (Kd.R (Kd.int .i64) 3 wc w.heap.size (fun k_ => some k_ ≠ ((.slice Ao27 t232.length co27) : Value).ownBlock ∧ some k_ ≠ ((.slice Ao28 t235.length co28) : Value).ownBlock) (.slice Ao26 t229.length co26) t229) ∧ Aside0 (Kd.R (Kd.int .i64) 3 wc w.heap.size (fun k_ => some k_ ≠ ((.slice Ao26 t229.length co26) : Value).ownBlock ∧ some k_ ≠ ((.slice Ao28 t235.length co28) : Value).ownBlock) (.slice Ao27 t232.length co27) t232) ∧ Aside0 (Kd.R (Kd.int .i64) 3 wc w.heap.size (fun k_ => some k_ ≠ ((.slice Ao26 t229.length co26) : Value).ownBlock ∧ some k_ ≠ ((.slice Ao27 t232.length co27) : Value).ownBlock) (.slice Ao28 t235.length co28) t235) ∧ Aside0 (wc.heap[gb210]? = some (.cells #[.int .i64 a0_0, .int .i64 a0_1, .int .i64 a0_2, (.slice A0_3 l0_3.length c0_3), (.slice A0_4 l0_4.length c0_4), (.slice A0_5 l0_5.length c0_5)] 26 (0, 0))) ∧ Aside0 (wc.heap[gb238]? = some (.cells #[.int .i64 t226, .int .i64 t227, .int .i64 t228, (.slice Ao26 t229.length co26), (.slice Ao27 t232.length co27), (.slice Ao28 t235.length co28)] 32 (0, 0))) ∧ Aside0 (Below w.heap.size w wc))
  case first =>
   have H := HC11.out
   clear HC11
   by_cases c30 : t239.toList = t224.toList
   ·rw [if_pos c30] at H
    have c30b0 : (t239.toList == t224.toList) = true := beq_iff_eq.mpr c30
    have c30b1 : (t239.toList != t224.toList) = false := bne_eq_false_iff_eq.mpr c30
    clear c30
    (first | rw [c30b0] | (simp only [i64_w, i32_w]; rw [c30b0]) | skip)
    have H' := Aside0.mk H
    clear H
    go_wp2
    go_meet
    case rel => exact ⟨_, ((t240 != t225)), (by first | rfl | (simp; done) | (simp [*]; done)), H', ⟨by first | omega | exact Nat.le_refl _⟩, ⟨Kd.R_p HO231⟩, ⟨Kd.R_p HO234⟩, ⟨Kd.R_p HO237⟩, ⟨kp_ BK210⟩, ⟨kp_ BK238⟩, ⟨hb_ HB⟩⟩
   ·rw [if_neg c30] at H
    have c30b0 : (t239.toList == t224.toList) = false := beq_eq_false_iff_ne.mpr c30
    have c30b1 : (t239.toList != t224.toList) = true := bne_iff_ne.mpr c30
    (first | rw [c30b0] | (simp only [i64_w, i32_w]; rw [c30b0]) | skip)
    have H' := Aside0.mk H
    clear H
    go_wp2
    go_meet
    case rel => exact ⟨_, (true), (by first | rfl | (simp; done) | (simp [*]; done)), H', ⟨by first | omega | exact Nat.le_refl _⟩, ⟨Kd.R_p HO231⟩, ⟨Kd.R_p HO234⟩, ⟨Kd.R_p HO237⟩, ⟨kp_ BK210⟩, ⟨kp_ BK238⟩, ⟨hb_ HB⟩⟩
  case rest =>
   clear HC11
   (try clear c2); (try clear p2); (try clear c3); (try clear c3b0); (try clear c4); (try clear c5); (try clear c6); (try clear c7); (try clear c24); (try clear c30); (try clear c30b0); (try clear c30b1); (try clear hcz13_0); (try clear hcz13_1); (try clear hcz13_2); (try clear hcz13_3); (try clear hcz13_4); (try clear hcz13_5); (try clear hcz15_0); (try clear hcz15_1); (try clear hcz15_2); (try clear hcz15_3); (try clear hcz15_4); (try clear hcz15_5); (try clear hcz21_0); (try clear hcz21_1); (try clear hcz21_2); (try clear hcz21_3); (try clear hcz21_4); (try clear hcz21_5); (try clear hcz25_0); (try clear hcz25_1); (try clear hcz25_2); (try clear hcz25_3); (try clear hcz25_4); (try clear hcz25_5); (try clear hfz13_0); (try clear hfz13_1); (try clear hfz13_2); (try clear hfz13_3); (try clear hfz13_4); (try clear hfz13_5); (try clear hfz15_0); (try clear hfz15_1); (try clear hfz15_2); (try clear hfz15_3); (try clear hfz15_4); (try clear hfz15_5); (try clear hfz21_0); (try clear hfz21_1); (try clear hfz21_2); (try clear hfz21_3); (try clear hfz21_4); (try clear hfz21_5); (try clear hfz25_0); (try clear hfz25_1); (try clear hfz25_2); (try clear hfz25_3); (try clear hfz25_4); (try clear hfz25_5)
   obtain ⟨kq, x34_10, rfl, HA, HJ10, HO_239003, HO_239004, HO_239005, BK210, BK238, HB⟩ := hcut
   cases kq with
   | zero => exact absurd HA.out (by simp [laws_FnExactModelText.j0])
   | succ kj10 =>
    have H := HA.out
    clear HA
    simp only [laws_FnExactModelText.j0] at H
    by_cases c31 : x34_10 = true
    ·subst c31
     have H1 : (some false) = some r := by rw [if_pos rfl] at H; exact H
     clear H
     have H := H1
     clear H1
     obtain rfl := Option.some.inj H
     go_wp2
     go_ret
     exact ⟨by first | rfl | (simp [errW_none, errW_some] <;> rfl) | (simp [*, errW_none, errW_some] <;> rfl), hb_ HB⟩
    ·replace c31 := Bool.eq_false_iff.mpr c31
     subst c31
     have H1 : ((laws_toModel.f kj10 a0_0 a0_1 a0_2 l0_3 l0_4 l0_5).bind fun bt241 => ((laws_eqModel.f kj10 t226 t227 t228 t229 t232 t235 bt241.1 bt241.2.1 bt241.2.2.1 bt241.2.2.2.1 bt241.2.2.2.2.1 bt241.2.2.2.2.2).bind fun t253 => (if t253 = true then (some true) else (some false)))) = some r := by rw [if_neg (show ¬ (false = true) by decide)] at H; exact H
     clear H
     have H := H1
     clear H1
     replace H := Option.bind_eq_some_iff.mp H
     obtain ⟨⟨t241, t242, t243, t244, t247, t250⟩, A320, H⟩ := H
     replace H : ((laws_eqModel.f kj10 t226 t227 t228 t229 t232 t235 t241 t242 t243 t244 t247 t250).bind fun t253 => (if t253 = true then (some true) else (some false))) = some r := H
     have A32 := Aside0.mk A320
     clear A320
     replace H := Option.bind_eq_some_iff.mp H
     obtain ⟨t253, A330, H⟩ := H
     replace H : (if t253 = true then (some true) else (some false)) = some r := H
     have A33 := Aside0.mk A330
     clear A330
     by_cases c34 : t253 = true
     ·subst c34
      have H1 : (some true) = some r := by rw [if_pos rfl] at H; exact H
      clear H
      have H := H1
      clear H1
      obtain rfl := Option.some.inj H
      try go_wp2
      have n0_ := Aside0.mk (Kd.R_drew HO_239003.out)
      have n1_ := Aside0.mk (Kd.R_drew HO_239004.out)
      have n2_ := Aside0.mk (Kd.R_drew HO_239005.out)
      have n3_ := Aside0.mk (blk_drew BK210.out)
      have n4_ := Aside0.mk (blk_drew BK238.out)
      have n5_ := Aside0.mk (below_drew1 HB.out)
      clear HO_239003
      clear HO_239004
      clear HO_239005
      clear BK210
      clear BK238
      clear HB
      have HO_239003 := n0_
      have HO_239004 := n1_
      have HO_239005 := n2_
      have BK210 := n3_
      have BK238 := n4_
      have HB := n5_
      clear n0_ n1_ n2_ n3_ n4_ n5_
      refine start_ (n := 5) (S := fun w' => w'.cell? ⟨gb238, 0, none⟩ = some (.int .i64 t226) ∧ w'.cell? ⟨gb238, 1, none⟩ = some (.int .i64 t227) ∧ w'.cell? ⟨gb238, 2, none⟩ = some (.int .i64 t228) ∧ w'.cell? ⟨gb238, 3, none⟩ = some (.slice Ao26 t229.length co26) ∧ w'.cell? ⟨gb238, 4, none⟩ = some (.slice Ao27 t232.length co27) ∧ w'.cell? ⟨gb238, 5, none⟩ = some (.slice Ao28 t235.length co28) ∧ w'.cell? ⟨gb210, 0, none⟩ = some (.int .i64 a0_0) ∧ w'.cell? ⟨gb210, 1, none⟩ = some (.int .i64 a0_1) ∧ w'.cell? ⟨gb210, 2, none⟩ = some (.int .i64 a0_2) ∧ w'.cell? ⟨gb210, 3, none⟩ = some (.slice A0_3 l0_3.length c0_3) ∧ w'.cell? ⟨gb210, 4, none⟩ = some (.slice A0_4 l0_4.length c0_4) ∧ w'.cell? ⟨gb210, 5, none⟩ = some (.slice A0_5 l0_5.length c0_5)) (ds := []) #[false, false, false, false, false] (by kernel_rfl) rfl rfl ⟨(blk_cell BK238.out 0).trans rfl, (blk_cell BK238.out 1).trans rfl, (blk_cell BK238.out 2).trans rfl, (blk_cell BK238.out 3).trans rfl, (blk_cell BK238.out 4).trans rfl, (blk_cell BK238.out 5).trans rfl, (blk_cell BK210.out 0).trans rfl, (blk_cell BK210.out 1).trans rfl, (blk_cell BK210.out 2).trans rfl, (blk_cell BK210.out 3).trans rfl, (blk_cell BK210.out 4).trans rfl, (blk_cell BK210.out 5).trans rfl⟩ (fun hHeld => ?_)
      generalize wc.drew = w35 at HO_239003 HO_239004 HO_239005 BK210 BK238 HB hHeld ⊢
      refine take_ (i := 0) (N := some 35) (v := ?_) (a' := ?_) #[true, false, false, false, false] rfl rfl (by kernel_rfl) (fun _ _ _ h => h) (Or.inl ⟨by rfl, ?_⟩) hHeld ?_ ?_
      rotate_left
      ·rintro w' ⟨s0, s1, s2, s3, s4, s5, s6, s7, s8, s9, s10, s11⟩
       go_simp
       with_reducible rfl
      rotate_left
      ·simp only [Act.put, List.setIfInBounds_toArray, List.set_cons_zero, List.set_cons_succ, i64_w, i32_w]
       rfl
      refine take_ (i := 1) (N := some 36) (v := ?_) (a' := ?_) #[true, true, false, false, false] rfl rfl (by kernel_rfl) (fun _ _ _ h => h) (Or.inl ⟨by rfl, ?_⟩) hHeld ?_ ?_
      rotate_left
      ·rintro w' ⟨s0, s1, s2, s3, s4, s5, s6, s7, s8, s9, s10, s11⟩
       go_simp
       with_reducible rfl
      rotate_left
      ·simp only [Act.put, List.setIfInBounds_toArray, List.set_cons_zero, List.set_cons_succ, i64_w, i32_w]
       rfl
      refine one_ (i := 2) (N := some 37) #[true, true, true, false, false] rfl rfl (by kernel_rfl) (by decide) (fun K hK => ?_)
      refine goes_ Tryd.func6 (by kernel_rfl) rfl #[.agg #[.int .i64 a0_0, .int .i64 a0_1, .int .i64 a0_2, .slice A0_3 l0_3.length c0_3, .slice A0_4 l0_4.length c0_4, .slice A0_5 l0_5.length c0_5]] (by rfl) rfl rfl (by (try simp only [List.map_toArray, List.map_cons, List.map_nil]); first | done | rfl | (simp only [List.length_drop, List.length_take]; rfl)) ?_
      with_reducible refine (laws_toModel.calls kj10 a0_0 a0_1 a0_2 _ _ l0_3 _ _ l0_4 _ _ l0_5 t241 t242 t243 t244 t247 t250 _ ?side1 ?side2 ?side3 ?side4 ?side5 ?side6 A32.out).mono ?_
      (case side1 => exact Kd.C_w HR0_3 HB)
      (case side2 => exact HC0_3.out)
      (case side3 => exact Kd.C_w HR0_4 HB)
      (case side4 => exact HC0_4.out)
      (case side5 => exact Kd.C_w HR0_5 HB)
      (case side6 => exact HC0_5.out)
      rintro e w36 ⟨v245, v248, v251, rfl, ho0, ho1, ho2, hb⟩
      refine ⟨_, rfl, ?_⟩
      have n0_ := Aside0.mk (Kd.R_mono (Kd.R_told (Kd.R_told (Kd.R_told (Kd.R_old (Kd.R_p HO_239003) hb) (Kd.R_base ho0)) (Kd.R_base ho1)) (Kd.R_base ho2)) (fun _ h_ => h_.1))
      have n1_ := Aside0.mk (Kd.R_mono (Kd.R_told (Kd.R_told (Kd.R_told (Kd.R_old (Kd.R_p HO_239004) hb) (Kd.R_base ho0)) (Kd.R_base ho1)) (Kd.R_base ho2)) (fun _ h_ => h_.1))
      have n2_ := Aside0.mk (Kd.R_mono (Kd.R_told (Kd.R_told (Kd.R_told (Kd.R_old (Kd.R_p HO_239005) hb) (Kd.R_base ho0)) (Kd.R_base ho1)) (Kd.R_base ho2)) (fun _ h_ => h_.1))
      have n3_ := Aside0.mk (Kd.R_lower (Kd.R_nw (Kd.R_nw (Kd.R_nw ho0 HO_239003) HO_239004) HO_239005) (below_size (hb_ HB)))
      have n4_ := Aside0.mk (Kd.R_lower (Kd.R_nw (Kd.R_nw (Kd.R_nw ho1 HO_239003) HO_239004) HO_239005) (below_size (hb_ HB)))
      have n5_ := Aside0.mk (Kd.R_lower (Kd.R_nw (Kd.R_nw (Kd.R_nw ho2 HO_239003) HO_239004) HO_239005) (below_size (hb_ HB)))
      have n6_ := Aside0.mk (blk_below (kp_ BK210) hb)
      have n7_ := Aside0.mk (blk_below (kp_ BK238) hb)
      have n8_ := Aside0.mk (below_step (hb_ HB) hb)
      clear HO_239003
      clear HO_239004
      clear HO_239005
      clear BK210
      clear BK238
      clear HB
      have HO_239003 := n0_
      have HO_239004 := n1_
      have HO_239005 := n2_
      have HO246 := n3_
      have HO249 := n4_
      have HO252 := n5_
      have BK210 := n6_
      have BK238 := n7_
      have HB := n8_
      clear n0_ n1_ n2_ n3_ n4_ n5_ n6_ n7_ n8_
      (try clear hb)
      (try clear hb2)
      (try clear hk)
      (try clear hi)
      (try clear ho0)
      (try clear ho1)
      (try clear ho2)
      obtain ⟨Ao37, co37, eo37⟩ := Kd.R_slice HO246.out
      (first | subst eo37 | (injection eo37 with f1_ f2_ f3_; have f4_ := f1_.symm; have f5_ := f3_.symm; clear f1_ f2_ f3_; subst f4_; subst f5_))
      obtain ⟨Ao38, co38, eo38⟩ := Kd.R_slice HO249.out
      (first | subst eo38 | (injection eo38 with f1_ f2_ f3_; have f4_ := f1_.symm; have f5_ := f3_.symm; clear f1_ f2_ f3_; subst f4_; subst f5_))
      obtain ⟨Ao39, co39, eo39⟩ := Kd.R_slice HO252.out
      (first | subst eo39 | (injection eo39 with f1_ f2_ f3_; have f4_ := f1_.symm; have f5_ := f3_.symm; clear f1_ f2_ f3_; subst f4_; subst f5_))
      refine hK.out _ _ ⟨(blk_cell BK238.out 0).trans rfl, (blk_cell BK238.out 1).trans rfl, (blk_cell BK238.out 2).trans rfl, (blk_cell BK238.out 3).trans rfl, (blk_cell BK238.out 4).trans rfl, (blk_cell BK238.out 5).trans rfl, (blk_cell BK210.out 0).trans rfl, (blk_cell BK210.out 1).trans rfl, (blk_cell BK210.out 2).trans rfl, (blk_cell BK210.out 3).trans rfl, (blk_cell BK210.out 4).trans rfl, (blk_cell BK210.out 5).trans rfl⟩ (fun hHeld => ?_)
      clear hK K
      refine norm_ (a' := ?_) ?_ ?_
      rotate_left
      ·show Act.put _ (some 37) _ = _
       simp only [Act.put, List.setIfInBounds_toArray, List.set_cons_zero, List.set_cons_succ, i64_w, i32_w]
       rfl
      refine one_ (i := 3) (N := some 38) #[true, true, true, true, false] rfl rfl (by kernel_rfl) (by decide) (fun K hK => ?_)
      refine goes_ Tryd.func8 (by kernel_rfl) rfl #[.agg #[.int .i64 t226, .int .i64 t227, .int .i64 t228, .slice Ao26 t229.length co26, .slice Ao27 t232.length co27, .slice Ao28 t235.length co28], .agg #[.int .i64 t241, .int .i64 t242, .int .i64 t243, .slice Ao37 t244.length co37, .slice Ao38 t247.length co38, .slice Ao39 t250.length co39]] (by rfl) rfl rfl (by (try simp only [List.map_toArray, List.map_cons, List.map_nil]); first | done | rfl | (simp only [List.length_drop, List.length_take]; rfl)) ?_
      with_reducible refine (laws_eqModel.calls kj10 t226 t227 t228 _ _ t229 _ _ t232 _ _ t235 t241 t242 t243 _ _ t244 _ _ t247 _ _ t250 true _ ?side1 ?side2 ?side3 ?side4 ?side5 ?side6 ?side7 ?side8 ?side9 ?side10 ?side11 ?side12 A33.out).mono ?_
      (case side1 => exact Kd.C_o HO_239003)
      (case side2 => exact (Kd.R_reads' HO_239003.out).2.1)
      (case side3 => exact Kd.C_o HO_239004)
      (case side4 => exact (Kd.R_reads' HO_239004.out).2.1)
      (case side5 => exact Kd.C_o HO_239005)
      (case side6 => exact (Kd.R_reads' HO_239005.out).2.1)
      (case side7 => exact Kd.C_o HO246)
      (case side8 => exact (Kd.R_reads' HO246.out).2.1)
      (case side9 => exact Kd.C_o HO249)
      (case side10 => exact (Kd.R_reads' HO249.out).2.1)
      (case side11 => exact Kd.C_o HO252)
      (case side12 => exact (Kd.R_reads' HO252.out).2.1)
      rintro e w40 ⟨rfl, hb⟩
      refine ⟨_, rfl, ?_⟩
      have n0_ := Aside0.mk (Kd.R_below (Kd.R_p HO_239003) hb)
      have n1_ := Aside0.mk (Kd.R_below (Kd.R_p HO_239004) hb)
      have n2_ := Aside0.mk (Kd.R_below (Kd.R_p HO_239005) hb)
      have n3_ := Aside0.mk (Kd.R_below (Kd.R_p HO246) hb)
      have n4_ := Aside0.mk (Kd.R_below (Kd.R_p HO249) hb)
      have n5_ := Aside0.mk (Kd.R_below (Kd.R_p HO252) hb)
      have n6_ := Aside0.mk (blk_below (kp_ BK210) hb)
      have n7_ := Aside0.mk (blk_below (kp_ BK238) hb)
      have n8_ := Aside0.mk (below_step (hb_ HB) hb)
      clear HO_239003
      clear HO_239004
      clear HO_239005
      clear HO246
      clear HO249
      clear HO252
      clear BK210
      clear BK238
      clear HB
      have HO_239003 := n0_
      have HO_239004 := n1_
      have HO_239005 := n2_
      have HO246 := n3_
      have HO249 := n4_
      have HO252 := n5_
      have BK210 := n6_
      have BK238 := n7_
      have HB := n8_
      clear n0_ n1_ n2_ n3_ n4_ n5_ n6_ n7_ n8_
      (try clear hb)
      (try clear hb2)
      (try clear hk)
      (try clear hi)
      refine hK.out _ _ ⟨(blk_cell BK238.out 0).trans rfl, (blk_cell BK238.out 1).trans rfl, (blk_cell BK238.out 2).trans rfl, (blk_cell BK238.out 3).trans rfl, (blk_cell BK238.out 4).trans rfl, (blk_cell BK238.out 5).trans rfl, (blk_cell BK210.out 0).trans rfl, (blk_cell BK210.out 1).trans rfl, (blk_cell BK210.out 2).trans rfl, (blk_cell BK210.out 3).trans rfl, (blk_cell BK210.out 4).trans rfl, (blk_cell BK210.out 5).trans rfl⟩ (fun hHeld => ?_)
      clear hK K
      refine norm_ (a' := ?_) ?_ ?_
      rotate_left
      ·show Act.put _ (some 38) _ = _
       simp only [Act.put, List.setIfInBounds_toArray, List.set_cons_zero, List.set_cons_succ, i64_w, i32_w]
       rfl
      refine pure_ (i := 4) (N := some 39) (v := ?_) (a' := ?_) #[true, true, true, true, true] rfl rfl (by kernel_rfl) (fun _ _ _ h => h) (Or.inl ⟨by rfl, ?_⟩) ?_ ?_
      rotate_left
      ·intro w'
       go_simp
       with_reducible rfl
      rotate_left
      ·simp only [Act.put, List.setIfInBounds_toArray, List.set_cons_zero, List.set_cons_succ, i64_w, i32_w]
       rfl
      refine done_ (by kernel_rfl) ?_
      try go_wp2
      go_ret
      exact ⟨by first | rfl | (simp [errW_none, errW_some] <;> rfl) | (simp [*, errW_none, errW_some] <;> rfl), hb_ HB⟩
     ·replace c34 := Bool.eq_false_iff.mpr c34
      subst c34
      have H1 : (some false) = some r := by rw [if_neg (show ¬ (false = true) by decide)] at H; exact H
      clear H
      have H := H1
      clear H1
      obtain rfl := Option.some.inj H
      try go_wp2
      have n0_ := Aside0.mk (Kd.R_drew HO_239003.out)
      have n1_ := Aside0.mk (Kd.R_drew HO_239004.out)
      have n2_ := Aside0.mk (Kd.R_drew HO_239005.out)
      have n3_ := Aside0.mk (blk_drew BK210.out)
      have n4_ := Aside0.mk (blk_drew BK238.out)
      have n5_ := Aside0.mk (below_drew1 HB.out)
      clear HO_239003
      clear HO_239004
      clear HO_239005
      clear BK210
      clear BK238
      clear HB
      have HO_239003 := n0_
      have HO_239004 := n1_
      have HO_239005 := n2_
      have BK210 := n3_
      have BK238 := n4_
      have HB := n5_
      clear n0_ n1_ n2_ n3_ n4_ n5_
      refine start_ (n := 5) (S := fun w' => w'.cell? ⟨gb238, 0, none⟩ = some (.int .i64 t226) ∧ w'.cell? ⟨gb238, 1, none⟩ = some (.int .i64 t227) ∧ w'.cell? ⟨gb238, 2, none⟩ = some (.int .i64 t228) ∧ w'.cell? ⟨gb238, 3, none⟩ = some (.slice Ao26 t229.length co26) ∧ w'.cell? ⟨gb238, 4, none⟩ = some (.slice Ao27 t232.length co27) ∧ w'.cell? ⟨gb238, 5, none⟩ = some (.slice Ao28 t235.length co28) ∧ w'.cell? ⟨gb210, 0, none⟩ = some (.int .i64 a0_0) ∧ w'.cell? ⟨gb210, 1, none⟩ = some (.int .i64 a0_1) ∧ w'.cell? ⟨gb210, 2, none⟩ = some (.int .i64 a0_2) ∧ w'.cell? ⟨gb210, 3, none⟩ = some (.slice A0_3 l0_3.length c0_3) ∧ w'.cell? ⟨gb210, 4, none⟩ = some (.slice A0_4 l0_4.length c0_4) ∧ w'.cell? ⟨gb210, 5, none⟩ = some (.slice A0_5 l0_5.length c0_5)) (ds := []) #[false, false, false, false, false] (by kernel_rfl) rfl rfl ⟨(blk_cell BK238.out 0).trans rfl, (blk_cell BK238.out 1).trans rfl, (blk_cell BK238.out 2).trans rfl, (blk_cell BK238.out 3).trans rfl, (blk_cell BK238.out 4).trans rfl, (blk_cell BK238.out 5).trans rfl, (blk_cell BK210.out 0).trans rfl, (blk_cell BK210.out 1).trans rfl, (blk_cell BK210.out 2).trans rfl, (blk_cell BK210.out 3).trans rfl, (blk_cell BK210.out 4).trans rfl, (blk_cell BK210.out 5).trans rfl⟩ (fun hHeld => ?_)
      generalize wc.drew = w41 at HO_239003 HO_239004 HO_239005 BK210 BK238 HB hHeld ⊢
      refine take_ (i := 0) (N := some 35) (v := ?_) (a' := ?_) #[true, false, false, false, false] rfl rfl (by kernel_rfl) (fun _ _ _ h => h) (Or.inl ⟨by rfl, ?_⟩) hHeld ?_ ?_
      rotate_left
      ·rintro w' ⟨s0, s1, s2, s3, s4, s5, s6, s7, s8, s9, s10, s11⟩
       go_simp
       with_reducible rfl
      rotate_left
      ·simp only [Act.put, List.setIfInBounds_toArray, List.set_cons_zero, List.set_cons_succ, i64_w, i32_w]
       rfl
      refine take_ (i := 1) (N := some 36) (v := ?_) (a' := ?_) #[true, true, false, false, false] rfl rfl (by kernel_rfl) (fun _ _ _ h => h) (Or.inl ⟨by rfl, ?_⟩) hHeld ?_ ?_
      rotate_left
      ·rintro w' ⟨s0, s1, s2, s3, s4, s5, s6, s7, s8, s9, s10, s11⟩
       go_simp
       with_reducible rfl
      rotate_left
      ·simp only [Act.put, List.setIfInBounds_toArray, List.set_cons_zero, List.set_cons_succ, i64_w, i32_w]
       rfl
      refine one_ (i := 2) (N := some 37) #[true, true, true, false, false] rfl rfl (by kernel_rfl) (by decide) (fun K hK => ?_)
      refine goes_ Tryd.func6 (by kernel_rfl) rfl #[.agg #[.int .i64 a0_0, .int .i64 a0_1, .int .i64 a0_2, .slice A0_3 l0_3.length c0_3, .slice A0_4 l0_4.length c0_4, .slice A0_5 l0_5.length c0_5]] (by rfl) rfl rfl (by (try simp only [List.map_toArray, List.map_cons, List.map_nil]); first | done | rfl | (simp only [List.length_drop, List.length_take]; rfl)) ?_
      with_reducible refine (laws_toModel.calls kj10 a0_0 a0_1 a0_2 _ _ l0_3 _ _ l0_4 _ _ l0_5 t241 t242 t243 t244 t247 t250 _ ?side1 ?side2 ?side3 ?side4 ?side5 ?side6 A32.out).mono ?_
      (case side1 => exact Kd.C_w HR0_3 HB)
      (case side2 => exact HC0_3.out)
      (case side3 => exact Kd.C_w HR0_4 HB)
      (case side4 => exact HC0_4.out)
      (case side5 => exact Kd.C_w HR0_5 HB)
      (case side6 => exact HC0_5.out)
      rintro e w42 ⟨v245, v248, v251, rfl, ho0, ho1, ho2, hb⟩
      refine ⟨_, rfl, ?_⟩
      have n0_ := Aside0.mk (Kd.R_mono (Kd.R_told (Kd.R_told (Kd.R_told (Kd.R_old (Kd.R_p HO_239003) hb) (Kd.R_base ho0)) (Kd.R_base ho1)) (Kd.R_base ho2)) (fun _ h_ => h_.1))
      have n1_ := Aside0.mk (Kd.R_mono (Kd.R_told (Kd.R_told (Kd.R_told (Kd.R_old (Kd.R_p HO_239004) hb) (Kd.R_base ho0)) (Kd.R_base ho1)) (Kd.R_base ho2)) (fun _ h_ => h_.1))
      have n2_ := Aside0.mk (Kd.R_mono (Kd.R_told (Kd.R_told (Kd.R_told (Kd.R_old (Kd.R_p HO_239005) hb) (Kd.R_base ho0)) (Kd.R_base ho1)) (Kd.R_base ho2)) (fun _ h_ => h_.1))
      have n3_ := Aside0.mk (Kd.R_lower (Kd.R_nw (Kd.R_nw (Kd.R_nw ho0 HO_239003) HO_239004) HO_239005) (below_size (hb_ HB)))
      have n4_ := Aside0.mk (Kd.R_lower (Kd.R_nw (Kd.R_nw (Kd.R_nw ho1 HO_239003) HO_239004) HO_239005) (below_size (hb_ HB)))
      have n5_ := Aside0.mk (Kd.R_lower (Kd.R_nw (Kd.R_nw (Kd.R_nw ho2 HO_239003) HO_239004) HO_239005) (below_size (hb_ HB)))
      have n6_ := Aside0.mk (blk_below (kp_ BK210) hb)
      have n7_ := Aside0.mk (blk_below (kp_ BK238) hb)
      have n8_ := Aside0.mk (below_step (hb_ HB) hb)
      clear HO_239003
      clear HO_239004
      clear HO_239005
      clear BK210
      clear BK238
      clear HB
      have HO_239003 := n0_
      have HO_239004 := n1_
      have HO_239005 := n2_
      have HO246 := n3_
      have HO249 := n4_
      have HO252 := n5_
      have BK210 := n6_
      have BK238 := n7_
      have HB := n8_
      clear n0_ n1_ n2_ n3_ n4_ n5_ n6_ n7_ n8_
      (try clear hb)
      (try clear hb2)
      (try clear hk)
      (try clear hi)
      (try clear ho0)
      (try clear ho1)
      (try clear ho2)
      obtain ⟨Ao43, co43, eo43⟩ := Kd.R_slice HO246.out
      (first | subst eo43 | (injection eo43 with f1_ f2_ f3_; have f4_ := f1_.symm; have f5_ := f3_.symm; clear f1_ f2_ f3_; subst f4_; subst f5_))
      obtain ⟨Ao44, co44, eo44⟩ := Kd.R_slice HO249.out
      (first | subst eo44 | (injection eo44 with f1_ f2_ f3_; have f4_ := f1_.symm; have f5_ := f3_.symm; clear f1_ f2_ f3_; subst f4_; subst f5_))
      obtain ⟨Ao45, co45, eo45⟩ := Kd.R_slice HO252.out
      (first | subst eo45 | (injection eo45 with f1_ f2_ f3_; have f4_ := f1_.symm; have f5_ := f3_.symm; clear f1_ f2_ f3_; subst f4_; subst f5_))
      refine hK.out _ _ ⟨(blk_cell BK238.out 0).trans rfl, (blk_cell BK238.out 1).trans rfl, (blk_cell BK238.out 2).trans rfl, (blk_cell BK238.out 3).trans rfl, (blk_cell BK238.out 4).trans rfl, (blk_cell BK238.out 5).trans rfl, (blk_cell BK210.out 0).trans rfl, (blk_cell BK210.out 1).trans rfl, (blk_cell BK210.out 2).trans rfl, (blk_cell BK210.out 3).trans rfl, (blk_cell BK210.out 4).trans rfl, (blk_cell BK210.out 5).trans rfl⟩ (fun hHeld => ?_)
      clear hK K
      refine norm_ (a' := ?_) ?_ ?_
      rotate_left
      ·show Act.put _ (some 37) _ = _
       simp only [Act.put, List.setIfInBounds_toArray, List.set_cons_zero, List.set_cons_succ, i64_w, i32_w]
       rfl
      refine one_ (i := 3) (N := some 38) #[true, true, true, true, false] rfl rfl (by kernel_rfl) (by decide) (fun K hK => ?_)
      refine goes_ Tryd.func8 (by kernel_rfl) rfl #[.agg #[.int .i64 t226, .int .i64 t227, .int .i64 t228, .slice Ao26 t229.length co26, .slice Ao27 t232.length co27, .slice Ao28 t235.length co28], .agg #[.int .i64 t241, .int .i64 t242, .int .i64 t243, .slice Ao43 t244.length co43, .slice Ao44 t247.length co44, .slice Ao45 t250.length co45]] (by rfl) rfl rfl (by (try simp only [List.map_toArray, List.map_cons, List.map_nil]); first | done | rfl | (simp only [List.length_drop, List.length_take]; rfl)) ?_
      with_reducible refine (laws_eqModel.calls kj10 t226 t227 t228 _ _ t229 _ _ t232 _ _ t235 t241 t242 t243 _ _ t244 _ _ t247 _ _ t250 false _ ?side1 ?side2 ?side3 ?side4 ?side5 ?side6 ?side7 ?side8 ?side9 ?side10 ?side11 ?side12 A33.out).mono ?_
      (case side1 => exact Kd.C_o HO_239003)
      (case side2 => exact (Kd.R_reads' HO_239003.out).2.1)
      (case side3 => exact Kd.C_o HO_239004)
      (case side4 => exact (Kd.R_reads' HO_239004.out).2.1)
      (case side5 => exact Kd.C_o HO_239005)
      (case side6 => exact (Kd.R_reads' HO_239005.out).2.1)
      (case side7 => exact Kd.C_o HO246)
      (case side8 => exact (Kd.R_reads' HO246.out).2.1)
      (case side9 => exact Kd.C_o HO249)
      (case side10 => exact (Kd.R_reads' HO249.out).2.1)
      (case side11 => exact Kd.C_o HO252)
      (case side12 => exact (Kd.R_reads' HO252.out).2.1)
      rintro e w46 ⟨rfl, hb⟩
      refine ⟨_, rfl, ?_⟩
      have n0_ := Aside0.mk (Kd.R_below (Kd.R_p HO_239003) hb)
      have n1_ := Aside0.mk (Kd.R_below (Kd.R_p HO_239004) hb)
      have n2_ := Aside0.mk (Kd.R_below (Kd.R_p HO_239005) hb)
      have n3_ := Aside0.mk (Kd.R_below (Kd.R_p HO246) hb)
      have n4_ := Aside0.mk (Kd.R_below (Kd.R_p HO249) hb)
      have n5_ := Aside0.mk (Kd.R_below (Kd.R_p HO252) hb)
      have n6_ := Aside0.mk (blk_below (kp_ BK210) hb)
      have n7_ := Aside0.mk (blk_below (kp_ BK238) hb)
      have n8_ := Aside0.mk (below_step (hb_ HB) hb)
      clear HO_239003
      clear HO_239004
      clear HO_239005
      clear HO246
      clear HO249
      clear HO252
      clear BK210
      clear BK238
      clear HB
      have HO_239003 := n0_
      have HO_239004 := n1_
      have HO_239005 := n2_
      have HO246 := n3_
      have HO249 := n4_
      have HO252 := n5_
      have BK210 := n6_
      have BK238 := n7_
      have HB := n8_
      clear n0_ n1_ n2_ n3_ n4_ n5_ n6_ n7_ n8_
      (try clear hb)
      (try clear hb2)
      (try clear hk)
      (try clear hi)
      refine hK.out _ _ ⟨(blk_cell BK238.out 0).trans rfl, (blk_cell BK238.out 1).trans rfl, (blk_cell BK238.out 2).trans rfl, (blk_cell BK238.out 3).trans rfl, (blk_cell BK238.out 4).trans rfl, (blk_cell BK238.out 5).trans rfl, (blk_cell BK210.out 0).trans rfl, (blk_cell BK210.out 1).trans rfl, (blk_cell BK210.out 2).trans rfl, (blk_cell BK210.out 3).trans rfl, (blk_cell BK210.out 4).trans rfl, (blk_cell BK210.out 5).trans rfl⟩ (fun hHeld => ?_)
      clear hK K
      refine norm_ (a' := ?_) ?_ ?_
      rotate_left
      ·show Act.put _ (some 38) _ = _
       simp only [Act.put, List.setIfInBounds_toArray, List.set_cons_zero, List.set_cons_succ, i64_w, i32_w]
       rfl
      refine pure_ (i := 4) (N := some 39) (v := ?_) (a' := ?_) #[true, true, true, true, true] rfl rfl (by kernel_rfl) (fun _ _ _ h => h) (Or.inl ⟨by rfl, ?_⟩) ?_ ?_
      rotate_left
      ·intro w'
       go_simp
       with_reducible rfl
      rotate_left
      ·simp only [Act.put, List.setIfInBounds_toArray, List.set_cons_zero, List.set_cons_succ, i64_w, i32_w]
       rfl
      refine done_ (by kernel_rfl) ?_
      try go_wp2
      go_ret
      exact ⟨by first | rfl | (simp [errW_none, errW_some] <;> rfl) | (simp [*, errW_none, errW_some] <;> rfl), hb_ HB⟩

end Go.Proofs.YtckhegdfabcehaaDoor.PFnExactModelText
